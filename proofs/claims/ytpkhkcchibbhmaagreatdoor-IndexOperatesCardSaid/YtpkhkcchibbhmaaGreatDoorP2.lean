/- Contracts of the program's functions, proved by walking them with the rules of the Gx texts; without conditions beyond those that each contract names. -/
import Derived.WalkKit
import Derived.Deep.Draws
import Derived.TacticsIn
import Derived.OrdersIn
import Derived.RangeFuncLeaves
import Derived.Lib.Strings
import Derived.Laws.BytesArg
import Derived.Laws.IdiomStrings
import Derived.Deep.Quiet
import Derived.ProofKit
import Derived.OpenShut
import Derived.Laws.StructEq
import Derived.ChangeKeysEq
import Derived.Laws.Externs
import Derived.Lib.Overlaps
import Derived.Carry
import Derived.Laws.Small
import Derived.Lib.Bytealg
import Derived.Lib.Builder
import Derived.Laws.Pointers
import Derived.RangeFuncRecord
import Derived.Test.YtpkhkcchibbhmaaGreatDoorProg
import Derived.KernelRfl
import Derived.Test.YtpkhkcchibbhmaaGreatDoorTie
import Derived.Test.YtpkhkcchibbhmaaGreatDoorCards
import Derived.SevenTiedAt
import Derived.LaidMore
import Derived.Lay
import Derived.Stop.Joined
import Derived.Test.YtpkhkcchibbhmaaGreatDoorP1
set_option linter.unusedSimpArgs false
set_option maxHeartbeats 1000000
set_option linter.unusedVariables false
set_option linter.unusedSectionVars false
set_option linter.unnecessarySimpa false
namespace Go.Proofs
open Go Go.RowKit Gx
attribute [local irreducible] Go.Calls Gx.S Gx.O Gx.D Gx.OpP Gx.OpQ Gx.OpH
set_option maxRecDepth 20000
instance:TFn Tryz.prog 128:=⟨by kernel_rfl⟩
theorem QlU:QY Tryz.prog 235=true:=by kernel_rfl
theorem QoS:tsz Tryz.prog 102=some (1,false):=by kernel_rfl
instance:TSz Tryz.prog 102 1 false:=⟨QoS⟩
theorem Qca:tsl Tryz.prog 102=some (4,1,1):=by kernel_rfl
theorem c128(w:World)(ua:Option Addr)(uc:Nat)(u:List Int)(n:Int)(hu:Rw inV 1 w [] ua u)(hum:u.length<=100000):CR 128 #[.slice ua u.length uc,.int .i64 n] w (.int .i64 (ixI (Z4 u n))):=by
 refine eN2 Tryz.func128 Tryz.ntmps128 ?_
 refine Zx ?_
 refine Qx (α:=Nat) [4,5,8,9,10,11,12,13,14,15,16,17,18] (λk=>[(8,.int .i64 (k:Int))]) (λ_=>_) (λk=>k<=u.length/\∀i,i<k->(Z4 u n).getD i false=false) (λk=>u.length-k) 0 ⟨Nat.zero_le _,λi h=>absurd h (Nat.not_lt_zero i)⟩ aSx (λw h=>h) (λk hkk=>?_)
 obtain⟨hk1,hk2⟩:=hkk
 refine aU5 ?_
 refine sCd rfl (λh1=>?_) λh1=>?_
 ·have hk:k<u.length:=by omega
  refine Qau ?_
  refine o_p (Qa rfl rfl rfl QA (k) om om (Rw.some hu om)) rfl (o_q (Qc rfl rfl X4 ((hu.rdj 0 hk rfl))) rfl (aU2 ?_))
  refine sCd rfl (λh2=>?_) λh2=>?_
  ·have hq9:n=u.getD k 0:=h2
   have e:=QaM (l:=Z4 u n) (k:=k) (by rw[YX];omega) hk2 (λ_=>by rw[QcZ hk];exact decide_eq_true hq9)
   refine aU5 ?_
   exact rV (h:=by simp only[Xf,ixI,e,YX];rw[if_pos hk])
  have hq9:¬n=u.getD k 0:=h2
  refine aT4 ?_
  refine aU2 ?_
  exact Q1 (k+1) om ⟨om,λi hi=>(Nat.lt_or_ge i k).elim (hk2 i) (λh=>by obtain rfl:i=k:=om;rw[QcZ hk];exact decide_eq_false hq9)⟩ aSx (λw h=>h)
 obtain rfl:k=u.length:=om
 refine Qn rfl ?_
 refine aU4 ?_
 exact rV (h:=by have e:=QaM (l:=Z4 u n) (k:=u.length) (by rw[YX];omega) hk2 (λh=>by rw[YX]at h;omega);simp only[Xf,ixI,e,YX];rw[if_neg om])
theorem c62(w:World)(ua:Option Addr)(uc:Nat)(u:List Int)(n:Int)(hu:Rw inV 1 w [] ua u)(hum:u.length<=100000):CR 62 #[.slice ua u.length uc,.int .i64 n] w (.bool (decide (n∈u))):=by
 refine eN2 Tryz.func62 Tryz.ntmps62 ?_
 refine aU8 ?_
 refine oCq rfl (λw1 h1=>c128 w1 ua uc u n (hu.later h1) hum) (aU3 ?_)
 exact rV (h:=by rw[<-QpL,<-Qfz];rfl)
def WkC(S:Type)(I:S->Prop)(C:S->HA)(st:S->Vis->S)(er:S->Vis->Int×Int)(q:Nat)(cv:Array Value)(bt:Nat)(j:Nat)(mo rm:Int)(a:Option Addr)(cap:Nat)(L:List LNd)(f:Nat):Prop:=∀(w:World)(s:S)(v:Vis)(pl ph:Option Addr)(P:List Nat),(HS w (fps [C s]) [C s] w)->(QY Tryz.prog q=true)->(∀s1 s2:S,(C s1).fp=(C s2).fp)->(∀s2 v2,I s2->I (st s2 v2))->(I s)->(∀(s2:S)(v2:Vis)(p2 p3:Option Addr)(w1:World),HS w (fps [C s]) [C s2] w1->I s2->v2.i<L.length->KOk (j:Int) v2.lo->KOk (j:Int) v2.hi->Qa3 w1 (fps [C s2]) p2 v2.lo->Qa3 w1 (fps [C s2]) p3 v2.hi->Calls Tryz.prog q (#[]++[.int .i64 (v2.i:Int),.int .i64 v2.d,.pointer p2,.pointer p3].toArray++cv) w1 λen w2=>∃g:Unit,en=.returned (.tuple #[.int .i64 (er s2 v2).1,.int .i64 (er s2 v2).2])/\True/\HS w1 (fps [C s2]) [C (st s2 v2)] w2)->(TbR w (fps [C s]) bt (j:Int) mo rm a L.length cap)->(Nt w (fps [C s]) a L)->(TOk (j:Int) (pln L))->(Bd (pln L))->(Qa3 w (fps [C s]) pl v.lo)->(Qa3 w (fps [C s]) ph v.hi)->(0<L.length)->(Gx.Way (pln L) (v.i::P))->(P.length+f=L.length)->(v.d=(P.length:Int)+1)->(KOk (j:Int) v.lo)->(KOk (j:Int) v.hi)->Calls Tryz.prog 235 #[.pointer (some ⟨bt,0,none⟩),.int .i64 (v.i:Int),.int .i64 v.d,.pointer pl,.pointer ph,.func (.func q) #[] cv] w λen w'=>∃g:Unit,en=.returned (.tuple #[.int .i64 (Yb st er s (vis (pln L) f v)).1.1,.int .i64 (Yb st er s (vis (pln L) f v)).1.2])/\True/\HS w (fps [C s]) [C (Yb st er s (vis (pln L) f v)).2] w'
theorem Qwa(w:World)(S:Type)(I:S->Prop)(C:S->HA)(st:S->Vis->S)(er:S->Vis->Int×Int)(q:Nat)(cv:Array Value)(bt:Nat)(j:Nat)(mo rm:Int)(a:Option Addr)(cap:Nat)(L:List LNd)(s:S)(v:Vis)(pl ph:Option Addr)(P:List Nat)(f:Nat)(hw:HS w (fps [C s]) [C s] w)(hq:QY Tryz.prog q=true)(hfp:∀s1 s2:S,(C s1).fp=(C s2).fp)(hI:∀s2 v2,I s2->I (st s2 v2))(hIs:I s)(hv:∀(s2:S)(v2:Vis)(p2 p3:Option Addr)(w1:World),HS w (fps [C s]) [C s2] w1->I s2->v2.i<L.length->KOk (j:Int) v2.lo->KOk (j:Int) v2.hi->Qa3 w1 (fps [C s2]) p2 v2.lo->Qa3 w1 (fps [C s2]) p3 v2.hi->Calls Tryz.prog q (#[]++[.int .i64 (v2.i:Int),.int .i64 v2.d,.pointer p2,.pointer p3].toArray++cv) w1 λen w2=>∃g:Unit,en=.returned (.tuple #[.int .i64 (er s2 v2).1,.int .i64 (er s2 v2).2])/\True/\HS w1 (fps [C s2]) [C (st s2 v2)] w2)(ht:TbR w (fps [C s]) bt (j:Int) mo rm a L.length cap)(hs:Nt w (fps [C s]) a L)(hT:TOk (j:Int) (pln L))(hB:Bd (pln L))(hpl:Qa3 w (fps [C s]) pl v.lo)(hph:Qa3 w (fps [C s]) ph v.hi)(h0:0<L.length)(hway:Gx.Way (pln L) (v.i::P))(hf:P.length+(f+1)=L.length)(hd:v.d=(P.length:Int)+1)(hko:KOk (j:Int) v.lo)(hkp:KOk (j:Int) v.hi)(ih:WkC S I C st er q cv bt j mo rm a cap L f):CE 235 #[.pointer (some ⟨bt,0,none⟩),.int .i64 (v.i:Int),.int .i64 v.d,.pointer pl,.pointer ph,.func (.func q) #[] cv] w (fps [C s]) (λg:Unit=>.tuple #[.int .i64 (Yb st er s (vis (pln L) (f+1) v)).1.1,.int .i64 (Yb st er s (vis (pln L) (f+1) v)).1.2]) (λg=>True) λg=>[C (Yb st er s (vis (pln L) (f+1) v)).2]:=by
 have hi0:=QcL hT (by rw[Qb];exact h0) hway v.i (List.mem_cons_self ..)
 have hi:v.i<L.length:=by rw[Qb]at hi0;exact hi0
 have hn:=Ql hi
 have hle:=hB.len
 rw[Qb]at hle
 have hel:=hB.es v.i hi0
 have hcl:=hB.cs v.i hi0
 rw[hn]at hel hcl
 simp only[LNd.pl]at hel hcl
 have hsh:=hT.shape v.i hi0
 rw[hn]at hsh
 simp only[LNd.pl]at hsh
 refine eW6 Tryz.func235 Tryz.ntmps235 hw ?_
 refine Qau ?_
 refine o_h (Qkl (Cs:=[C s]) rfl rfl hq rfl aPs (λw1 h1 hf9=>hv s v pl ph w1 (h1.ent aEt) hIs hi hko hkp ((hpl.keep h1).mono (XB aPs)) ((hph.keep h1).mono (XB aPs)))) rfl (λ_ _=>Zl ?_)
 refine sCd rfl (λh1=>?_) λh1=>?_
 ·have hz:Yb st er s (vis (pln L) (f+1) v)=(er s v,st s v):=by rw[vis,Yb,if_neg h1]
  refine aU7 ?_
  exact Qk (rs:=[.tmp 12,.tmp 13]) rfl (.tmp rfl (.tmp rfl (.nil))) (λw' h'=>⟨(),by rw[hz];rfl,trivial,by rw[hz];exact h'.ent aEt⟩)
 have hz0:Yb st er s [v]=((0,0),st s v):=by rw[Yb,if_pos h1,Yb]
 refine aU7 ?_
 refine o_q (Qc rfl rfl Yl (ht 3 _ rfl)) rfl (aU ?_)
 refine o_p (Qa rfl rfl rfl Qw (v.i) om om (Rw.some hs.1 om)) rfl (o_q (QB _ rfl rfl Xs rfl (Rw.rd hs.1 hi)) rfl (oAl (λb2 _=>?_) Xj))
 refine aU4 ?_
 refine Qg (L':=[(0,_),(2,_),(3,_),(4,_),(5,_),(12,_),(13,_),(16,_)]) aSx (λ_ h=>h) ?_
 refine aU7 ?_
 refine Qx (α:=Nat×S) [12,13,17,18,19,20,21,22,47,48,49,50,51,52,53,54,55,56,57,58,59,60,61,62,63,64,65,66,67,68,69,70,71,72,73,74,75,76,77,78,79,80,81,82,83,84,85,86,87] (λx=>[(47,.int .i64 (x.1:Int))]) (λx=>HS w (fps [C s]) [.blk b2 69 3 (nth L v.i).vals,C x.2]) (λx=>x.1<=(nth L v.i).cs.length/\(Yb st er s (QbY (pln L) f v x.1)).1.2=0/\(Yb st er s (QbY (pln L) f v x.1)).2=x.2) (λx=>(nth L v.i).cs.length-x.1) (0,st s v) ⟨Nat.zero_le _,by rw[QlJ,hz0],by rw[QlJ,hz0]⟩ aSx (λw h=>h.ent aEt) (λ⟨k,sk⟩hx=>?_)
 dsimp only
 obtain⟨hk1,hk2,hk3⟩:=hx
 simp only[]at hk1 hk2 hk3
 refine aU5 ?_
 refine sCd rfl (λh3=>?_) λh3=>?_
 ·have hkl:k<(nth L v.i).cs.length:=by omega
  have hkid:=Qd2 hT hi0 (k:=k) (by rw[hn];exact hkl)
  have hwk:=Qb5 hway hi0 (k:=k) (by rw[hn];exact hkl) om
  have hki:((Yj (pln L) v k).i:Int)=(nth L v.i).cs.getD k 0:=by unfold Yj;rw[hn]at hkid ⊢;simp only[LNd.pl]at hkid ⊢;rw[Int.toNat_of_nonneg om]
  rw[Qb]at hkid
  refine aU6 ?_
  refine o_p (Qa rfl rfl rfl QA (k) om om (Rw.some (hs.cs hi) om)) rfl (o_q (Qc rfl rfl X4 (((hs.cs hi).rdj 0 (i:=k) hkl rfl))) rfl (aU2 ?_))
  refine Qh (show _=Value.int .i64 ((Yj (pln L) v k).i:Int)from by rw[hki];rfl) (QeV ?_)
  refine XY (α:=Option Addr) [19,56,57,58,59,60,61] (λp=>[(19,.pointer p)]) (λ_=>HS w (fps [C s]) [.blk b2 69 3 (nth L v.i).vals,C sk]) (λp=>Qa3 w (fps [C s]) p (loK (nth L v.i).es k v.lo)) ?_ ?_
  ·skip
   refine sCd rfl (λh4=>?_) λh4=>?_
   ·refine aT5 ?_
    refine o_p (Qa rfl rfl rfl QN (k-1) om om (Rw.some (hs.es hi) om)) rfl (aU3 ?_)
    exact Qo (some ⟨ab (nth L v.i).ea,ao (nth L v.i).ea+(k-1)*2,none⟩) (by rw[show loK (nth L v.i).es k v.lo=some (nth (nth L v.i).es (k-1)).key from if_pos om];exact⟨_,_,rfl,((hs.es hi).rdj 0 om rfl)⟩) aSx (λw h=>h.ent aEt)
   refine aU ?_
   exact Qo pl (by rw[show loK (nth L v.i).es k v.lo=v.lo from if_neg om];exact hpl) aSx (λw h=>h.ent aEt)
  intro p1 hp1
  refine aU9 ?_
  refine Qg (L':=[(0,_),(2,_),(3,_),(4,_),(5,_),(16,_),(17,_),(18,_),(19,_),(20,_),(44,_),(45,_),(46,_),(47,_),(66,_)]) aSx (λ_ h=>h) ?_
  refine XY (α:=Option Addr) [20,67,68,69,70,71] (λp=>[(20,.pointer p)]) (λ_=>HS w (fps [C s]) [.blk b2 69 3 (nth L v.i).vals,C sk]) (λp=>Qa3 w (fps [C s]) p (hiK (nth L v.i).es k v.hi)) ?_ ?_
  ·skip
   refine sCd rfl (λh5=>?_) λh5=>?_
   ·refine aU4 ?_
    refine o_p (Qa rfl rfl rfl QN (k) om om (Rw.some (hs.es hi) om)) rfl (aU3 ?_)
    exact Qo (some ⟨ab (nth L v.i).ea,ao (nth L v.i).ea+k*2,none⟩) (by rw[show hiK (nth L v.i).es k v.hi=some (nth (nth L v.i).es k).key from if_pos om];exact⟨_,_,rfl,((hs.es hi).rdj 0 om rfl)⟩) aSx (λw h=>h.ent aEt)
   refine aU ?_
   exact Qo ph (by rw[show hiK (nth L v.i).es k v.hi=v.hi from if_neg om];exact hph) aSx (λw h=>h.ent aEt)
  intro p2 hp2
  refine aT6 ?_
  refine aU3 ?_
  refine o_h (QM (Cs:=[C sk]) rfl QlU rfl aPs (λw1 h1 hf9=>ih w1 sk (Yj (pln L) v k) p1 p2 (v.i::P) hf9 hq hfp hI (hk3▸QkN hI _ _ hIs) (λs2 v2 p3 p4 w2 h2 hs2 hi2 ha2 hb2 hp3 hp4=>hv s2 v2 p3 p4 w2 (HS.thenF (h1.ent (Bs:=[C sk]) aEt) h2) hs2 hi2 ha2 hb2 hp3 hp4) ((ht.keep h1).mono (XB aPs)) ((hs.keep h1).mono (XB aPs)) hT hB (by unfold Yj;rw[hn];exact(hp1.keep h1).mono (XB aPs)) (by unfold Yj;rw[hn];exact(hp2.keep h1).mono (XB aPs)) h0 hwk (by simp only[List.length_cons];omega) (by show v.d+1=_;simp only[List.length_cons];omega) (Qf9 hT hi0 (by rw[hn];simp only[LNd.pl];omega) hko) (Qgo hT hi0 hkp))) rfl (λ_ _=>Zl ?_)
  refine sCd rfl (λh6=>?_) λh6=>?_
  ·have e9:Yb st er s (QbY (pln L) f v k++vis (pln L) f (Yj (pln L) v k))=Yb st er sk (vis (pln L) f (Yj (pln L) v k)):=by rw[Qmv _ _ hk2,hk3]
   have hz:Yb st er s (vis (pln L) (f+1) v)=Yb st er sk (vis (pln L) f (Yj (pln L) v k)):=by rw[Z6,hn];simp only[LNd.pl];obtain⟨B,eB⟩:=QbF (pln L) f v (show k+1<=(nth L v.i).cs.length by omega);rw[eB,Yv,QpR _ _ (by rw[e9];exact h6),e9]
   refine aU ?_
   refine Qg (L':=[(0,_),(2,_),(3,_),(4,_),(5,_),(16,_),(21,_),(22,_),(44,_),(45,_),(46,_),(47,_)]) aSx (λ_ h=>h) ?_
   refine aU6 ?_
   exact Qk (rs:=[.tmp 12,.tmp 13]) rfl (.tmp rfl (.tmp rfl (.nil))) (λw' h'=>⟨(),by rw[hz];rfl,trivial,by rw[hz];exact h'.ent aEt⟩)
  have hz:Yb st er s (QbY (pln L) f v (k+1))=Yb st er sk (vis (pln L) f (Yj (pln L) v k)):=by rw[Yv,Qmv _ _ hk2,hk3]
  refine aU2 ?_
  refine Qg (L':=[(0,_),(2,_),(3,_),(4,_),(5,_),(16,_),(44,_),(45,_),(46,_),(47,_)]) aSx (λ_ h=>h) ?_
  refine aT2 ?_
  refine aU2 ?_
  exact sBk (k+1,(Yb st er sk (vis (pln L) f (Yj (pln L) v k))).2) (by(try simp only[]);omega) ⟨by(try simp only[]);omega,by simp only[];rw[hz];exact h6,by simp only[];rw[hz]⟩
 refine Qn rfl ?_
 refine aU5 ?_
 exact Qk (rs:=[.tmp 12,.tmp 13]) rfl (.tmp rfl (.tmp rfl (.nil))) (λw' h'=>⟨(),by have hke:k=(nth L v.i).cs.length:=om;rw[Z6,hn];simp only[LNd.pl];rw[<-hke,QqV _ _ hk2];rfl,trivial,by have hke:k=(nth L v.i).cs.length:=om;rw[Z6,hn];simp only[LNd.pl];rw[<-hke,hk3];exact h'.ent aEt⟩)
theorem Qlt(S:Type)(I:S->Prop)(C:S->HA)(st:S->Vis->S)(er:S->Vis->Int×Int)(q:Nat)(cv:Array Value)(bt:Nat)(j:Nat)(mo rm:Int)(a:Option Addr)(cap:Nat)(L:List LNd):∀f,WkC S I C st er q cv bt j mo rm a cap L f
  | 0=>λw s v pl ph P hw hq hfp hI hIs hv ht hs hT hB hpl hph h0 hway hf hd hko hkp=>by
    have hl:=YP hT (by rw[Qb];exact h0) hway;rw[Qb]at hl;simp only[List.length_cons]at hl;omega
  | f+1=>λw s v pl ph P hw hq hfp hI hIs hv ht hs hT hB hpl hph h0 hway hf hd hko hkp=>Qwa w S I C st er q cv bt j mo rm a cap L s v pl ph P f hw hq hfp hI hIs hv ht hs hT hB hpl hph h0 hway hf hd hko hkp (Qlt S I C st er q cv bt j mo rm a cap L f)
theorem c236(w:World)(i:Nat)(d:Int)(pl ph:Option Addr)(c4 bb n:Nat)(s:List Bool)(hw:HS w (fps [.blk bb 4 n (s.map Value.bool)]) [.blk bb 4 n (s.map Value.bool)] w)(hc4:Rd w (fps [.blk bb 4 n (s.map Value.bool)]) c4 0 (.slice (some ⟨bb,0,none⟩) n n))(hi:i<n)(hn:s.length=n):CE 236 #[.int .i64 (i:Int),.int .i64 d,.pointer pl,.pointer ph,.pointer (some ⟨c4,0,none⟩)] w (fps [.blk bb 4 n (s.map Value.bool)]) (λg:Unit=>.tuple #[.int .i64 0,.int .i64 0]) (λg=>True) λg=>[.blk bb 4 n ((s.set i true).map Value.bool)]:=by
 refine eW5 Tryz.func236 Tryz.ntmps236 hw ?_
 refine aU7 ?_
 refine o_q (Qc rfl rfl QoS (hc4)) rfl (aU ?_)
 refine o_p (Qa rfl rfl rfl Qca (i) om om rfl) rfl (ZV (Xo rfl rfl rfl Qcy rfl aPt (by first|(simp only[List.length_map,List.length_singleton,List.length_cons,List.length_nil];omega)|(simp;omega)) rfl) (λ_ _=>aU6 ?_))
 exact Qk (rs:=[.tmp 9,.tmp 10]) rfl (.tmp rfl (.tmp rfl (.nil))) (λw' h'=>⟨(),rfl,trivial,by have h2:=h';rw[List.map_set];simp only[Qu,Nat.zero_add,Nat.mul_one]at h2;exact h2.ent aEt⟩)
instance:TFn Tryz.prog 62:=⟨by kernel_rfl⟩
theorem QlP:QY Tryz.prog 173=true:=by kernel_rfl
theorem QiI:QtR Tryz.prog 266 9:=Qsq Tryz.underlying266 Zt (by decide)
theorem c237(w:World)(v:Vis)(pl ph:Option Addr)(c1 c7:Nat)(s:Int)(bt:Nat)(j:Nat)(mo rm:Int)(a:Option Addr)(cap:Nat)(L:List LNd)(hw:HS w (fps [.blk c7 3 1 [.int .i64 s]]) [.blk c7 3 1 [.int .i64 s]] w)(hc1:Rd w (fps [.blk c7 3 1 [.int .i64 s]]) c1 0 (.pointer (some ⟨bt,0,none⟩)))(ht:TbR w (fps [.blk c7 3 1 [.int .i64 s]]) bt (j:Int) mo rm a L.length cap)(hs:Nt w (fps [.blk c7 3 1 [.int .i64 s]]) a L)(hj:j<=3)(hmo:0<=mo/\mo<=1000)(hi:v.i<L.length)(hl:L.length<=1000)(hel:(nth L v.i).es.length<=1000)(hcl:(nth L v.i).cs.length<=1000)(hc0:(nth L 0).cs.length<=1000)(he0:(nth L 0).es.length<=1000)(hpl:Qa3 w (fps [.blk c7 3 1 [.int .i64 s]]) pl v.lo)(hph:Qa3 w (fps [.blk c7 3 1 [.int .i64 s]]) ph v.hi)(hlo:∀k,v.lo=some k->(QW (j:Int) k=true/\k.length<=1000000))(hhi:∀k,v.hi=some k->(QW (j:Int) k=true/\k.length<=1000000))(hok:∀x∈(nth L v.i).es,QW (j:Int) x.key=true/\x.key.length<=1000000):CE 237 #[.int .i64 (v.i:Int),.int .i64 v.d,.pointer pl,.pointer ph,.pointer (some ⟨c1,0,none⟩),.pointer (some ⟨c7,0,none⟩)] w (fps [.blk c7 3 1 [.int .i64 s]]) (λg:Unit=>.tuple #[.int .i64 (erV (⟨(j:Int),mo,rm,pln L⟩:Tre) s v).1,.int .i64 (erV (⟨(j:Int),mo,rm,pln L⟩:Tre) s v).2]) (λg=>True) λg=>[.blk c7 3 1 [.int .i64 (stV (⟨(j:Int),mo,rm,pln L⟩:Tre) s v)]]:=by
 have h00:0<L.length:=om
 have hn:nth (pln L) v.i=(nth L v.i).pl:=Ql hi
 have hn0:nth (pln L) 0=(nth L 0).pl:=Ql h00
 have hG:Z8 (⟨(j:Int),mo,rm,pln L⟩:Tre) v=(decide (0<v.i)&&(decide (((nth L v.i).es.length:Int)<mo/2)||((decide (((nth L 0).es.length:Int)=0)&&decide ((v.i:Int)∈(nth L 0).cs))&&decide (((nth L v.i).es.length:Int)<=rm)))):=by unfold Z8;rw[hn,hn0];simp only[LNd.pl];congr 3;congr 1;apply decide_eq_decide.2;omega
 have hO:Z2 (⟨(j:Int),mo,rm,pln L⟩:Tre) v=(nth L v.i).es.any (Qaq (⟨(j:Int),mo,rm,pln L⟩:Tre) v):=by unfold Z2;rw[hn];rfl
 have hE:erV (⟨(j:Int),mo,rm,pln L⟩:Tre) s v=((v.i:Int),if Z8 (⟨(j:Int),mo,rm,pln L⟩:Tre) v=true then 14 else if Z2 (⟨(j:Int),mo,rm,pln L⟩:Tre) v=true then 9 else if(nth L v.i).cs.length=0 then(if(if s=0 then v.d else s)=v.d then 0 else 22)else 0):=by unfold erV;rw[hn];rfl
 have hS:stV (⟨(j:Int),mo,rm,pln L⟩:Tre) s v=if Z8 (⟨(j:Int),mo,rm,pln L⟩:Tre) v=true then s else if Z2 (⟨(j:Int),mo,rm,pln L⟩:Tre) v=true then s else if(nth L v.i).cs.length=0 then(if s=0 then v.d else s)else s:=by unfold stV;rw[hn];rfl
 refine eW6 Tryz.func237 Tryz.ntmps237 hw ?_
 refine aU7 ?_
 refine o_q (Qc rfl rfl YW (hc1)) rfl (aU3 ?_)
 refine o_q (Qc rfl rfl Yl (ht 3 _ rfl)) rfl (aU ?_)
 refine o_p (Qa rfl rfl rfl Qw (v.i) om om (Rw.some hs.1 om)) rfl (o_q (QB _ rfl rfl Xs rfl (Rw.rd hs.1 hi)) rfl (oAl (λb1 _=>?_) Xj))
 refine aU5 ?_
 refine o_q (Qc rfl rfl YW (hc1)) rfl (aU3 ?_)
 refine o_q (Qc rfl rfl Yl (ht 3 _ rfl)) rfl (o_p (Qa rfl rfl rfl Qw (0) om om (Rw.some hs.1 om)) rfl (o_q (QB _ rfl rfl Xs rfl (Rw.rd hs.1 (i:=0) h00)) rfl (oAl (λb2 _=>?_) Xj)))
 refine aU7 ?_
 refine Qg (L':=[(0,_),(1,_),(2,_),(3,_),(4,_),(5,_),(10,_),(11,_),(12,_),(13,_),(33,_)]) aSx (λ_ h=>h) ?_
 refine XY (α:=Unit) [10,11,14,34,35,36,37,38,39,40,41,42,43,44,45,46,47,48,49,50,51,52,53,54,55,56,57,58,59,60,61,62,63,64] (λ_=>[]) (λ_=>HS w (fps [.blk c7 3 1 [.int .i64 s]]) [.blk b2 69 3 (nth L 0).vals,.blk b1 69 3 (nth L v.i).vals,.blk c7 3 1 [.int .i64 s]]) (λ_=>Z8 (⟨(j:Int),mo,rm,pln L⟩:Tre) v=false) ?_ ?_
 ·skip
  refine sCd rfl (λh3=>?_) λh3=>?_
  ·refine aU7 ?_
   refine XF 5 38 43 rfl
    (λhg4 _=>by
     refine aU7 ?_
     refine oCq rfl (λw1 h1=>c62 w1 (nth L 0).ca (nth L 0).cc (nth L 0).cs (v.i:Int) ((hs.cs h00).later h1) om) ?_
     exact oJt 5 43)
    (λhg6 _=>by
     refine aU4 ?_
     exact oJf 5 43) ?_
   refine aU3 ?_
   refine XY (α:=Unit) [44,45,46,47,48,49,50,51,52,53,54,55,56,57,58,59,60,61,62,63] (λ_=>[(63,.bool (decide (((nth L v.i).es.length:Int)<mo/2)||((decide (((nth L 0).es.length:Int)=0)&&decide ((v.i:Int)∈(nth L 0).cs))&&decide (((nth L v.i).es.length:Int)<=rm))))]) (λ_=>HS w (fps [.blk c7 3 1 [.int .i64 s]]) [.blk b2 69 3 (nth L 0).vals,.blk b1 69 3 (nth L v.i).vals,.blk c7 3 1 [.int .i64 s]]) (λ_=>True) ?_ ?_
   ·skip
    refine Qt [] QC ?_
    refine dFa 0 ?_
    refine dLd 1 [] ?_
    refine dV 2 rfl (QS rfl rfl Tryz.underlying67) (dQ 3 [] rfl (Qc rfl rfl YW (hc1)) (dQ 4 [] rfl (Qv rfl QlP rfl (λw1 h1=>Qvd w1 bt j mo rm a L.length cap hmo (ht.next h1))) (dP 5 ?_)))
    refine dP 6 ?_
    apply XA 50
    ·exact rfl
    ·intro hg8
     have hs9:=hg8;try simp only[dT]at hs9
     refine dOf 7 50 hg8 ?_
     refine dOf 8 50 hg8 ?_
     refine dOu 9 52 ?_
     refine dOu 10 52 ?_
     refine dOu 11 52 ?_
     refine dOu 12 52 ?_
     refine dOu 13 52 ?_
     refine dOu 14 52 ?_
     refine dOu 15 52 ?_
     refine dOu 16 52 ?_
     refine dOu 17 52 ?_
     refine dOf 18 50 hg8 ?_
     refine dV 19 rfl (Xv rfl rfl hg8 rfl) (Qr (show _=Value.bool (decide (((nth L v.i).es.length:Int)<mo/2)||((decide (((nth L 0).es.length:Int)=0)&&decide ((v.i:Int)∈(nth L 0).cs))&&decide (((nth L v.i).es.length:Int)<=rm)))from by congr 1;first|(simp_all;done)|(simp_all;omega)) (dNi ?_))
     exact Qo () trivial aSx (λw h=>h.ent aEt)
    intro hg10
    have hs11:=hg10;try simp only[dN]at hs11
    refine dPo 7 50 hg10 ?_
    refine dPo 8 50 hg10 ?_
    apply XA 52
    ·exact rfl
    ·intro hg12
     have hs13:=hg12;try simp only[Bool.and_eq_true,decide_eq_true_eq]at hs13
     refine dFo 9 52 hg12 ?_
     refine dQo 10 52 [] hg12 rfl rfl rfl (X8 rfl rfl Xq aPk rfl) ?_
     refine dVo 11 52 hg12 rfl rfl rfl (QS rfl rfl Tryz.underlying67) ?_
     refine dQo 12 52 [] hg12 rfl rfl rfl (Qc rfl rfl YW (hc1)) ?_
     refine dPo 13 52 hg12 ?_
     refine dFo 14 52 hg12 ?_
     refine dFo 15 52 hg12 ?_
     refine dQo 16 52 [] hg12 rfl rfl rfl (Qc rfl rfl X4 (ht 2 _ rfl)) ?_
     refine dPo 17 52 hg12 ?_
     refine dVo 18 50 hg10 rfl rfl rfl (Xv rfl rfl hg12 rfl) ?_
     refine dV 19 rfl (Xl rfl rfl hg10 rfl) (Qr (show _=Value.bool (decide (((nth L v.i).es.length:Int)<mo/2)||((decide (((nth L 0).es.length:Int)=0)&&decide ((v.i:Int)∈(nth L 0).cs))&&decide (((nth L v.i).es.length:Int)<=rm)))from by congr 1;first|(simp_all;done)|(simp_all;omega)) (dNi ?_))
     exact Qo () trivial aSx (λw h=>h.ent aEt)
    intro hg14
    have hs15:=hg14;try simp only[Bool.and_eq_false_iff,decide_eq_false_iff_not]at hs15
    refine dOf 9 52 hg14 ?_
    refine dOf 10 52 hg14 ?_
    refine dOf 11 52 hg14 ?_
    refine dOf 12 52 hg14 ?_
    refine dOf 13 52 hg14 ?_
    refine dOf 14 52 hg14 ?_
    refine dOf 15 52 hg14 ?_
    refine dOf 16 52 hg14 ?_
    refine dOf 17 52 hg14 ?_
    refine dVo 18 50 hg10 rfl rfl rfl (Xl rfl rfl hg14 rfl) ?_
    refine dV 19 rfl (Xl rfl rfl hg10 rfl) (Qr (show _=Value.bool (decide (((nth L v.i).es.length:Int)<mo/2)||((decide (((nth L 0).es.length:Int)=0)&&decide ((v.i:Int)∈(nth L 0).cs))&&decide (((nth L v.i).es.length:Int)<=rm)))from by congr 1;first|(simp_all;done)|(simp_all;omega)) (dNi ?_))
    exact Qo () trivial aSx (λw h=>h.ent aEt)
   intro _ _
   refine sCd rfl (λh16=>?_) λh16=>?_
   ·have hz:Z8 (⟨(j:Int),mo,rm,pln L⟩:Tre) v=true:=by rw[hG];have hq:=h16;simp only[Bool.and_eq_true,Bool.or_eq_true,decide_eq_true_eq];exact⟨om,hq⟩
    refine aU6 ?_
    exact Qk (rs:=[.tmp 10,.tmp 11]) rfl (.tmp rfl (.tmp rfl (.nil))) (λw' h'=>⟨(),by rw[hE];simp only[];rw[if_pos hz];rfl,trivial,by rw[hS,if_pos hz];exact h'.ent aEt⟩)
   refine aU ?_
   exact Qo () (by rw[hG,decide_eq_true om,Bool.true_and];apply Bool.eq_false_iff.2;intro h9;simp only[Bool.and_eq_true,Bool.or_eq_true,decide_eq_true_eq]at h9;have hq:=h16;simp at hq h9;grind) aSx (λw h=>h.ent aEt)
  refine aU ?_
  exact Qo () (by rw[hG,decide_eq_false om];rfl) aSx (λw h=>h.ent aEt)
 intro _ hz1
 refine aU9 ?_
 refine Qx (α:=Nat) [10,11,16,68,69,70,71,72,73,74,75,76,77,78,79,80,81,82,83,84,85,86,87,88,89,90,91,92,93,94,95,96,97,98,99,100,101,102,103,104,105,106,107] (λk=>[(68,.int .i64 (k:Int))]) (λ_=>HS w (fps [.blk c7 3 1 [.int .i64 s]]) [.blk b2 69 3 (nth L 0).vals,.blk b1 69 3 (nth L v.i).vals,.blk c7 3 1 [.int .i64 s]]) (λk=>k<=(nth L v.i).es.length/\∀i,i<k->Qaq (⟨(j:Int),mo,rm,pln L⟩:Tre) v (nth (nth L v.i).es i)=false) (λk=>(nth L v.i).es.length-k) 0 ⟨Nat.zero_le _,λi h=>absurd h (Nat.not_lt_zero i)⟩ aSx (λw h=>h.ent aEt) (λk hx=>?_)
 obtain⟨hk1,hk2⟩:=hx
 refine aU5 ?_
 refine sCd rfl (λh17=>?_) λh17=>?_
 ·have hkl:k<(nth L v.i).es.length:=by omega
  refine aU5 ?_
  refine o_p (Qa rfl rfl rfl QN (k) om om (Rw.some (hs.es hi) om)) rfl (o_q (QB _ rfl rfl Yk rfl (Rw.rd (hs.es hi) (i:=k) hkl)) rfl (oAl (λb18 _=>?_) XH))
  refine aU3 ?_
  refine XY (α:=Unit) [72,73,74,75,76,77,78,79,80,81,82,83,84,85,86,87,88,89,90,91,92,93,94,95,96,97,98,99,100,101,102,103,104,105] (λ_=>[(105,.bool (Qaq (⟨(j:Int),mo,rm,pln L⟩:Tre) v (nth (nth L v.i).es k)))]) (λ_=>HS w (fps [.blk c7 3 1 [.int .i64 s]]) [.blk b2 69 3 (nth L 0).vals,.blk b1 69 3 (nth L v.i).vals,.blk c7 3 1 [.int .i64 s]]) (λ_=>True) ?_ ?_
  ·skip
   refine Qt [] QC ?_
   refine dP 0 ?_
   refine dV 1 rfl (Qf6 rfl rfl rfl QiI) (dP 2 ?_)
   apply XA 74
   ·exact rfl
   ·intro hg19
    have hs20:=hg19;skip
    refine dQo 3 74 [] hg19 rfl rfl rfl (Qc rfl rfl YW (hc1)) ?_
    obtain⟨k9,b9,o9,hlo9,rfl,hr9⟩:=hpl.of_some hg19
    refine dPo 4 74 hg19 ?_
    refine dFo 5 74 hg19 ?_
    refine dFo 6 74 hg19 ?_
    refine dQo 7 74 [] hg19 rfl rfl rfl (Qc rfl rfl QdW (ht 5 _ rfl)) ?_
    refine dPo 8 74 hg19 ?_
    refine dPo 9 74 hg19 ?_
    refine dQo 10 74 [] hg19 rfl rfl rfl (Qc rfl rfl Zt (hr9)) ?_
    refine dFo 11 74 hg19 ?_
    refine dQo 12 74 [] hg19 rfl rfl rfl (X8 rfl rfl Zt aPk rfl) ?_
    refine dQo 13 74 [] hg19 rfl rfl rfl (XX rfl rfl (Qfd _) rfl (λw1 h1=>QaH w1 j k9 (nth (nth L v.i).es k).key hj (hlo _ hlo9).1 (hok _ (QI hkl)).1 (hlo _ hlo9).2 (hok _ (QI hkl)).2)) ?_
    refine dPo 14 74 hg19 ?_
    refine dV 15 rfl (Xv rfl rfl hg19 rfl) (Qr (show _=Value.bool (v.lo.any λb=>decide (0<=QX (j:Int) b (nth (nth L v.i).es k).key))from by congr 1;first|(rw[hlo9];rfl)|(rw[hpl.of_none hg19];rfl)) (dP 16 ?_))
    apply XA 88
    ·exact rfl
    ·intro hg21
     have hs22:=hg21;skip
     refine dOf 17 88 hg21 ?_
     refine dOf 18 88 hg21 ?_
     refine dOf 19 88 hg21 ?_
     refine dOu 20 91 ?_
     refine dOu 21 91 ?_
     refine dOu 22 91 ?_
     refine dOu 23 91 ?_
     refine dOu 24 91 ?_
     refine dOu 25 91 ?_
     refine dOu 26 91 ?_
     refine dOu 27 91 ?_
     refine dOu 28 91 ?_
     refine dOu 29 91 ?_
     refine dOu 30 91 ?_
     refine dOu 31 91 ?_
     refine dOf 32 88 hg21 ?_
     refine dV 33 rfl (Xv rfl rfl hg21 rfl) (Qr (show _=Value.bool (Qaq (⟨(j:Int),mo,rm,pln L⟩:Tre) v (nth (nth L v.i).es k))from by congr 1;show _=((v.lo.any λb=>decide (0<=QX (j:Int) b (nth (nth L v.i).es k).key))||(v.hi.any λb=>decide (0<=QX (j:Int) (nth (nth L v.i).es k).key b)));first|(rw[show(v.lo.any λb=>decide (0<=QX (j:Int) b (nth (nth L v.i).es k).key))=true by assumption];rfl)|(rw[show(v.lo.any λb=>decide (0<=QX (j:Int) b (nth (nth L v.i).es k).key))=false by assumption];rfl)) (dNi ?_))
     exact Qo () trivial aSx (λw h=>h.ent aEt)
    intro hg23
    have hs24:=hg23;skip
    refine dPo 17 88 hg23 ?_
    refine dVo 18 88 hg23 rfl rfl rfl (Qf6 rfl rfl rfl QiI) ?_
    refine dPo 19 88 hg23 ?_
    apply XA 91
    ·exact rfl
    ·intro hg25
     have hs26:=hg25;skip
     refine dQo 20 91 [] hg25 rfl rfl rfl (Qc rfl rfl YW (hc1)) ?_
     obtain⟨k8,b8,o8,hhi8,rfl,hr8⟩:=hph.of_some hg25
     refine dPo 21 91 hg25 ?_
     refine dFo 22 91 hg25 ?_
     refine dFo 23 91 hg25 ?_
     refine dQo 24 91 [] hg25 rfl rfl rfl (Qc rfl rfl QdW (ht 5 _ rfl)) ?_
     refine dFo 25 91 hg25 ?_
     refine dQo 26 91 [] hg25 rfl rfl rfl (X8 rfl rfl Zt aPk rfl) ?_
     refine dPo 27 91 hg25 ?_
     refine dPo 28 91 hg25 ?_
     refine dQo 29 91 [] hg25 rfl rfl rfl (Qc rfl rfl Zt (hr8)) ?_
     refine dQo 30 91 [] hg25 rfl rfl rfl (XX rfl rfl (Qfd _) rfl (λw1 h1=>QaH w1 j (nth (nth L v.i).es k).key k8 hj (hok _ (QI hkl)).1 (hhi _ hhi8).1 (hok _ (QI hkl)).2 (hhi _ hhi8).2)) ?_
     refine dPo 31 91 hg25 ?_
     refine dVo 32 88 hg23 rfl rfl rfl (Xv rfl rfl hg25 rfl) ?_
     refine Qr (show _=Value.bool (v.hi.any λb=>decide (0<=QX (j:Int) (nth (nth L v.i).es k).key b))from by congr 1;first|(rw[hhi8];rfl)|(rw[hph.of_none hg25];rfl)) (dV 33 rfl (Xl rfl rfl hg23 rfl) (Qr (show _=Value.bool (Qaq (⟨(j:Int),mo,rm,pln L⟩:Tre) v (nth (nth L v.i).es k))from by congr 1;show _=((v.lo.any λb=>decide (0<=QX (j:Int) b (nth (nth L v.i).es k).key))||(v.hi.any λb=>decide (0<=QX (j:Int) (nth (nth L v.i).es k).key b)));first|(rw[show(v.lo.any λb=>decide (0<=QX (j:Int) b (nth (nth L v.i).es k).key))=true by assumption];rfl)|(rw[show(v.lo.any λb=>decide (0<=QX (j:Int) b (nth (nth L v.i).es k).key))=false by assumption];rfl)) (dNi ?_)))
     exact Qo () trivial aSx (λw h=>h.ent aEt)
    intro hg27
    have hs28:=hg27;skip
    refine dOf 20 91 hg27 ?_
    refine dOf 21 91 hg27 ?_
    refine dOf 22 91 hg27 ?_
    refine dOf 23 91 hg27 ?_
    refine dOf 24 91 hg27 ?_
    refine dOf 25 91 hg27 ?_
    refine dOf 26 91 hg27 ?_
    refine dOf 27 91 hg27 ?_
    refine dOf 28 91 hg27 ?_
    refine dOf 29 91 hg27 ?_
    refine dOf 30 91 hg27 ?_
    refine dOf 31 91 hg27 ?_
    refine dVo 32 88 hg23 rfl rfl rfl (Xl rfl rfl hg27 rfl) ?_
    refine Qr (show _=Value.bool (v.hi.any λb=>decide (0<=QX (j:Int) (nth (nth L v.i).es k).key b))from by congr 1;first|(rw[hhi8];rfl)|(rw[hph.of_none hg27];rfl)) (dV 33 rfl (Xl rfl rfl hg23 rfl) (Qr (show _=Value.bool (Qaq (⟨(j:Int),mo,rm,pln L⟩:Tre) v (nth (nth L v.i).es k))from by congr 1;show _=((v.lo.any λb=>decide (0<=QX (j:Int) b (nth (nth L v.i).es k).key))||(v.hi.any λb=>decide (0<=QX (j:Int) (nth (nth L v.i).es k).key b)));first|(rw[show(v.lo.any λb=>decide (0<=QX (j:Int) b (nth (nth L v.i).es k).key))=true by assumption];rfl)|(rw[show(v.lo.any λb=>decide (0<=QX (j:Int) b (nth (nth L v.i).es k).key))=false by assumption];rfl)) (dNi ?_)))
    exact Qo () trivial aSx (λw h=>h.ent aEt)
   intro hg29
   have hs30:=hg29;skip
   refine dOf 3 74 hg29 ?_
   refine dOf 4 74 hg29 ?_
   refine dOf 5 74 hg29 ?_
   refine dOf 6 74 hg29 ?_
   refine dOf 7 74 hg29 ?_
   refine dOf 8 74 hg29 ?_
   refine dOf 9 74 hg29 ?_
   refine dOf 10 74 hg29 ?_
   refine dOf 11 74 hg29 ?_
   refine dOf 12 74 hg29 ?_
   refine dOf 13 74 hg29 ?_
   refine dOf 14 74 hg29 ?_
   refine dV 15 rfl (Xl rfl rfl hg29 rfl) (Qr (show _=Value.bool (v.lo.any λb=>decide (0<=QX (j:Int) b (nth (nth L v.i).es k).key))from by congr 1;first|(rw[hlo9];rfl)|(rw[hpl.of_none hg29];rfl)) (dP 16 ?_))
   apply XA 88
   ·exact rfl
   ·intro hg31
    have hs32:=hg31;skip
    refine dOf 17 88 hg31 ?_
    refine dOf 18 88 hg31 ?_
    refine dOf 19 88 hg31 ?_
    refine dOu 20 91 ?_
    refine dOu 21 91 ?_
    refine dOu 22 91 ?_
    refine dOu 23 91 ?_
    refine dOu 24 91 ?_
    refine dOu 25 91 ?_
    refine dOu 26 91 ?_
    refine dOu 27 91 ?_
    refine dOu 28 91 ?_
    refine dOu 29 91 ?_
    refine dOu 30 91 ?_
    refine dOu 31 91 ?_
    refine dOf 32 88 hg31 ?_
    refine dV 33 rfl (Xv rfl rfl hg31 rfl) (Qr (show _=Value.bool (Qaq (⟨(j:Int),mo,rm,pln L⟩:Tre) v (nth (nth L v.i).es k))from by congr 1;show _=((v.lo.any λb=>decide (0<=QX (j:Int) b (nth (nth L v.i).es k).key))||(v.hi.any λb=>decide (0<=QX (j:Int) (nth (nth L v.i).es k).key b)));first|(rw[show(v.lo.any λb=>decide (0<=QX (j:Int) b (nth (nth L v.i).es k).key))=true by assumption];rfl)|(rw[show(v.lo.any λb=>decide (0<=QX (j:Int) b (nth (nth L v.i).es k).key))=false by assumption];rfl)) (dNi ?_))
    exact Qo () trivial aSx (λw h=>h.ent aEt)
   intro hg33
   have hs34:=hg33;skip
   refine dPo 17 88 hg33 ?_
   refine dVo 18 88 hg33 rfl rfl rfl (Qf6 rfl rfl rfl QiI) ?_
   refine dPo 19 88 hg33 ?_
   apply XA 91
   ·exact rfl
   ·intro hg35
    have hs36:=hg35;skip
    refine dQo 20 91 [] hg35 rfl rfl rfl (Qc rfl rfl YW (hc1)) ?_
    obtain⟨k8,b8,o8,hhi8,rfl,hr8⟩:=hph.of_some hg35
    refine dPo 21 91 hg35 ?_
    refine dFo 22 91 hg35 ?_
    refine dFo 23 91 hg35 ?_
    refine dQo 24 91 [] hg35 rfl rfl rfl (Qc rfl rfl QdW (ht 5 _ rfl)) ?_
    refine dFo 25 91 hg35 ?_
    refine dQo 26 91 [] hg35 rfl rfl rfl (X8 rfl rfl Zt aPk rfl) ?_
    refine dPo 27 91 hg35 ?_
    refine dPo 28 91 hg35 ?_
    refine dQo 29 91 [] hg35 rfl rfl rfl (Qc rfl rfl Zt (hr8)) ?_
    refine dQo 30 91 [] hg35 rfl rfl rfl (XX rfl rfl (Qfd _) rfl (λw1 h1=>QaH w1 j (nth (nth L v.i).es k).key k8 hj (hok _ (QI hkl)).1 (hhi _ hhi8).1 (hok _ (QI hkl)).2 (hhi _ hhi8).2)) ?_
    refine dPo 31 91 hg35 ?_
    refine dVo 32 88 hg33 rfl rfl rfl (Xv rfl rfl hg35 rfl) ?_
    refine Qr (show _=Value.bool (v.hi.any λb=>decide (0<=QX (j:Int) (nth (nth L v.i).es k).key b))from by congr 1;first|(rw[hhi8];rfl)|(rw[hph.of_none hg35];rfl)) (dV 33 rfl (Xl rfl rfl hg33 rfl) (Qr (show _=Value.bool (Qaq (⟨(j:Int),mo,rm,pln L⟩:Tre) v (nth (nth L v.i).es k))from by congr 1;show _=((v.lo.any λb=>decide (0<=QX (j:Int) b (nth (nth L v.i).es k).key))||(v.hi.any λb=>decide (0<=QX (j:Int) (nth (nth L v.i).es k).key b)));first|(rw[show(v.lo.any λb=>decide (0<=QX (j:Int) b (nth (nth L v.i).es k).key))=true by assumption];rfl)|(rw[show(v.lo.any λb=>decide (0<=QX (j:Int) b (nth (nth L v.i).es k).key))=false by assumption];rfl)) (dNi ?_)))
    exact Qo () trivial aSx (λw h=>h.ent aEt)
   intro hg37
   have hs38:=hg37;skip
   refine dOf 20 91 hg37 ?_
   refine dOf 21 91 hg37 ?_
   refine dOf 22 91 hg37 ?_
   refine dOf 23 91 hg37 ?_
   refine dOf 24 91 hg37 ?_
   refine dOf 25 91 hg37 ?_
   refine dOf 26 91 hg37 ?_
   refine dOf 27 91 hg37 ?_
   refine dOf 28 91 hg37 ?_
   refine dOf 29 91 hg37 ?_
   refine dOf 30 91 hg37 ?_
   refine dOf 31 91 hg37 ?_
   refine dVo 32 88 hg33 rfl rfl rfl (Xl rfl rfl hg37 rfl) ?_
   refine Qr (show _=Value.bool (v.hi.any λb=>decide (0<=QX (j:Int) (nth (nth L v.i).es k).key b))from by congr 1;first|(rw[hhi8];rfl)|(rw[hph.of_none hg37];rfl)) (dV 33 rfl (Xl rfl rfl hg33 rfl) (Qr (show _=Value.bool (Qaq (⟨(j:Int),mo,rm,pln L⟩:Tre) v (nth (nth L v.i).es k))from by congr 1;show _=((v.lo.any λb=>decide (0<=QX (j:Int) b (nth (nth L v.i).es k).key))||(v.hi.any λb=>decide (0<=QX (j:Int) (nth (nth L v.i).es k).key b)));first|(rw[show(v.lo.any λb=>decide (0<=QX (j:Int) b (nth (nth L v.i).es k).key))=true by assumption];rfl)|(rw[show(v.lo.any λb=>decide (0<=QX (j:Int) b (nth (nth L v.i).es k).key))=false by assumption];rfl)) (dNi ?_)))
   exact Qo () trivial aSx (λw h=>h.ent aEt)
  intro _ _
  refine sCd rfl (λh39=>?_) λh39=>?_
  ·have hz2:Z2 (⟨(j:Int),mo,rm,pln L⟩:Tre) v=true:=by rw[hO,List.any_eq_true];exact⟨_,QI hkl,h39⟩
   refine aU6 ?_
   exact Qk (rs:=[.tmp 10,.tmp 11]) rfl (.tmp rfl (.tmp rfl (.nil))) (λw' h'=>⟨(),by rw[hE];simp only[];rw[if_neg (by rw[hz1];decide),if_pos hz2];rfl,trivial,by rw[hS,if_neg (by rw[hz1];decide),if_pos hz2];exact h'.ent aEt⟩)
  refine aT4 ?_
  refine aU2 ?_
  exact sBk (k+1) om ⟨om,λi hi9=>(Nat.lt_or_ge i k).elim (hk2 i) (λh=>by obtain rfl:i=k:=om;have hq:=h39;simpa using hq)⟩
 obtain rfl:k=(nth L v.i).es.length:=om
 have hz2:Z2 (⟨(j:Int),mo,rm,pln L⟩:Tre) v=false:=by rw[hO,List.any_eq_false];intro x hx;obtain⟨i9,hi9,e9⟩:=List.getElem_of_mem hx;have e8:nth (nth L v.i).es i9=x:=Q2 (by rw[List.getElem?_eq_getElem hi9,e9]);rw[<-e8,hk2 i9 hi9];decide
 refine Qn rfl ?_
 refine aU8 ?_
 refine sCd rfl (λh40=>?_) λh40=>?_
 ·have hc9:(nth L v.i).cs.length=0:=by have hq:=h40;omega
  have hEv:erV (⟨(j:Int),mo,rm,pln L⟩:Tre) s v=((v.i:Int),if(if s=0 then v.d else s)=v.d then 0 else 22):=by rw[hE,if_neg (by rw[hz1];decide),if_neg (by rw[hz2];decide),if_pos hc9]
  refine aU6 ?_
  refine XY (α:=Unit) [114] (λ_=>[]) (λ_=>HS w (fps [.blk c7 3 1 [.int .i64 s]]) [.blk b2 69 3 (nth L 0).vals,.blk b1 69 3 (nth L v.i).vals,.blk c7 3 1 [.int .i64 (if s=0 then v.d else s)]]) (λ_=>True) ?_ ?_
  ·skip
   refine sCd rfl (λh41=>?_) λh41=>?_
   ·refine aU4 ?_
    exact Qo () trivial aSx (λw h=>by rw[if_pos h41];exact h.ent aEt)
   refine aU ?_
   exact Qo () trivial aSx (λw h=>by rw[if_neg h41];exact h.ent aEt)
  intro _ _
  refine aU6 ?_
  refine oCq rfl (λw1 h1=>Qd4 w1 _ _) (aU3 ?_)
  exact Qk (rs:=[.tmp 10,.tmp 11]) rfl (.tmp rfl (.tmp rfl (.nil))) (λw' h'=>⟨(),by rw[hEv];simp only[Xf,cond_eq_ite,decide_eq_true_eq],trivial,by rw[hS,if_neg (by rw[hz1];decide),if_neg (by rw[hz2];decide),if_pos hc9];exact h'.ent aEt⟩)
 have hc9:¬(nth L v.i).cs.length=0:=by have hq:=h40;omega
 refine aU7 ?_
 exact Qk (rs:=[.tmp 10,.tmp 11]) rfl (.tmp rfl (.tmp rfl (.nil))) (λw' h'=>⟨(),by rw[hE];simp only[];rw[if_neg (by rw[hz1];decide),if_neg (by rw[hz2];decide),if_neg hc9];rfl,trivial,by rw[hS,if_neg (by rw[hz1];decide),if_neg (by rw[hz2];decide),if_neg hc9];exact h'.ent aEt⟩)
theorem QvI:X9 Tryz.prog 4=some [.bool false]:=by kernel_rfl
theorem Qt6:X9 Tryz.prog 102=some [.slice none 0 0]:=by kernel_rfl
theorem c200(w:World)(bt:Nat)(j:Nat)(mo rm:Int)(a:Option Addr)(cap:Nat)(L:List LNd)(ht:TbR w [] bt (j:Int) mo rm a L.length cap)(hs:Nt w [] a L)(hj:j<=3)(hmo:0<=mo/\mo<=1000)(h0:0<L.length)(hB:Bd (pln L))(hT:TOk (j:Int) (pln L)):CR 200 #[.pointer (some ⟨bt,0,none⟩)] w (.tuple #[.int .i64 (Qcq (⟨(j:Int),mo,rm,pln L⟩:Tre)).1,.int .i64 (Qcq (⟨(j:Int),mo,rm,pln L⟩:Tre)).2]):=by
 have hle:=hB.len
 rw[Qb]at hle
 have hvis:vis (pln L) L.length ZF=Y2 (pln L):=by unfold Y2;rw[Qb]
 have hmar:=Qnh (Y2 (pln L)) (List.replicate L.length false)
 rw[List.length_replicate]at hmar
 have hbel:∀i,i<L.length->(Yb Qhj (λ_ _=>(0,0)) (List.replicate L.length false) (Y2 (pln L))).2.getD i false=decide (i∈(Y2 (pln L)).map Vis.i):=λi hi=>by rw[hmar.2.2 i hi,show(List.replicate L.length false).getD i false=false from by rw[List.getD_eq_getElem?_getD,List.getElem?_replicate];split<;>rfl,Bool.false_or]
 have hes9:∀i,i<L.length->(nth L i).es.length<=1000:=λi hi=>by have h9:=hB.es i (by rw[Qb];exact hi);rw[Ql hi]at h9;exact h9
 have hcs9:∀i,i<L.length->(nth L i).cs.length<=1000:=λi hi=>by have h9:=hB.cs i (by rw[Qb];exact hi);rw[Ql hi]at h9;exact h9
 have hok9:∀i,i<L.length->∀x∈(nth L i).es,QW (j:Int) x.key=true/\x.key.length<=1000000:=λi hi=>by have h9:=Qex hT (i:=i) (by rw[Qb];exact hi);rw[Ql hi]at h9;exact h9
 refine eN1 Tryz.func200 Tryz.ntmps200 ?_
 refine aU2 ?_
 refine oBx λb1 _=>?_
 refine aU9 ?_
 refine o_q (Qc rfl rfl Yl (ht 3 _ rfl)) rfl (aU ?_)
 refine o_h (Qfc (n:=L.length) rfl rfl rfl Qca QvI om om) rfl (λb2 _=>QQ (λw h=>(show HS _ _ [.blk b2 4 L.length ((List.replicate L.length false).map Value.bool),.blk b1 158 1 [.pointer (some ⟨bt,0,none⟩)]] w from by have h9:=h;rw[Nat.mul_one,QcO,<-List.map_replicate]at h9;exact h9.ent aEt)) (oAl (λb3 _=>?_) Qt6))
 refine aU6 ?_
 refine o_h (QM (Cs:=[.blk b2 4 L.length ((List.replicate L.length false).map Value.bool)]) rfl QlU rfl aPs (λw1 h1 hf=>by have h9:=Qlt (List Bool) (λs=>s.length=L.length) (λs=>.blk b2 4 L.length (s.map Value.bool)) Qhj (λ_ _=>(0,0)) 236 #[.pointer (some ⟨b3,0,none⟩)] bt j mo rm a cap L L.length w1 (List.replicate L.length false) ZF none none [] hf (by kernel_rfl) (λ_ _=>rfl) (λs v h=>by simpa[Qhj]using h) (by simp) (λs2 v2 p2 p3 w2 h2 hs2 hi2 _ _ _ _=>c236 w2 v2.i v2.d p2 p3 b3 b2 L.length s2 (HS.focus (Cs:=[_]) (Ds:=[]) h2) (h2.keep (h1.rd_blkF aPs (b:=b3) aPk rfl)) hi2 hs2) ((ht.keep h1).mono (XB aPs)) ((hs.keep h1).mono (XB aPs)) hT hB rfl rfl h0 rfl (by simp) rfl (λ_ h=>by cases h) (λ_ h=>by cases h);rw[hvis]at h9;exact h9)) rfl (λ_ _=>aU3 ?_)
 refine QQ (λw h=>(show HS _ _ [.blk b2 4 L.length ((Yb Qhj (λ_ _=>(0,0)) (List.replicate L.length false) (Y2 (pln L))).2.map Value.bool),.blk b3 102 1 [.slice (some ⟨b2,0,none⟩) L.length L.length],.blk b1 158 1 [.pointer (some ⟨bt,0,none⟩)]] w from h.ent aEt)) (aU8 ?_)
 refine o_q (Qc rfl rfl Yl (ht 3 _ rfl)) rfl (aU4 ?_)
 refine Qg (L':=[(1,_),(2,_),(3,_),(4,_),(25,_),(26,_),(27,_)]) aSx (λ_ h=>h) ?_
 refine Qx (α:=Nat) [2,3,5,6,27,28,29,30,31,32,33,34,35,36,37,38,39,40,41,42] (λk=>[(27,.int .i64 (k:Int))]) (λ_=>HS w [] [.blk b2 4 L.length ((Yb Qhj (λ_ _=>(0,0)) (List.replicate L.length false) (Y2 (pln L))).2.map Value.bool),.blk b3 102 1 [.slice (some ⟨b2,0,none⟩) L.length L.length],.blk b1 158 1 [.pointer (some ⟨bt,0,none⟩)]]) (λk=>k<=L.length/\Z9 (pln L) ((Y2 (pln L)).map Vis.i) L.length 0=Z9 (pln L) ((Y2 (pln L)).map Vis.i) (L.length-k) k) (λk=>L.length-k) 0 ⟨Nat.zero_le _,rfl⟩ aSx (λw h=>h.ent aEt) (λk hx=>?_)
 obtain⟨hk1,hk2⟩:=hx
 refine aU5 ?_
 refine sCd rfl (λh4=>?_) λh4=>?_
 ·have hkl:k<L.length:=by omega
  have hst:=QhO (ns:=pln L) (below:=(Y2 (pln L)).map Vis.i) (k:=k) (by rw[Qb];exact hkl)
  rw[Qb,Ql hkl]at hst
  refine aU6 ?_
  refine o_p (Qa rfl rfl rfl Qw (k) om om (Rw.some hs.1 om)) rfl (o_q (QB _ rfl rfl Xs rfl (Rw.rd hs.1 hkl)) rfl (oAl (λb5 _=>?_) Xj))
  refine aU8 ?_
  refine XF 6 34 40 rfl
   (λhg6 _=>by
    refine aU5 ?_
    refine o_p (Qa rfl rfl rfl Qca (k) om om rfl) rfl (aU ?_)
    refine o_q (Qf rfl rfl Qcy (λw h=>by rw[Nat.zero_add,Nat.mul_one];exact h.rd_blk (Mc:=[]) (b:=b2) aPk (Qrf (by rw[hmar.2.1];exact hkl)) (by simp))) rfl (aU2 ?_)
    exact oJt 6 40)
   (λhg8 _=>by
    refine aU5 ?_
    exact oJf 6 40) ?_
  refine aU ?_
  refine sCd rfl (λh10=>?_) λh10=>?_
  ·have hz:(nth L k).pl.us=true/\k ∉ (Y2 (pln L)).map Vis.i:=by have hq:=h10;rw[hbel k hkl]at hq;simp only[LNd.pl];simpa using hq
   refine aU6 ?_
   exact Qk (rs:=[.tmp 2,.tmp 3]) rfl (.tmp rfl (.tmp rfl (.nil))) (λw' h'=>⟨by rw[Qch (t:=(⟨(j:Int),mo,rm,pln L⟩:Tre)) (i:=k) (show Z9 (pln L) _ (pln L).length 0=some k from by rw[Qb,hk2,hst,if_pos hz])];rfl,h'.below⟩)
  have hz:¬((nth L k).pl.us=true/\k ∉ (Y2 (pln L)).map Vis.i):=by have hq:=h10;rw[hbel k hkl]at hq;simp only[LNd.pl];intro h9;simp at hq h9;grind
  refine aT4 ?_
  refine aU2 ?_
  exact sBk (k+1) om ⟨om,by rw[hk2,hst,if_neg hz]⟩
 have hnone:Z9 (pln L) ((Y2 (pln L)).map Vis.i) L.length 0=none:=by rw[hk2,show L.length-k=0 by omega];rfl
 refine Qn rfl ?_
 refine aU2 ?_
 refine oAl (λb11 _=>?_) Yp
 refine aU6 ?_
 refine o_h (QM (Cs:=[.blk b11 3 1 [.int .i64 0]]) rfl QlU rfl aPs (λw1 h1 hf=>by have h9:=Qlt Int (λ_=>True) (λs=>.blk b11 3 1 [.int .i64 s]) (stV (⟨(j:Int),mo,rm,pln L⟩:Tre)) (erV (⟨(j:Int),mo,rm,pln L⟩:Tre)) 237 #[.pointer (some ⟨b1,0,none⟩),.pointer (some ⟨b11,0,none⟩)] bt j mo rm a cap L L.length w1 0 ZF none none [] hf (by kernel_rfl) (λ_ _=>rfl) (λ_ _ _=>trivial) trivial (λs2 v2 p2 p3 w2 h2 _ hi2 ha2 hb2 hp2 hp3=>c237 w2 v2 p2 p3 b1 b11 s2 bt j mo rm a cap L (HS.focus (Cs:=[_]) (Ds:=[]) h2) (h2.keep (h1.rd_blkF aPs (b:=b1) aPk rfl)) (((ht.keep h1).mono (XB aPs)).keep h2) (((hs.keep h1).mono (XB aPs)).keep h2) hj hmo hi2 hle (hes9 _ hi2) (hcs9 _ hi2) (hcs9 _ h0) (hes9 _ h0) hp2 hp3 ha2 hb2 (hok9 _ hi2)) ((ht.keep h1).mono (XB aPs)) ((hs.keep h1).mono (XB aPs)) hT hB rfl rfl h0 rfl (by simp) rfl (λ_ h=>by cases h) (λ_ h=>by cases h);rw[hvis,Gx.run_shape (t:=(⟨(j:Int),mo,rm,pln L⟩:Tre)) hT (by show 0<(pln L).length;rw[Qb];exact h0)]at h9;exact h9)) rfl (λ_ _=>aU5 ?_)
 exact Qk (rs:=[.tmp 2,.tmp 3]) rfl (.tmp rfl (.tmp rfl (.nil))) (λw' h'=>⟨by rw[Qcb (t:=(⟨(j:Int),mo,rm,pln L⟩:Tre)) (show Z9 (pln L) _ (pln L).length 0=none from by rw[Qb];exact hnone)];rfl,h'.below⟩)
theorem Qpq:Qab Tryz.prog 166=some [(0,4),(4,2)]:=by kernel_rfl
theorem Qpg:X9 Tryz.prog 166=some [.int .i64 0,.int .i64 0,.int .i64 0,.slice none 0 0,.nilFunc,.nilFunc]:=by kernel_rfl
theorem QvV:QY Tryz.prog 199=true:=by kernel_rfl
instance:TFn Tryz.prog 200:=⟨by kernel_rfl⟩
instance:TFn Tryz.prog 245:=⟨by kernel_rfl⟩
theorem Qpb:QY Tryz.prog 114=true:=by kernel_rfl
theorem Qp2:QY Tryz.prog 246=true:=by kernel_rfl
theorem QsM(w:World)(co mo rm:Int)(a:Option Addr)(cap:Nat)(L:List LNd)(hs:Nt w [] a L)(hB:Bd (pln L))(hkl:∀i,i<L.length->∀x∈(nth L i).es,x.key.length<=1000000):CR 140 #[.agg #[.int .i64 co,.int .i64 mo,.int .i64 rm,.slice a L.length cap]] w (.tuple #[.int .i64 (XV (⟨co,mo,rm,pln L⟩:Tre)).1,.int .i64 (XV (⟨co,mo,rm,pln L⟩:Tre)).2]):=by
 have hle:=hB.len
 rw[Qb]at hle
 have hes9:∀i,i<L.length->(nth L i).es.length<=1000:=λi hi=>by have h9:=hB.es i (by rw[Qb];exact hi);rw[Ql hi]at h9;exact h9
 have hcs9:∀i,i<L.length->(nth L i).cs.length<=1000:=λi hi=>by have h9:=hB.cs i (by rw[Qb];exact hi);rw[Ql hi]at h9;exact h9
 refine eN1 Tryz.func140 Tryz.ntmps140 ?_
 refine aU2 ?_
 refine oBx λb1 _=>?_
 refine Zx ?_
 refine oCq rfl (λw1 h1=>c155 w1 _ _ _) (aU7 ?_)
 refine sCd rfl (λh2=>?_) λh2=>?_
 ·have hz:=Qdy (t:=(⟨co,mo,rm,pln L⟩:Tre)) h2
  refine aU6 ?_
  exact Qk (rs:=[.tmp 2,.tmp 3]) rfl (.tmp rfl (.tmp rfl (.nil))) (λw' h'=>⟨by rw[hz];rfl,h'.below⟩)
 have hc0:(if QJ co=0 then XW mo rm else QJ co)=0:=h2
 obtain⟨hco,hsz⟩:=Qi4 (t:=(⟨co,mo,rm,pln L⟩:Tre)) hc0
 obtain⟨j,rfl,hj⟩:=ZD hco
 have hsz2:(3<=mo/\mo<=8)/\(mo/2<=rm/\rm<=mo):=Qas hsz
 refine aU3 ?_
 refine Qt [] QC ?_
 refine dFa 0 ?_
 refine dLd 1 [] ?_
 refine dV 2 rfl (QS rfl rfl Tryz.underlying35) (dP 3 ?_)
 refine dQ 4 [] rfl (Qv rfl Qb8 rfl (λw1 h1=>Qd4 w1 _ _)) (dFa 5 ?_)
 refine dLd 6 [] ?_
 refine dV 7 rfl (QS rfl rfl Tryz.underlying35) (dP 8 ?_)
 refine dQ 9 [] rfl (Qv rfl Qb8 rfl (λw1 h1=>Qd4 w1 _ _)) (dH 10 rfl (Qe (cs:=[_,_]) rfl rfl Yo ZR rfl rfl rfl) (λb3 _=>dBa ?_))
 refine dQ 11 [] rfl (Qv rfl QgX rfl (λw1 h1=>QnS h1 aPk (by rfl) (by rfl) (by decide))) ?_
 refine Qr (show _=Value.int .i64 (ZY L.length)from by congr 1;rw[Qb7];unfold ZY;simp only[cond_eq_ite,decide_eq_true_eq];first|(split<;>(try split)<;>(try split)<;>(try split)<;>first|rfl|omega)) (dP 12 ?_)
 refine dNi ?_
 refine aU5 ?_
 refine sCd rfl (λh4=>?_) λh4=>?_
 ·have hz:=Qei (t:=(⟨(j:Int),mo,rm,pln L⟩:Tre)) hc0 (by rw[show((⟨(j:Int),mo,rm,pln L⟩:Tre)).ns.length=L.length from Qb L];exact h4)
  rw[show((⟨(j:Int),mo,rm,pln L⟩:Tre)).ns.length=L.length from Qb L]at hz
  refine aU6 ?_
  exact Qk (rs:=[.tmp 2,.tmp 3]) rfl (.tmp rfl (.tmp rfl (.nil))) (λw' h'=>⟨by rw[hz];rfl,h'.below⟩)
 have hc1:ZY L.length=0:=h4
 have hz:=QeQ (t:=(⟨(j:Int),mo,rm,pln L⟩:Tre)) hc0 (by rw[show((⟨(j:Int),mo,rm,pln L⟩:Tre)).ns.length=L.length from Qb L];exact hc1)
 rw[show((⟨(j:Int),mo,rm,pln L⟩:Tre)).ns.length=L.length from Qb L]at hz
 obtain⟨h00,h120⟩:=Qlf hc1
 refine aU2 ?_
 refine Qg (L':=[(1,_),(2,_),(3,_)]) aSx (λ_ h=>h) ?_
 refine XY (α:=Nat×Nat) [6,7,37,38,39,40,41,42,43,44] (λx=>[(6,.pointer (some ⟨x.1,0,none⟩)),(7,.map (some x.2))]) (λx=>HS w [] [.blk b1 37 4 [.int .i64 (j:Int),.int .i64 mo,.int .i64 rm,.slice a L.length cap],.blk x.1 166 6 (tbV (j:Int) mo rm a L.length cap),.mp x.2 KI []]) (λ_=>True) ?_ ?_
 ·skip
  refine Qt [] QC ?_
  refine dLn 0 [] ?_
  refine dQ 1 [] rfl (Qv rfl Qk9 rfl (λw1 h1=>Qsu w1)) (dFa 2 ?_)
  refine dLd 3 [] ?_
  refine dV 4 rfl (Qev rfl rfl rfl QgV QgQ j rfl om) (Qr (Qem j hj) (dV 5 rfl (QF (cs:=[_,_,_,_,_,_]) rfl rfl Qpq Qpg rfl) (QjB 6 7 rfl rfl (Qm4 rfl rfl) (QhM rfl KI) (by kernel_rfl) (λw h=>h.ent aEt) rfl rfl (λb5 _=>?_) (λb6 _=>?_))))
  ·skip
   refine dBa ?_
   refine dP 8 ?_
   refine dH 7 rfl (QhM rfl KI) (λb7 _=>dBa ?_)
   refine dP 9 ?_
   refine dNi ?_
   exact Qo (b5,b7) trivial aSx (λw h=>h.ent aEt)
  skip
  refine dBa ?_
  refine dH 6 rfl (Qm4 rfl rfl) (λb8 _=>dBa ?_)
  refine dP 8 ?_
  refine dP 9 ?_
  refine dNi ?_
  exact Qo (b8,b6) trivial aSx (λw h=>h.ent aEt)
 intro⟨bt,r⟩ _
 refine aU9 ?_
 refine Qx (α:=Nat×List Int×List Int) [2,3,8,9,48,49,50,51,52,53,54,55,56,57,58,59] (λx=>[(48,.int .i64 (x.1:Int))]) (λx=>HS w [] [.blk b1 37 4 [.int .i64 (j:Int),.int .i64 mo,.int .i64 rm,.slice a L.length cap],.blk bt 166 6 (tbV (j:Int) mo rm a L.length cap),.mp r KI x.2.1]) (λx=>x.1<=L.length/\(∀y,y∈x.2.1 ↔ y∈x.2.2)/\(Ym (⟨(j:Int),mo,rm,pln L⟩:Tre) L.length 0 [])=Ym (⟨(j:Int),mo,rm,pln L⟩:Tre) (L.length-x.1) x.1 x.2.2) (λx=>L.length-x.1) (0,[],[]) ⟨Nat.zero_le _,λ_=>Iff.rfl,rfl⟩ aSx (λw h=>h.ent aEt) (λ⟨k,K,S9⟩hx=>?_)
 dsimp only
 obtain⟨hk1,hk2,hk3⟩:=hx
 simp only[]at hk1 hk2 hk3
 refine aU5 ?_
 refine sCd rfl (λh9=>?_) λh9=>?_
 ·have hkl9:k<L.length:=by omega
  have hst:=Qgu (t:=(⟨(j:Int),mo,rm,pln L⟩:Tre)) (k:=k) (seen:=S9) (by rw[show((⟨(j:Int),mo,rm,pln L⟩:Tre)).ns.length=L.length from Qb L];exact hkl9)
  rw[show((⟨(j:Int),mo,rm,pln L⟩:Tre)).ns.length=L.length from Qb L]at hst
  refine Qau ?_
  refine o_h (QM (Cs:=[.mp r KI K]) rfl QvV rfl aPs (λw1 h1 hf=>c199 w1 k r K S9 bt j mo rm a cap L hf hk2 (λk9 v9 hv9=>h1.rd_blkF aPs (b:=bt) aPk hv9) ((hs.keep h1).mono (XB aPs)) hle hj hkl9 (hes9 _ hkl9) (hcs9 _ hkl9) (hkl _ hkl9))) rfl (λb10 hkG=>aU7 ?_)
  refine sCd rfl (λh11=>?_) λh11=>?_
  ·have hz3:(Ym (⟨(j:Int),mo,rm,pln L⟩:Tre) L.length 0 [])=((k:Int),(Yh (⟨(j:Int),mo,rm,pln L⟩:Tre) k S9).1):=by rw[hk3,hst,if_neg h11]
   rw[hz3,if_neg (show¬(((k:Int),(Yh (⟨(j:Int),mo,rm,pln L⟩:Tre) k S9).1):Int×Int).2=0 from h11)]at hz
   refine aU7 ?_
   exact Qk (rs:=[.tmp 2,.tmp 3]) rfl (.tmp rfl (.tmp rfl (.nil))) (λw' h'=>⟨by rw[hz];rfl,h'.below⟩)
  have hz3:Ym (⟨(j:Int),mo,rm,pln L⟩:Tre) (L.length-k) k S9=Ym (⟨(j:Int),mo,rm,pln L⟩:Tre) (L.length-(k+1)) (k+1) (Yh (⟨(j:Int),mo,rm,pln L⟩:Tre) k S9).2:=by rw[hst,if_pos h11]
  refine aT4 ?_
  refine aU2 ?_
  exact sBk (k+1,b10,(Yh (⟨(j:Int),mo,rm,pln L⟩:Tre) k S9).2) (by(try simp only[]);omega) ⟨by(try simp only[]);omega,hkG,by simp only[];rw[hk3,hz3]⟩
 have hnd:(Ym (⟨(j:Int),mo,rm,pln L⟩:Tre) L.length 0 [])=(0,0):=by rw[hk3,show L.length-k=0 by omega];rfl
 rw[hnd,if_pos rfl]at hz
 have hT:TOk (j:Int) (pln L):=Zp (t:=(⟨(j:Int),mo,rm,pln L⟩:Tre)) (by show(Ym (⟨(j:Int),mo,rm,pln L⟩:Tre) (pln L).length 0 []).2=0;rw[Qb,hnd])
 refine Qn rfl ?_
 refine aU3 ?_
 refine oCq rfl (λw1 h1=>c200 w1 bt j mo rm a cap L (HS.tbr h1 aPk) (hs.later h1) hj om h00 hB hT) (Zx ?_)
 refine XY (α:=Unit) [10] (λ_=>[(10,.int .i64 (XV (⟨(j:Int),mo,rm,pln L⟩:Tre)).1)]) (λ_=>HS w [] []) (λ_=>True) ?_ ?_
 ·skip
  refine sCd rfl (λh12=>?_) λh12=>?_
  ·refine aU3 ?_
   exact Qo () trivial (by rw[hz,QnG h12];exact aSx) (λw h=>h.ent aEt)
  refine aU ?_
  exact Qo () trivial (by rw[hz];exact aSx) (λw h=>h.ent aEt)
 intro _ _
 refine aU7 ?_
 exact Qk (rs:=[.tmp 2,.tmp 3]) rfl (.tmp rfl (.tmp rfl (.nil))) (λw' h'=>⟨by simp only[Xf];rw[hz],h'.below⟩)
theorem c245(w:World)(a:Option Addr)(cap:Nat)(l:List LNd)(hs:Rw LNd.vals 3 w [] a l)(hm:l.length<=1000000):CE 245 #[.slice a l.length cap] w [] (λg:Option Addr×Nat=>.slice g.1 l.length g.2) (λg=>True) λg=>[.own (.slice g.1 l.length g.2) 69 3 l.length (l.flatMap LNd.vals)]:=by
 refine eN1 Tryz.func245 Tryz.ntmps245 ?_
 refine aU8 ?_
 refine o_p (Qar rfl rfl rfl Tryz.underlying35) rfl (aU ?_)
 refine sCd rfl (λh1=>?_) λh1=>?_
 ·have ha0:a=none:=by cases a with|none=>rfl|some b=>simp at h1
  subst ha0
  have hl0:l=[]:=Rw.none hs
  refine aU4 ?_
  exact rT rfl rfl (λw' h'=>⟨(none,0),by rw[hl0];rfl,trivial,by rw[hl0];exact(h'.own_nil 69 3).ent aEt⟩)
 refine aU3 ?_
 refine o_h (XK rfl Qw) rfl (λb2 _=>aU ?_)
 refine o_h (QL (l.flatMap LNd.vals) rfl rfl rfl Qw Tryz.underlying35 Xj rfl aPk (λw h=>Rw.src nv3 hs h) (Qi nv3 l) (XZ nv1 l) om (by simp only[maxLen];omega)) rfl (λb3 _=>aU2 ?_)
 exact rT rfl rfl (λw' h'=>⟨b3,by simp only[Xf,Nat.zero_add],trivial,by have h2:=h';simp only[Nat.zero_add,List.nil_append]at h2;exact h2.ent aEt⟩)
theorem c114(w:World)(a:Option Addr)(cap:Nat)(l:List TEnt)(hs:Rw TEnt.vals 2 w [] a l)(hm:l.length<=1000000):CE 114 #[.slice a l.length cap] w [] (λg:Option Addr×Nat=>.slice g.1 l.length g.2) (λg=>True) λg=>[.own (.slice g.1 l.length g.2) 27 2 l.length (l.flatMap TEnt.vals)]:=by
 refine eN1 Tryz.func114 Tryz.ntmps114 ?_
 refine aU8 ?_
 refine o_p (Qar rfl rfl rfl Tryz.underlying67) rfl (aU ?_)
 refine sCd rfl (λh1=>?_) λh1=>?_
 ·have ha0:a=none:=by cases a with|none=>rfl|some b=>simp at h1
  subst ha0
  have hl0:l=[]:=Rw.none hs
  refine aU4 ?_
  exact rT rfl rfl (λw' h'=>⟨(none,0),by rw[hl0];rfl,trivial,by rw[hl0];exact(h'.own_nil 27 2).ent aEt⟩)
 refine aU3 ?_
 refine o_h (XK rfl QN) rfl (λb2 _=>aU ?_)
 refine o_h (QL (l.flatMap TEnt.vals) rfl rfl rfl QN Tryz.underlying67 XH rfl aPk (λw h=>Rw.src ev2 hs h) (Qi ev2 l) (XZ ev1 l) om (by simp only[maxLen];omega)) rfl (λb3 _=>aU2 ?_)
 exact rT rfl rfl (λw' h'=>⟨b3,by simp only[Xf,Nat.zero_add],trivial,by have h2:=h';simp only[Nat.zero_add,List.nil_append]at h2;exact h2.ent aEt⟩)
theorem c246(w:World)(a:Option Addr)(cap:Nat)(l:List Int)(hs:Rw inV 1 w [] a l)(hm:l.length<=1000000):CE 246 #[.slice a l.length cap] w [] (λg:Option Addr×Nat=>.slice g.1 l.length g.2) (λg=>True) λg=>[.own (.slice g.1 l.length g.2) 3 1 l.length (l.flatMap inV)]:=by
 refine eN1 Tryz.func246 Tryz.ntmps246 ?_
 refine aU8 ?_
 refine o_p (Qar rfl rfl rfl Tryz.underlying28) rfl (aU ?_)
 refine sCd rfl (λh1=>?_) λh1=>?_
 ·have ha0:a=none:=by cases a with|none=>rfl|some b=>simp at h1
  subst ha0
  have hl0:l=[]:=Rw.none hs
  refine aU4 ?_
  exact rT rfl rfl (λw' h'=>⟨(none,0),by rw[hl0];rfl,trivial,by rw[hl0];exact(h'.own_nil 3 1).ent aEt⟩)
 refine aU3 ?_
 refine o_h (XK rfl QA) rfl (λb2 _=>aU ?_)
 refine o_h (QL (l.flatMap inV) rfl rfl rfl QA Tryz.underlying28 Yp rfl aPk (λw h=>Rw.src iv1 hs h) (Qi iv1 l) (XZ QdX l) om (by simp only[maxLen];omega)) rfl (λb3 _=>aU2 ?_)
 exact rT rfl rfl (λw' h'=>⟨b3,by simp only[Xf,Nat.zero_add],trivial,by have h2:=h';simp only[Nat.zero_add,List.nil_append]at h2;exact h2.ent aEt⟩)
theorem c210(w:World)(j:Nat)(mo rm:Int)(a:Option Addr)(cap:Nat)(L:List LNd)(hs:Nt w [] a L)(hB:Bd (pln L))(hj:j<=3)(h0:0<L.length):CE 210 #[.agg #[.int .i64 (j:Int),.int .i64 mo,.int .i64 rm,.slice a L.length cap]] w [] (λg:Nat×(Option Addr×Nat)×List LNd=>.pointer (some ⟨g.1,0,none⟩)) (λg=>pln g.2.2=pln L) λg=>[.blk g.1 166 6 (tbV (j:Int) mo rm g.2.1.1 g.2.2.length g.2.1.2),.nodes 27 69 g.2.1.1 g.2.1.2 g.2.2]:=by
 have hle:=hB.len
 rw[Qb]at hle
 have hes9:∀i,i<L.length->(nth L i).es.length<=1000:=λi hi=>by have h9:=hB.es i (by rw[Qb];exact hi);rw[Ql hi]at h9;exact h9
 have hcs9:∀i,i<L.length->(nth L i).cs.length<=1000:=λi hi=>by have h9:=hB.cs i (by rw[Qb];exact hi);rw[Ql hi]at h9;exact h9
 refine eN1 Tryz.func210 Tryz.ntmps210 ?_
 refine aU2 ?_
 refine oBx λb1 _=>?_
 refine aU3 ?_
 refine Qt [] QC ?_
 refine dLn 0 [] ?_
 refine dQ 1 [] rfl (Qv rfl Qk9 rfl (λw1 h1=>Qsu w1)) (dFa 2 ?_)
 refine dLd 3 [] ?_
 refine dV 4 rfl (Qev rfl rfl rfl QgV QgQ j rfl om) (Qr (Qem j hj) (dV 5 rfl (QF (cs:=[_,_,_,_,_,_]) rfl rfl Qpq Qpg rfl) (dH 6 rfl (Qm4 rfl rfl) (λb2 _=>dBa ?_))))
 refine dP 7 ?_
 refine dNi ?_
 refine aU5 ?_
 refine oCh rfl (λw1 h1=>c245 w1 a cap L (hs.1.later h1) om) (λ⟨b3,c4⟩_=>Xm (λw h=>Qf7 h0 h aPk) (λhgn=>?_))
 obtain⟨gn,rfl,hcap,hcm⟩:=hgn
 refine QQ (λw h=>HS.own_at h aPk) (aU3 ?_)
 refine ZV (Xo rfl rfl rfl Yl rfl aPt (by show 4<=6;omega) rfl) (λ_ _=>Qau ?_)
 refine Qg (L':=[(2,_),(3,_),(24,_),(25,_),(26,_)]) aSx (λ_ h=>h) ?_
 refine Qx (α:=Nat×List LNd) [4,5,26,27,28,29,30,31,32,33,34,35,36,37,38,39,40,41,42,43,44,45,46,47,48,49,50,51,52,53] (λx=>[(26,.int .i64 (x.1:Int))]) (λx=>HS w [] [.blk gn 69 (c4*3) ((x.2++L.drop x.1).flatMap LNd.vals),.star (x.2.map (Qs 27)),.blk b2 166 6 (tbV (j:Int) mo rm (some ⟨gn,0,none⟩) L.length c4)]) (λx=>x.1<=L.length/\x.2.length=x.1/\pln x.2=(pln L).take x.1) (λx=>L.length-x.1) (0,[]) ⟨Nat.zero_le _,rfl,rfl⟩ aSx (λw h=>(h.star_nil).ent aEt) (λ⟨k,D⟩hx=>?_)
 dsimp only
 obtain⟨hk1,hk2,hk3⟩:=hx
 simp only[]at hk1 hk2 hk3
 refine aU5 ?_
 refine sCd rfl (λh5=>?_) λh5=>?_
 ·have hkl:k<L.length:=by omega
  refine aU6 ?_
  refine o_p (Qa rfl rfl rfl Qw (k) om om rfl) rfl (o_q (X6 (LNd.vals (nth L k)) rfl rfl Xs rfl (λw h=>by have h9:=Rw.rd (h.rw_blk nv3 aPk) (i:=k) (by simp only[List.length_append,List.length_drop];omega);rw[QmJ hk2 hkl]at h9;exact h9)) rfl (oAl (λb6 _=>?_) Xj))
  refine aU3 ?_
  refine Qt [20,23] QC ?_
  refine dP 0 ?_
  refine dP 1 ?_
  refine dFa 2 ?_
  refine dFa 3 ?_
  refine dLd 4 [[],[]] ?_
  refine dP 5 ?_
  refine dP 6 ?_
  refine dP 7 ?_
  refine dFa 8 ?_
  refine dFa 9 ?_
  refine dLd 10 [[],[]] ?_
  refine dP 11 ?_
  refine dFa 12 ?_
  refine dLd 13 [[],[]] ?_
  refine dFa 15 ?_
  refine dLd 16 [[17],[]] ?_
  refine dH 14 rfl (Yi rfl Qpb rfl (λw1 h1=>c114 w1 (nth L k).ea (nth L k).ec (nth L k).es ((hs.es hkl).later h1) (by have:=hes9 k hkl;omega))) (λb7 _=>dBa ?_)
  refine dH 17 rfl (Yi rfl Qp2 rfl (λw1 h1=>c246 w1 (nth L k).ca (nth L k).cc (nth L k).cs ((hs.cs hkl).later h1) (by have:=hcs9 k hkl;omega))) (λb8 _=>dBa ?_)
  refine dV 18 rfl (Qa rfl rfl rfl Qw (k) om om rfl) (dFa 19 ?_)
  refine Qlk 20 rfl (Xo rfl rfl rfl Xq rfl aPt (by simp only[Qm,Qi nv3,List.length_append,List.length_drop,Nat.zero_add];show _+1<=_;omega) rfl) (by kernel_rfl) (λw h=>h.ent aEt) (λ_ _=>?_)
  refine dTu [23] ?_
  refine dV 21 rfl (Qa rfl rfl rfl Qw (k) om om rfl) (dFa 22 ?_)
  refine Qlk 23 rfl (Xo rfl rfl rfl Xg rfl aPt (by simp only[Qm,Qi nv3,List.length_append,List.length_drop,Nat.zero_add];show _+1<=_;omega) rfl) (by kernel_rfl) (λw h=>h.ent aEt) (λ_ _=>?_)
  refine dTu [] ?_
  refine dNi ?_
  refine aU ?_
  refine Qg (L':=[(2,_),(3,_),(24,_),(25,_),(26,_)]) aSx (λ_ h=>h) ?_
  refine aT2 ?_
  refine aU2 ?_
  exact Q1 (k+1,D++[⟨(nth L k).us,b7.1,b7.2,(nth L k).es,b8.1,b8.2,(nth L k).cs⟩]) (by(try simp only[]);omega) ⟨by(try simp only[]);omega,by simp[hk2],QkK hkl hk3 rfl⟩ aSx (λw h=>by have e9:=Qfe (l:=D++L.drop k) (k:=k) (by simp only[List.length_append,List.length_drop];omega) b7.1 b7.2 (nth L k).es b8.1 b8.2 (nth L k).cs;rw[QmJ hk2 hkl,Qsw hk2 hkl]at e9;have h2:=h.ent (Bs:=[.own (.slice b7.1 (nth L k).es.length b7.2) 27 2 (nth L k).es.length ((nth L k).es.flatMap TEnt.vals),.own (.slice b8.1 (nth L k).cs.length b8.2) 3 1 (nth L k).cs.length ((nth L k).cs.flatMap inV),.star (D.map (Qs 27)),.blk gn 69 (c4*3) (Qu (Qu ((D++L.drop k).flatMap LNd.vals) (0+k*3+1) [.slice b7.1 (nth L k).es.length b7.2]) (0+k*3+2) [.slice b8.1 (nth L k).cs.length b8.2]),.blk b2 166 6 (tbV (j:Int) mo rm (some ⟨gn,0,none⟩) L.length c4)]) aEt;rw[Nat.zero_add,e9]at h2;exact(HS.sub_app (sub:=Qs 27) (l:=D) (x:=(⟨(nth L k).us,b7.1,b7.2,(nth L k).es,b8.1,b8.2,(nth L k).cs⟩:LNd)) (HS.star_close (Bs:=[_,_]) h2)).ent aEt)
 obtain rfl:k=L.length:=om
 have hD:pln D=pln L:=by rw[hk3,<-Qb L,List.take_length]
 refine Qn rfl ?_
 refine aU5 ?_
 exact rT rfl rfl (λw' h'=>⟨(b2,(some ⟨gn,0,none⟩,c4),D),rfl,hD,by have h2:=h';rw[List.drop_length,List.append_nil]at h2;have h3:=HS.own_shut (n:=D.length) (h2.ent (Bs:=[.blk gn 69 (c4*3) (D.flatMap LNd.vals),.star (D.map (Qs 27)),.blk b2 166 6 (tbV (j:Int) mo rm (some ⟨gn,0,none⟩) L.length c4)]) aEt) (Qi nv3 D) om hcm;have h4:=HS.row_shut (l:=D) (sub:=Qs 27) h3 rfl rfl;have h5:HS w [] [.nodes 27 69 (some ⟨gn,0,none⟩) c4 D,.blk b2 166 6 (tbV (j:Int) mo rm (some ⟨gn,0,none⟩) L.length c4)] w':=h4;rw[hk2];exact h5.ent aEt⟩)
theorem Qwx:QY Tryz.prog 80=true:=by kernel_rfl
theorem Qwp:QY Tryz.prog 81=true:=by kernel_rfl
theorem c80(w:World)(a:Option Addr)(cap:Nat)(l:List TEnt)(hs:Rw TEnt.vals 2 w [] a l)(hl:l.length<=100000):CE 80 #[.slice a l.length cap] w [] (λg:Option Addr×Nat=>.slice g.1 l.length g.2) (λg=>True) λg=>[.own (.slice g.1 l.length g.2) 27 2 l.length (l.flatMap TEnt.vals)]:=by
 refine eN1 Tryz.func80 Tryz.ntmps80 ?_
 refine aU6 ?_
 refine o_h (XK rfl QN) rfl (λb1 _=>aU ?_)
 refine o_h (QL (l.flatMap TEnt.vals) rfl rfl rfl QN Tryz.underlying67 XH rfl aPk (λw h=>Rw.src ev2 hs h) (Qi ev2 _) (XZ ev1 _) om (by simp only[maxLen];omega)) rfl (λb2 _=>aU2 ?_)
 exact rT rfl rfl (λw' h'=>⟨b2,by simp only[Xf,Nat.zero_add],trivial,by have h2:=h';simp only[Nat.zero_add,List.nil_append]at h2;exact h2.ent aEt⟩)
theorem c81(w:World)(a:Option Addr)(cap:Nat)(l:List Int)(hs:Rw inV 1 w [] a l)(hl:l.length<=100000):CE 81 #[.slice a l.length cap] w [] (λg:Option Addr×Nat=>.slice g.1 l.length g.2) (λg=>True) λg=>[.own (.slice g.1 l.length g.2) 3 1 l.length (l.flatMap inV)]:=by
 refine eN1 Tryz.func81 Tryz.ntmps81 ?_
 refine aU6 ?_
 refine o_h (XK rfl QA) rfl (λb1 _=>aU ?_)
 refine o_h (QL (l.flatMap inV) rfl rfl rfl QA Tryz.underlying28 Yp rfl aPk (λw h=>Rw.src iv1 hs h) (Qi iv1 _) (XZ QdX _) om (by simp only[maxLen];omega)) rfl (λb2 _=>aU2 ?_)
 exact rT rfl rfl (λw' h'=>⟨b2,by simp only[Xf,Nat.zero_add],trivial,by have h2:=h';simp only[Nat.zero_add,List.nil_append]at h2;exact h2.ent aEt⟩)
theorem c21(w:World)(co mo rm:Int)(a:Option Addr)(cap:Nat)(L:List LNd)(hs:Nt w [] a L)(hl:L.length<=1000)(hsm:Sm 1000 (pln L)):CE 21 #[.agg #[.int .i64 co,.int .i64 mo,.int .i64 rm,.slice a L.length cap]] w [] (λg:(Option Addr×Nat)×List LNd=>.agg #[.int .i64 co,.int .i64 mo,.int .i64 rm,.slice g.1.1 g.2.length g.1.2]) (λg=>pln g.2=pln L) λg=>[.nodes 27 69 g.1.1 g.1.2 g.2]:=by
 refine eN1 Tryz.func21 Tryz.ntmps21 ?_
 refine aU2 ?_
 refine oBx λb1 _=>?_
 refine oAl (λb2 _=>?_) Xh
 refine aU9 ?_
 refine o_p (QF (cs:=[_,_,_,_]) rfl rfl ZP Xh rfl) rfl (oAl (λb3 _=>?_) Xh)
 refine aU8 ?_
 refine Qx (α:=Nat×(Option Addr×Nat)×List LNd) [4,5,13,14,15,16,17,18,19,20,21,22,23,24,25,26,27,28,29,30,31,32,33,34,35,36,37,38] (λx=>[(4,.int .i64 (x.1:Int))]) (λx=>HS w [] [.own (.slice x.2.1.1 (x.2.2).length x.2.1.2) 69 3 (x.2.2).length ((x.2.2).flatMap LNd.vals),.star ((x.2.2).map (Qs 27)),.blk b3 37 4 [.int .i64 co,.int .i64 mo,.int .i64 rm,.slice x.2.1.1 (x.2.2).length x.2.1.2],.blk b2 37 4 [.int .i64 0,.int .i64 0,.int .i64 0,.slice none 0 0],.blk b1 37 4 [.int .i64 co,.int .i64 mo,.int .i64 rm,.slice a L.length cap]]) (λx=>x.1<=L.length/\x.2.2.length=x.1/\pln x.2.2=(pln L).take x.1) (λx=>L.length-x.1) (0,(none,0),[]) ⟨Nat.zero_le _,rfl,rfl⟩ aSx (λw h=>((h.own_nil 69 3).star_nil).ent aEt) (λ⟨k,⟨ga,gc⟩,D⟩hx=>?_)
 dsimp only
 obtain⟨hk1,hk2,hk3⟩:=hx
 simp only[]at hk1 hk2 hk3
 refine aU9 ?_
 refine sCd rfl (λh4=>?_) λh4=>?_
 ·have hkl:k<L.length:=by omega
  have hsk:=hsm k
  rw[Ql hkl]at hsk
  simp only[LNd.pl]at hsk
  refine aU8 ?_
  refine o_p (Qa rfl rfl rfl Qw (k) om om (Rw.some hs.1 om)) rfl (o_q (QB _ rfl rfl Xs rfl (Rw.rd hs.1 hkl)) rfl (oAl (λb5 _=>?_) Xj))
  refine aU2 ?_
  refine Qt [12,14] QC ?_
  refine dFa 0 ?_
  refine dLd 1 [[],[]] ?_
  refine dFa 2 ?_
  refine dLd 3 [[11,10],[]] ?_
  refine dFa 4 ?_
  refine dLd 5 [[9,6],[]] ?_
  refine dFa 7 ?_
  refine dLd 8 [[9],[]] ?_
  refine dH 6 rfl (Yi rfl Qwx rfl (λw1 h1=>c80 w1 (nth L k).ea (nth L k).ec (nth L k).es ((hs.es hkl).later h1) om)) (λb6 _=>dBa ?_)
  refine dH 9 rfl (Yi rfl Qwp rfl (λw1 h1=>c81 w1 (nth L k).ca (nth L k).cc (nth L k).cs ((hs.cs hkl).later h1) om)) (λb7 _=>dBa ?_)
  refine dV 10 rfl (QF (cs:=[_,_,_]) rfl rfl QbP Xj rfl) (dH 11 rfl (Qe (cs:=[_,_,_]) rfl rfl Qw Xj rfl rfl rfl) (λb8 _=>dBa ?_))
  refine dH 12 rfl (QL (LNd.vals (⟨(nth L k).us,b6.1,b6.2,(nth L k).es,b7.1,b7.2,(nth L k).cs⟩:LNd)) rfl rfl rfl Qw Tryz.underlying35 Xj rfl aPk (Xb aPk) rfl (nv1 _) om (by simp only[maxLen];omega)) (λb9 _=>dTu [14] ?_)
  refine dFa 13 ?_
  refine dSt 14 ?_ (hl:=(by simp only[Qm,List.length_set,List.length_cons,List.length_nil,List.length_map];omega))
  refine dTu [] ?_
  refine dNi ?_
  refine aU ?_
  refine Qg (L':=[(0,_),(1,_),(2,_),(3,_),(4,_),(6,_),(7,_),(8,_),(9,_),(10,_),(11,_),(12,_)]) aSx (λ_ h=>h) ?_
  refine aT3 ?_
  refine aU2 ?_
  exact Q1 (k+1,(b9.1,b9.2),D++[⟨(nth L k).us,b6.1,b6.2,(nth L k).es,b7.1,b7.2,(nth L k).cs⟩]) (by(try simp only[]);omega) ⟨by(try simp only[]);omega,by simp[hk2],QkK hkl hk3 rfl⟩ aSx (λw h=>by have h2:=HS.sub_app (sub:=Qs 27) (l:=D) (x:=(⟨(nth L k).us,b6.1,b6.2,(nth L k).es,b7.1,b7.2,(nth L k).cs⟩:LNd)) (HS.star_close (Bs:=[_,_]) (h.ent (Bs:=[.own (.slice b6.1 (nth L k).es.length b6.2) 27 2 (nth L k).es.length ((nth L k).es.flatMap TEnt.vals),.own (.slice b7.1 (nth L k).cs.length b7.2) 3 1 (nth L k).cs.length ((nth L k).cs.flatMap inV),.star (D.map (Qs 27)),.own (.slice b9.1 (D.length+1) b9.2) 69 3 (D.length+1) (D.flatMap LNd.vals++LNd.vals (⟨(nth L k).us,b6.1,b6.2,(nth L k).es,b7.1,b7.2,(nth L k).cs⟩:LNd)),.blk b3 37 4 [.int .i64 co,.int .i64 mo,.int .i64 rm,.slice b9.1 (D.length+1) b9.2],.blk b2 37 4 [.int .i64 0,.int .i64 0,.int .i64 0,.slice none 0 0],.blk b1 37 4 [.int .i64 co,.int .i64 mo,.int .i64 rm,.slice a L.length cap]]) aEt));simp only[List.length_append,List.length_singleton,List.flatMap_append,List.flatMap_singleton];exact h2.ent aEt)
 obtain rfl:k=L.length:=om
 have hD:pln D=pln L:=by rw[hk3,<-Qb L,List.take_length]
 refine Qn rfl ?_
 refine aU5 ?_
 exact Qk (rs:=[.cell 2 37]) rfl (.cell rfl XR aPk rfl (.nil)) (λw' h'=>⟨((ga,gc),D),by simp only[Xf];rw[hk2];rfl,hD,by have h3:=HS.row_shut (a:=ga) (cap:=gc) (l:=D) (sub:=Qs 27) (t:=69) (sz:=3) (vals:=LNd.vals) (h'.ent (Bs:=[.own (.slice ga D.length gc) 69 3 D.length (D.flatMap LNd.vals),.star (D.map (Qs 27))]) aEt) rfl rfl;exact h3⟩)
theorem Qg5:QY Tryz.prog 65=true:=by kernel_rfl
theorem c15(w:World)(a b:Option Addr)(c d:Nat)(l m:List Int)(hs:Rw inV 1 w [] a l)(ht:Rw inV 1 w [] b m)(hl:l.length<=100000)(hm:m.length<=100000):CR 15 #[.slice a l.length c,.slice b m.length d] w (.bool (decide (l=m))):=by
 refine eN2 Tryz.func15 Tryz.ntmps15 ?_
 refine Qau ?_
 refine sCd rfl (λh1=>?_) λh1=>?_
 ·have hn9:l≠m:=λe=>by have hq:=h1;rw[e]at hq;simp at hq
  refine aU4 ?_
  exact rV (h:=by rw[decide_eq_false hn9];rfl)
 have hlm:l.length=m.length:=by have hq:=h1;omega
 refine aU7 ?_
 refine Qx (α:=Nat) [4,5,11,12,13,14,15,16,17,18,19,20,21,22,23,24,25] (λk=>[(5,.int .i64 (k:Int))]) (λ_=>HS w [] []) (λk=>k<=l.length/\∀j,j<k->nth l j=nth m j) (λk=>l.length-k) 0 ⟨Nat.zero_le _,λj h=>absurd h (Nat.not_lt_zero j)⟩ aSx (λw h=>h.ent aEt) (λk hx=>?_)
 obtain⟨hk1,hk3⟩:=hx
 refine aU8 ?_
 refine sCd rfl (λh2=>?_) λh2=>?_
 ·have hk:k<l.length:=by omega
  have hk2:k<m.length:=om
  refine aU4 ?_
  refine Qt [] QC ?_
  refine dP 0 ?_
  refine dP 1 ?_
  refine dV 2 rfl (Qa rfl rfl rfl QA (k) om om (Rw.some hs om)) (dQ 3 [] rfl (Qc rfl rfl X4 ((hs.rdj 0 om rfl))) (dP 4 ?_))
  refine dP 5 ?_
  refine dV 6 rfl (Qa rfl rfl rfl QA (k) om om (Rw.some ht om)) (dQ 7 [] rfl (Qc rfl rfl X4 ((ht.rdj 0 om rfl))) (dP 8 ?_))
  refine dNi ?_
  refine sCd rfl (λh3=>?_) λh3=>?_
  ·have hn9:l≠m:=λe=>by have hq:=h3;rw[e]at hq;simp at hq
   refine aU4 ?_
   exact rV (h:=by rw[decide_eq_false hn9];rfl)
  have he9:nth l k=nth m k:=by have hq:=h3;exact hq
  refine aT5 ?_
  refine aU2 ?_
  exact sBk (k+1) om ⟨om,λj hj=>(Nat.lt_or_ge j k).elim (hk3 j) (λh9=>by obtain rfl:j=k:=om;exact he9)⟩
 have hl9:l=m:=QaC hlm λj hj=>hk3 j om
 refine Qn rfl ?_
 refine aU4 ?_
 exact rV (h:=by rw[decide_eq_true hl9];rfl)
theorem c179(w:World)(a:Option Addr)(cap:Nat)(l:List TEnt)(i:Nat)(x:TEnt)(hs:Rw TEnt.vals 2 w [] a l)(hl:l.length<=100000)(hi:i<=l.length)(hlc:l.length<=cap):CE 179 #[.slice a l.length cap,.int .i64 (i:Int),.agg #[.string (bs x.key),.string (bs x.val)]] w [] (λg:Option Addr×Nat=>.slice g.1 (QT l i x).length g.2) (λg=>True) λg=>[.own (.slice g.1 (QT l i x).length g.2) 27 2 (QT l i x).length ((QT l i x).flatMap TEnt.vals)]:=by
 refine eN3 Tryz.func179 Tryz.ntmps179 ?_
 refine aU2 ?_
 refine oBx λb1 _=>?_
 refine aU4 ?_
 refine o_h (XK rfl QN) rfl (λb2 _=>aU2 ?_)
 refine o_p (QG _ _ 0 i rfl rfl QN rfl ⟨_,_,rfl,rfl⟩ om om) rfl (o_h (QL ((l.take i).flatMap TEnt.vals) rfl rfl rfl QN Tryz.underlying67 XH rfl aPk (λw h=>Rw.src ev2 (QfC (Rw.cut (i:=0) hs hlc) i) h) (by rw[Qi ev2,List.length_take,Nat.min_eq_left hi];first|rfl|omega) (XZ ev1 _) om (by simp only[maxLen];omega)) rfl (λb3 _=>aU3 ?_))
 refine Qt [3,7] QC ?_
 refine dP 0 ?_
 refine dLn 1 [[2],[3,2]] ?_
 refine dP 4 ?_
 refine dP 5 ?_
 refine dV 6 rfl (QG _ _ i l.length rfl rfl QN ⟨_,_,rfl,rfl⟩ rfl om om) (dH 2 rfl (Qe (cs:=[_,_]) rfl rfl QN XH rfl rfl rfl) (λb4 _=>dBa ?_))
 refine dH 3 rfl (QL (TEnt.vals x) rfl rfl rfl QN Tryz.underlying67 XH rfl aPk (Xb aPk) rfl (ev1 _) om (by simp only[maxLen];omega)) (λb5 _=>dTu [7] ?_)
 refine dH 7 rfl (QL ((l.drop i).flatMap TEnt.vals) rfl rfl rfl QN Tryz.underlying67 XH rfl aPk (λw h=>Rw.src ev2 (Rw.cut hs hlc) h) (by rw[Qi ev2,List.length_drop]) (XZ ev1 _) om (by simp only[maxLen];omega)) (λb6 _=>dTu [] ?_)
 refine dP 8 ?_
 refine dNi ?_
 exact rT rfl rfl (λw' h'=>⟨b6,by simp only[Xf];congr 2;rw[Zz hi];omega,trivial,by have h2:=h';rw[show 0+(i-0)+1+(l.length-i)=l.length+1 by omega,List.nil_append]at h2;rw[Zz hi,show(QT l i x).flatMap TEnt.vals=(l.take i).flatMap TEnt.vals++TEnt.vals x++(l.drop i).flatMap TEnt.vals by simp[QT]];exact h2.ent aEt⟩)
theorem c225(w:World)(a:Option Addr)(cap:Nat)(l:List Int)(i:Nat)(x:Int)(hs:Rw inV 1 w [] a l)(hl:l.length<=100000)(hi:i<=l.length)(hlc:l.length<=cap):CE 225 #[.slice a l.length cap,.int .i64 (i:Int),.int .i64 x] w [] (λg:Option Addr×Nat=>.slice g.1 (QT l i x).length g.2) (λg=>True) λg=>[.own (.slice g.1 (QT l i x).length g.2) 3 1 (QT l i x).length ((QT l i x).flatMap inV)]:=by
 refine eN3 Tryz.func225 Tryz.ntmps225 ?_
 refine aU6 ?_
 refine o_h (XK rfl QA) rfl (λb1 _=>aU2 ?_)
 refine o_p (QG _ _ 0 i rfl rfl QA rfl ⟨_,_,rfl,rfl⟩ om om) rfl (o_h (QL ((l.take i).flatMap inV) rfl rfl rfl QA Tryz.underlying28 Yp rfl aPk (λw h=>Rw.src iv1 (QfC (Rw.cut (i:=0) hs hlc) i) h) (by rw[Qi iv1,List.length_take,Nat.min_eq_left hi];first|rfl|omega) (XZ QdX _) om (by simp only[maxLen];omega)) rfl (λb2 _=>aU3 ?_))
 refine Qt [3,7] QC ?_
 refine dP 0 ?_
 refine dP 1 ?_
 refine dP 4 ?_
 refine dP 5 ?_
 refine dV 6 rfl (QG _ _ i l.length rfl rfl QA ⟨_,_,rfl,rfl⟩ rfl om om) (dH 2 rfl (Qe (cs:=[_]) rfl rfl QA Yp rfl rfl rfl) (λb3 _=>dBa ?_))
 refine dH 3 rfl (QL (inV x) rfl rfl rfl QA Tryz.underlying28 Yp rfl aPk (Xb aPk) rfl (QdX _) om (by simp only[maxLen];omega)) (λb4 _=>dTu [7] ?_)
 refine dH 7 rfl (QL ((l.drop i).flatMap inV) rfl rfl rfl QA Tryz.underlying28 Yp rfl aPk (λw h=>Rw.src iv1 (Rw.cut hs hlc) h) (by rw[Qi iv1,List.length_drop]) (XZ QdX _) om (by simp only[maxLen];omega)) (λb5 _=>dTu [] ?_)
 refine dP 8 ?_
 refine dNi ?_
 exact rT rfl rfl (λw' h'=>⟨b5,by simp only[Xf];congr 2;rw[Zz hi];omega,trivial,by have h2:=h';rw[show 0+(i-0)+1+(l.length-i)=l.length+1 by omega,List.nil_append]at h2;rw[Zz hi,show(QT l i x).flatMap inV=(l.take i).flatMap inV++inV x++(l.drop i).flatMap inV by simp[QT]];exact h2.ent aEt⟩)
theorem c73(w:World)(j:Nat)(mo rm:Int)(a:Option Addr)(cap:Nat)(L:List LNd)(i:Nat)(key:List UInt8)(hj:j<=3)(hi:i<L.length)(hs:Nt w [] a L)(hl:L.length<=1000)(hel:(nth L i).es.length<=1000)(hK:∀y∈(nth L i).es,QW (j:Int) y.key=true/\y.key.length<=1000000)(hk:QW (j:Int) key=true)(hkl:key.length<=1000000):CR 73 #[.agg #[.int .i64 (j:Int),.int .i64 mo,.int .i64 rm,.slice a L.length cap],.int .i64 (i:Int),.string (bs key)] w (.tuple #[.int .i64 ((plc (j:Int) (nth L i).es key):Int),.bool (fnd (j:Int) (nth L i).es key)]):=by
 refine eN3 Tryz.func73 Tryz.ntmps73 ?_
 refine aU2 ?_
 refine oBx λb1 _=>?_
 refine aU8 ?_
 refine o_p (Qa rfl rfl rfl Qw (i) om om (Rw.some hs.1 om)) rfl (aU ?_)
 refine o_q (Qc rfl rfl Xq ((hs.1.rdj 1 hi rfl))) rfl (aU8 ?_)
 refine Qx (α:=Nat) [9,16,17,18,19,20,21,22,23,24,25,26,27,28,29,30,31,32,33] (λk=>[(9,.int .i64 (k:Int))]) (λ_=>HS w [] [.blk b1 37 4 [.int .i64 (j:Int),.int .i64 mo,.int .i64 rm,.slice a L.length cap]]) (λk=>k<=(nth L i).es.length/\∀q,q<k->QX (j:Int) (nth (nth L i).es q).key key<0) (λk=>(nth L i).es.length-k) 0 ⟨Nat.zero_le _,λj h=>absurd h (Nat.not_lt_zero j)⟩ aSx (λw h=>h.ent aEt) (λk hx=>?_)
 obtain⟨hk1,hk3⟩:=hx
 refine aU2 ?_
 refine XY (α:=Bool) [16,17,18,19,20,21,22,23,24,25,26,27,28,29,30,31] (λx=>[(31,.bool x)]) (λ_=>HS w [] [.blk b1 37 4 [.int .i64 (j:Int),.int .i64 mo,.int .i64 rm,.slice a L.length cap]]) (λx=>x=true ↔ (k<(nth L i).es.length/\QX (j:Int) (nth (nth L i).es k).key key<0)) ?_ ?_
 ·skip
  refine Qt [] QC ?_
  refine dP 0 ?_
  refine dP 1 ?_
  refine dV 2 rfl (QS rfl rfl Tryz.underlying67) (dP 3 ?_)
  refine dP 4 ?_
  apply XA 20
  ·exact rfl
  ·intro hg2
   have hs3:=hg2;try simp only[dT]at hs3
   refine dFo 5 20 hg2 ?_
   refine dQo 6 20 [] hg2 rfl rfl rfl (X8 rfl rfl X4 aPk rfl) ?_
   refine dPo 7 20 hg2 ?_
   refine dPo 8 20 hg2 ?_
   refine dVo 9 20 hg2 rfl rfl rfl (Qa rfl rfl rfl QN (k) om om (Rw.some (hs.es hi) om)) ?_
   refine dFo 10 20 hg2 ?_
   refine dQo 11 20 [] hg2 rfl rfl rfl (Qc rfl rfl Zt (((hs.es hi).rdj 0 om rfl))) ?_
   refine dPo 12 20 hg2 ?_
   refine dQo 13 20 [] hg2 rfl rfl rfl (Qv rfl Qg5 rfl (λw1 h1=>c65 w1 j (nth (nth L i).es k).key key hj (hK _ (QI om)).1 hk (hK _ (QI om)).2 hkl)) ?_
   refine dPo 14 20 hg2 ?_
   refine dV 15 rfl (Xv rfl rfl hg2 rfl) (dNi ?_)
   exact Qo (decide (QX (j:Int) (nth (nth L i).es k).key key<0)) (by rw[decide_eq_true_eq];omega) aSx (λw h=>h.ent aEt)
  intro hg4
  have hs5:=hg4;try simp only[dN]at hs5
  refine dOf 5 20 hg4 ?_
  refine dOf 6 20 hg4 ?_
  refine dOf 7 20 hg4 ?_
  refine dOf 8 20 hg4 ?_
  refine dOf 9 20 hg4 ?_
  refine dOf 10 20 hg4 ?_
  refine dOf 11 20 hg4 ?_
  refine dOf 12 20 hg4 ?_
  refine dOf 13 20 hg4 ?_
  refine dOf 14 20 hg4 ?_
  refine dV 15 rfl (Xl rfl rfl hg4 rfl) (dNi ?_)
  exact Qo false (by constructor<;>intro h9<;>first|(cases h9;done)|omega) aSx (λw h=>h.ent aEt)
 intro x hx
 refine sCd rfl (λh6=>?_) λh6=>?_
 ·obtain⟨hk5,hk6⟩:=hx.1 (by assumption)
  refine aT5 ?_
  refine aU3 ?_
  exact sBk (k+1) om ⟨om,λq hq=>(Nat.lt_or_ge q k).elim (hk3 q) (λh9=>by obtain rfl:q=k:=om;exact hk6)⟩
 have hno:¬(k<(nth L i).es.length/\QX (j:Int) (nth (nth L i).es k).key key<0):=λh9=>by have h8:=hx.2 h9;simp_all
 have hpk:(plc (j:Int) (nth L i).es key)=k:=Qvz hk1 hk3 hno
 refine Qn rfl ?_
 refine aU ?_
 refine Qt [] QC ?_
 refine dP 0 ?_
 refine dP 1 ?_
 refine dP 2 ?_
 refine dV 3 rfl (QS rfl rfl Tryz.underlying67) (dP 4 ?_)
 refine dP 5 ?_
 apply XA 39
 ·exact rfl
 ·intro hg7
  have hs8:=hg7;try simp only[dT]at hs8
  refine dFo 6 39 hg7 ?_
  refine dQo 7 39 [] hg7 rfl rfl rfl (X8 rfl rfl X4 aPk rfl) ?_
  refine dPo 8 39 hg7 ?_
  refine dPo 9 39 hg7 ?_
  refine dVo 10 39 hg7 rfl rfl rfl (Qa rfl rfl rfl QN (k) om om (Rw.some (hs.es hi) om)) ?_
  refine dFo 11 39 hg7 ?_
  refine dQo 12 39 [] hg7 rfl rfl rfl (Qc rfl rfl Zt (((hs.es hi).rdj 0 om rfl))) ?_
  refine dPo 13 39 hg7 ?_
  refine dQo 14 39 [] hg7 rfl rfl rfl (Qv rfl Qg5 rfl (λw1 h1=>c65 w1 j (nth (nth L i).es k).key key hj (hK _ (QI om)).1 hk (hK _ (QI om)).2 hkl)) ?_
  refine dPo 15 39 hg7 ?_
  refine dV 16 rfl (Xv rfl rfl hg7 rfl) (dP 17 ?_)
  refine dP 18 ?_
  refine dNi ?_
  exact Qk (rs:=[.tmp 6,.tmp 7]) rfl (.tmp rfl (.tmp rfl (.nil))) (λw' h'=>⟨by simp only[Xf,fnd];rw[hpk];first|(rw[decide_eq_true (show k<(nth L i).es.length by omega)];rfl)|(rw[decide_eq_false (show¬k<(nth L i).es.length by omega)];rfl),h'.below⟩)
 intro hg9
 have hs10:=hg9;try simp only[dN]at hs10
 refine dOf 6 39 hg9 ?_
 refine dOf 7 39 hg9 ?_
 refine dOf 8 39 hg9 ?_
 refine dOf 9 39 hg9 ?_
 refine dOf 10 39 hg9 ?_
 refine dOf 11 39 hg9 ?_
 refine dOf 12 39 hg9 ?_
 refine dOf 13 39 hg9 ?_
 refine dOf 14 39 hg9 ?_
 refine dOf 15 39 hg9 ?_
 refine dV 16 rfl (Xl rfl rfl hg9 rfl) (dP 17 ?_)
 refine dP 18 ?_
 refine dNi ?_
 exact Qk (rs:=[.tmp 6,.tmp 7]) rfl (.tmp rfl (.tmp rfl (.nil))) (λw' h'=>⟨by simp only[Xf,fnd];rw[hpk];first|(rw[decide_eq_true (show k<(nth L i).es.length by omega)];rfl)|(rw[decide_eq_false (show¬k<(nth L i).es.length by omega)];rfl),h'.below⟩)
instance:TFn Tryz.prog 73:=⟨by kernel_rfl⟩
theorem c18(w:World)(j:Nat)(mo rm:Int)(a:Option Addr)(cap:Nat)(L:List LNd)(key:List UInt8)(hj:j<=3)(h0:0<L.length)(hB:Bd (pln L))(hT:TOk (j:Int) (pln L))(hs:Nt w [] a L)(hk:QW (j:Int) key=true)(hkl:key.length<=1000000):CE 18 #[.agg #[.int .i64 (j:Int),.int .i64 mo,.int .i64 rm,.slice a L.length cap],.string (bs key)] w [] (λg:Option Addr×Nat=>.tuple #[.slice g.1 (Qj (j:Int) (pln L) key).1.length g.2,.bool (Qj (j:Int) (pln L) key).2.2]) (λg=>True) λg=>[.own (.slice g.1 ((Qj (j:Int) (pln L) key).1).length g.2) 3 1 ((Qj (j:Int) (pln L) key).1).length (((Qj (j:Int) (pln L) key).1).map λi:Nat=>Value.int .i64 (i:Int))]:=by
 have hK:∀i,i<L.length->∀y∈(nth L i).es,QW (j:Int) y.key=true/\y.key.length<=1000000:=λi hi y hy=>Qaw hT i (by rw[Qb];exact hi) y (by rw[Ql hi];exact hy)
 refine eN2 Tryz.func18 Tryz.ntmps18 ?_
 refine aU2 ?_
 refine oBx λb1 _=>?_
 refine aU9 ?_
 refine o_h (Qe (cs:=[_]) rfl rfl QA Yp rfl rfl rfl) rfl (λb2 _=>aU3 ?_)
 refine Qx (α:=(Option Addr×Nat)×List Nat×Nat×Nat) [4,5,6,7,8,9,11,12,13,14,15,16,17,18,19,20,21,22,23,24,25,26,27,28,29,30,31,32,33,34,35,36,37,38,39,40,41,42,43] (λx=>[(7,.slice x.1.1 (x.2.1++[x.2.2.1]).length x.1.2),(6,.int .i64 (x.2.2.1:Int))]) (λx=>HS w [] [.own (.slice x.1.1 (x.2.1++[x.2.2.1]).length x.1.2) 3 1 (x.2.1++[x.2.2.1]).length ((x.2.1++[x.2.2.1]).map λi:Nat=>Value.int .i64 (i:Int)),.blk b1 37 4 [.int .i64 (j:Int),.int .i64 mo,.int .i64 rm,.slice a L.length cap]]) (λx=>x.2.2.1<L.length/\x.2.1.length+x.2.2.2=L.length/\Gx.Way (pln L) (x.2.2.1::x.2.1.reverse)/\(Qj (j:Int) (pln L) key)=(x.2.1++(QdG (j:Int) (pln L) key x.2.2.2 x.2.2.1).1,(QdG (j:Int) (pln L) key x.2.2.2 x.2.2.1).2)) (λx=>x.2.2.2) ((some ⟨b2,0,none⟩,1),[],0,L.length) ⟨h0,by simp,rfl,by rw[Qj,Qb];rfl⟩ aSx (λw h=>(HS.own_shut (t:=3) (sz:=1) (n:=1) (cap:=1) (h.pick (A:=.blk b2 3 (1*1) [.int .i64 0]) aPk) rfl (by decide) (by decide)).ent aEt) (λ⟨⟨ga,gc⟩,P,i,f⟩hx=>?_)
 dsimp only
 obtain⟨hi,hlen,hway,hpath⟩:=hx
 simp only[]at hi hlen hway hpath
 have hwl:=YP hT (by rw[Qb];exact h0) hway
 simp only[List.length_cons,List.length_reverse,Qb]at hwl
 obtain⟨f,rfl⟩:∃f9,f=f9+1:=⟨f-1,om⟩
 have hni:=Ql hi
 have hle:=hB.len
 rw[Qb]at hle
 have hes9:=hB.es i (by rw[Qb];exact hi)
 have hcs9:=hB.cs i (by rw[Qb];exact hi)
 rw[hni]at hes9 hcs9
 have hPl:(P++[i]).length=P.length+1:=by simp
 refine aU6 ?_
 refine oCq rfl (λw1 h1=>c73 w1 j mo rm a cap L i key hj hi (hs.later h1.nil) om hes9 (hK i hi) hk hkl) (Zl ?_)
 refine oOr 9 19 28 rfl
  (λhg3 _=>by
   refine aU7 ?_
   refine o_p (Qa rfl rfl rfl Qw (i) om om (Rw.some hs.1 om)) rfl (aU3 ?_)
   refine o_q (Qc rfl rfl Xg ((hs.1.rdj 2 hi rfl))) rfl (aU4 ?_)
   exact oJf 9 28)
  (λhg5 _=>by
   refine aU8 ?_
   exact oJt 9 28) ?_
 refine aU ?_
 refine sCd rfl (λh7=>?_) λh7=>?_
 ·have hst:fnd (j:Int) (nth (pln L) i).es key=true\/(nth (pln L) i).cs.length=0:=by rw[hni];have hq:=h7;first|exact hq|(simp at hq;simpa[LNd.pl]using hq)
  refine aU7 ?_
  exact Qk (rs:=[.tmp 4,.tmp 5]) rfl (.tmp rfl (.tmp rfl (.nil))) (λw' h'=>⟨(ga,gc),by rw[hpath,QdE hst,hni];rfl,trivial,by rw[hpath,QdE hst];exact h'.ent aEt⟩)
 have hst:¬(fnd (j:Int) (nth (pln L) i).es key=true\/(nth (pln L) i).cs.length=0):=by rw[hni];have hq:=h7;first|exact hq|(simp at hq;simpa[LNd.pl]using hq)
 have hcl:(nth L i).cs.length=(nth L i).es.length+1:=by rcases hT.shape i (by rw[Qb];exact hi)with h9|h9;exact absurd (.inr h9) hst;rw[hni]at h9;exact h9
 have hple:=Qbm (j:Int) key (nth L i).es
 have hpk:plc (j:Int) (nth L i).es key<(nth L i).cs.length:=om
 have hkid:=Qd2 hT (by rw[Qb];exact hi) (i:=i) (k:=plc (j:Int) (nth L i).es key) (by rw[hni];exact hpk)
 rw[hni,Qb]at hkid
 simp only[LNd.pl]at hkid
 have hway2:=Qb5 hway (by rw[Qb];exact hi) (k:=plc (j:Int) (nth L i).es key) (by rw[hni];exact hpk) (by rw[hni];simp only[LNd.pl];omega)
 rw[hni]at hway2
 simp only[LNd.pl]at hway2
 refine aU6 ?_
 refine o_p (Qa rfl rfl rfl Qw (i) om om (Rw.some hs.1 om)) rfl (aU ?_)
 refine o_q (Qc rfl rfl Xg ((hs.1.rdj 2 hi rfl))) rfl (aU ?_)
 refine o_p (Qa rfl rfl rfl QA (plc (j:Int) (nth L i).es key) om om (Rw.some (hs.cs hi) om)) rfl (o_q (Qc rfl rfl X4 (((hs.cs hi).rdj 0 (i:=plc (j:Int) (nth L i).es key) hpk rfl))) rfl (aU5 ?_))
 refine o_h (Qe (cs:=[_]) rfl rfl QA Yp rfl rfl rfl) rfl (λb8 _=>o_h (QL [_] rfl rfl rfl QA Tryz.underlying28 Yp rfl aPk (Xb aPk) rfl (by intro u hu;simp only[List.mem_cons,List.mem_nil_iff,or_false]at hu;subst hu;rfl) om (by simp only[maxLen];omega)) rfl (λb9 _=>aU3 ?_))
 exact Q1 ((b9.1,b9.2),P++[i],((nth L i).cs.getD (plc (j:Int) (nth L i).es key) 0).toNat,f) (by(try simp only[]);omega) ⟨by simp only[];omega,by simp only[List.length_append,List.length_singleton];omega,by simp only[List.reverse_append,List.reverse_singleton,List.singleton_append];exact hway2,by simp only[];rw[hpath,Qh2 hst];simp[hni,LNd.pl]⟩ (by simp only[List.length_append (bs:=[((nth L i).cs.getD (plc (j:Int) (nth L i).es key) 0).toNat]),List.length_singleton];rw[Int.toNat_of_nonneg om];exact aSx) (λw h=>by have h2:=h;simp only[List.length_append (bs:=[((nth L i).cs.getD (plc (j:Int) (nth L i).es key) 0).toNat]),List.length_singleton,List.map_append (l₂:=[((nth L i).cs.getD (plc (j:Int) (nth L i).es key) 0).toNat]),List.map_cons,List.map_nil];rw[Int.toNat_of_nonneg om];exact h2.ent aEt)
theorem c224(w:World)(j:Nat)(mo rm:Int)(a:Option Addr)(cap:Nat)(L:List LNd)(p:Nat)(c:Int)(hp:p<L.length)(hs:Nt w [] a L)(hl:L.length<=1000)(hcl:(nth L p).cs.length<=1000):CR 224 #[.agg #[.int .i64 (j:Int),.int .i64 mo,.int .i64 rm,.slice a L.length cap],.int .i64 (p:Int),.int .i64 c] w (.int .i64 (ixR (nth L p).cs c:Int)):=by
 refine eN3 Tryz.func224 Tryz.ntmps224 ?_
 refine aU2 ?_
 refine oBx λb1 _=>?_
 refine aU8 ?_
 refine Qx (α:=Nat) [6,7,8,9,10,11,12,13,14,15,16,17,18,19,20,21,22,23,24,25,26,27,28,29,30] (λk=>[(7,.int .i64 (k:Int))]) (λ_=>HS w [] [.blk b1 37 4 [.int .i64 (j:Int),.int .i64 mo,.int .i64 rm,.slice a L.length cap]]) (λk=>k<=(nth L p).cs.length/\∀q,q<k->(Z4 (nth L p).cs c).getD q false=false) (λk=>(nth L p).cs.length-k) 0 ⟨Nat.zero_le _,λj h=>absurd h (Nat.not_lt_zero j)⟩ aSx (λw h=>h.ent aEt) (λk hx=>?_)
 obtain⟨hk1,hk3⟩:=hx
 refine aU7 ?_
 refine o_p (Qa rfl rfl rfl Qw (p) om om (Rw.some hs.1 om)) rfl (aU ?_)
 refine o_q (Qc rfl rfl Xg ((hs.1.rdj 2 hp rfl))) rfl (aU3 ?_)
 refine sCd rfl (λh2=>?_) λh2=>?_
 ·have hk:k<(nth L p).cs.length:=by omega
  refine aU8 ?_
  refine o_p (Qa rfl rfl rfl Qw (p) om om (Rw.some hs.1 om)) rfl (aU ?_)
  refine o_q (Qc rfl rfl Xg ((hs.1.rdj 2 hp rfl))) rfl (aU ?_)
  refine o_p (Qa rfl rfl rfl QA (k) om om (Rw.some (hs.cs hp) om)) rfl (o_q (Qc rfl rfl X4 (((hs.cs hp).rdj 0 om rfl))) rfl (aU3 ?_))
  refine sCd rfl (λh3=>?_) λh3=>?_
  ·have hq9:c=(nth L p).cs.getD k 0:=(h3).symm
   have hix:=QaM (l:=Z4 (nth L p).cs c) (k:=k) (by rw[YX];omega) hk3 (λh9=>by rw[QcZ hk];exact decide_eq_true hq9)
   refine aU5 ?_
   exact rV (h:=by simp only[Xf,ixR];rw[hix,if_pos hk])
  have hq9:¬c=(nth L p).cs.getD k 0:=λe=>h3 e.symm
  refine aT5 ?_
  refine aU2 ?_
  exact sBk (k+1) om ⟨om,λq hq=>(Nat.lt_or_ge q k).elim (hk3 q) (λh9=>by obtain rfl:q=k:=om;rw[QcZ hk];exact decide_eq_false hq9)⟩
 obtain rfl:k=(nth L p).cs.length:=om
 have hix:=QaM (l:=Z4 (nth L p).cs c) (k:=(nth L p).cs.length) (by rw[YX];omega) hk3 (λh9=>absurd h9 (by rw[YX];omega))
 refine Qn rfl ?_
 refine aU4 ?_
 exact rV (h:=by simp only[Xf,ixR];rw[hix,if_neg (Nat.lt_irrefl _)];rfl)
theorem c181(w:World)(bt:Nat)(j:Nat)(mo rm:Int)(gn cap:Nat)(L:List LNd)(hw:HS w (fps [.blk bt 37 4 [.int .i64 (j:Int),.int .i64 mo,.int .i64 rm,.slice (some ⟨gn,0,none⟩) (L).length cap],.blk gn 69 (cap*3) ((L).flatMap LNd.vals),.star ((L).map (Qs 27))]) [.blk bt 37 4 [.int .i64 (j:Int),.int .i64 mo,.int .i64 rm,.slice (some ⟨gn,0,none⟩) (L).length cap],.blk gn 69 (cap*3) ((L).flatMap LNd.vals),.star ((L).map (Qs 27))] w)(hnc:L.length<=cap)(hcm:cap<=maxLen)(h0:0<L.length)(hl:L.length<=1000):CE 181 #[.pointer (some ⟨bt,0,none⟩)] w (fps [.blk bt 37 4 [.int .i64 (j:Int),.int .i64 mo,.int .i64 rm,.slice (some ⟨gn,0,none⟩) (L).length cap],.blk gn 69 (cap*3) ((L).flatMap LNd.vals),.star ((L).map (Qs 27))]) (λg:(Nat×Nat)×List LNd=>.int .i64 ((Xx (pln L)).1:Int)) (λg=>(pln g.2=(Xx (pln L)).2/\g.2.length<=g.1.2/\g.1.2<=maxLen)) λg=>[.blk bt 37 4 [.int .i64 (j:Int),.int .i64 mo,.int .i64 rm,.slice (some ⟨g.1.1,0,none⟩) (g.2).length g.1.2],.blk g.1.1 69 (g.1.2*3) ((g.2).flatMap LNd.vals),.star ((g.2).map (Qs 27))]:=by
 have hnl:(pln L).length=L.length:=Qb L
 refine eW1 Tryz.func181 Tryz.ntmps181 hw ?_
 refine Za ?_
 refine Qx (α:=Nat×Nat) [2,3,4,5,6,7,8,9,10,11,12,13,14,15,16,17,18,19,20,21,22,23,24,25,26,27,28,29] (λx=>[(3,.int .i64 (x.1:Int))]) (λ_=>HS w (fps [.blk bt 37 4 [.int .i64 (j:Int),.int .i64 mo,.int .i64 rm,.slice (some ⟨gn,0,none⟩) (L).length cap],.blk gn 69 (cap*3) ((L).flatMap LNd.vals),.star ((L).map (Qs 27))]) [.blk bt 37 4 [.int .i64 (j:Int),.int .i64 mo,.int .i64 rm,.slice (some ⟨gn,0,none⟩) (L).length cap],.blk gn 69 (cap*3) ((L).flatMap LNd.vals),.star ((L).map (Qs 27))]) (λx=>(1<=x.1/\x.1<=L.length)/\x.1+x.2=L.length+1/\Qcv (pln L) x.2 x.1=(QdY (pln L))) (λx=>x.2) (1,L.length) ⟨⟨Nat.le_refl _,h0⟩,by simp only[];omega,by rw[QdY,hnl]⟩ aSx (λw h=>h.ent aEt) (λ⟨i,f⟩hx=>?_)
 dsimp only
 obtain⟨⟨hi1,hi2⟩,hf1,hf2⟩:=hx
 simp only[]at hi1 hi2 hf1 hf2
 obtain⟨f,rfl⟩:∃f9,f=f9+1:=⟨f-1,om⟩
 rw[Qcv]at hf2
 refine Zl ?_
 refine sCd rfl (λh1=>?_) λh1=>?_
 ·have hil:i<L.length:=by omega
  rw[if_pos (by rw[hnl];exact hil),Ql hil]at hf2
  simp only[LNd.pl]at hf2
  refine Za ?_
  refine o_p (Qa rfl rfl rfl Qw (i) om om rfl) rfl (Qh (show _=Value.pointer (some ⟨gn,i*3,none⟩)from by rw[Nat.zero_add]) (aU ?_))
  refine o_q (Qf rfl rfl Qcy (λw h=>HS.nd_cell (i:=i) om h aPk 0 rfl (by decide))) rfl (aU2 ?_)
  refine sCd rfl (λh2=>?_) λh2=>?_
  ·have hus:¬(nth L i).us=true:=by have hq:=h2;simp[hq]
   have hf3:i=(QdY (pln L)):=by rw[<-hf2];exact(if_neg hus).symm
   have hz:(QdY (pln L))<(pln L).length:=by rw[<-hf3,hnl];exact hil
   refine aU7 ?_
   refine o_p (QF (cs:=[_,_,_]) rfl rfl QbP Xj rfl) rfl (o_p (Qa rfl rfl rfl Qw (i) om om rfl) rfl (Qh (show _=Value.pointer (some ⟨gn,i*3,none⟩)from by rw[Nat.zero_add]) (ZV (Xo rfl rfl rfl Xs rfl aPt (by rw[Qi nv3];show _+3<=_;omega) rfl) (λ_ _=>aU6 ?_))))
   exact rT rfl rfl (λw' h'=>by obtain⟨L9,hS9,hC⟩:=HS.node_fre (i:=i) (gn:=gn) (cap:=cap) hil h' aPk aPk;exact⟨((gn,cap),L9),by rw[Xx,if_pos hz,<-hf3];rfl,⟨by rw[hS9.pl,Xx,if_pos hz,<-hf3];rfl,by simp only[];rw[hS9.len];exact hnc,hcm⟩,by simp only[];rw[hS9.len];exact hC.ent aEt⟩)
  have hus:(nth L i).us=true:=by have hq:=h2;simpa using hq
  have hf4:Qcv (pln L) f (i+1)=(QdY (pln L)):=by rw[<-hf2];exact(if_pos hus).symm
  refine aT5 ?_
  refine aU2 ?_
  exact sBk (i+1,f) (by(try simp only[]);omega) ⟨⟨by(try simp only[]);omega,by(try simp only[]);omega⟩,by(try simp only[]);omega,hf4⟩
 obtain rfl:i=L.length:=om
 rw[if_neg (by rw[hnl];omega)]at hf2
 have hz:¬(QdY (pln L))<(pln L).length:=by rw[<-hf2,hnl];omega
 refine XG (λw h=>(HS.own_shut (n:=L.length) (h.ent (Bs:=[.blk gn 69 (cap*3) (L.flatMap LNd.vals),.star (L.map (Qs 27)),.blk bt 37 4 [.int .i64 (j:Int),.int .i64 mo,.int .i64 rm,.slice (some ⟨gn,0,none⟩) L.length cap]]) aEt) (Qi nv3 L) hnc hcm)) (Qn rfl ?_)
 refine aU7 ?_
 refine o_p (QF (cs:=[_,_,_]) rfl rfl QbP Xj rfl) rfl (o_h (Qe (cs:=[_,_,_]) rfl rfl Qw Xj rfl rfl rfl) rfl (λb3 _=>?_))
 refine o_h (QL [_,_,_] rfl rfl rfl Qw Tryz.underlying35 Xj rfl aPk (Xb aPk) rfl (by intro u hu;simp only[List.mem_cons,List.mem_nil_iff,or_false]at hu;rcases hu with rfl|rfl|rfl<;>rfl) om (by simp only[maxLen];omega)) rfl (λb4 _=>Xm (λw h=>Qf7 (n:=L.length+1) om h aPk) (λhgn=>?_))
 obtain⟨⟨ga,gc⟩,hga⟩:∃q:Option Addr×Nat,b4=q:=⟨_,rfl⟩
 subst hga
 obtain⟨g9,e9,hn9,hm9⟩:=hgn
 simp only[]at e9 hn9 hm9
 subst e9
 refine QQ (λw h=>HS.own_at h aPk) (aU2 ?_)
 refine ZV (Xo rfl rfl rfl Yl rfl aPt (by show 4<=4;omega) rfl) (λ_ _=>aT9 ?_)
 refine aU2 ?_
 exact rT rfl rfl (λw' h'=>⟨((g9,gc),L++[(LNd.fre:LNd)]),by rw[Xx,if_neg hz,hnl];simp only[Xf];congr 2;omega,⟨by rw[Xx,if_neg hz,Qcd];rfl,by simp only[List.length_append,List.length_singleton];exact hn9,hm9⟩,by have h2:=HS.sub_app (sub:=Qs 27) (l:=L) (x:=(LNd.fre:LNd)) (HS.star_close (Bs:=[_,_]) (((h'.ent (Bs:=[.star (L.map (Qs 27)),.blk bt 37 4 [.int .i64 (j:Int),.int .i64 mo,.int .i64 rm,.slice (some ⟨g9,0,none⟩) (L.length+1) gc],.blk g9 69 (gc*3) (L.flatMap LNd.vals++[.bool true,.slice none 0 0,.slice none 0 0])]) aEt).own_nil 3 1).own_nil 27 2));have e8:(L++[(LNd.fre:LNd)]).flatMap LNd.vals=L.flatMap LNd.vals++[.bool true,.slice none 0 0,.slice none 0 0]:=(by rw[List.flatMap_append];rfl);have e7:(L++[(LNd.fre:LNd)]).length=L.length+1:=(by simp);dsimp only;rw[e8,e7];exact h2.ent aEt⟩)
theorem Qrq:Qn7 Tryz.prog 27=some [1,1]:=by kernel_rfl
instance:TFn Tryz.prog 51:=⟨by kernel_rfl⟩
instance:TFn Tryz.prog 15:=⟨by kernel_rfl⟩
theorem Qv8:QY Tryz.prog 33=true:=by kernel_rfl
theorem c51(w:World)(a b:Option Addr)(c d:Nat)(l m:List TEnt)(hs:Rw TEnt.vals 2 w [] a l)(ht:Rw TEnt.vals 2 w [] b m)(hl:l.length<=100000)(hm:m.length<=100000):CR 51 #[.slice a l.length c,.slice b m.length d] w (.bool (decide (l=m))):=by
 refine eN2 Tryz.func51 Tryz.ntmps51 ?_
 refine Qau ?_
 refine sCd rfl (λh1=>?_) λh1=>?_
 ·have hn9:l≠m:=λe=>by have hq:=h1;rw[e]at hq;simp at hq
  refine aU4 ?_
  exact rV (h:=by rw[decide_eq_false hn9];rfl)
 have hlm:l.length=m.length:=by have hq:=h1;omega
 refine aU7 ?_
 refine Qx (α:=Nat) [4,5,11,12,13,14,15,16,17,18,19,20,21,22,23,24,25] (λk=>[(5,.int .i64 (k:Int))]) (λ_=>HS w [] []) (λk=>k<=l.length/\∀j,j<k->nth l j=nth m j) (λk=>l.length-k) 0 ⟨Nat.zero_le _,λj h=>absurd h (Nat.not_lt_zero j)⟩ aSx (λw h=>h.ent aEt) (λk hx=>?_)
 obtain⟨hk1,hk3⟩:=hx
 refine aU8 ?_
 refine sCd rfl (λh2=>?_) λh2=>?_
 ·have hk:k<l.length:=by omega
  have hk2:k<m.length:=om
  refine aU4 ?_
  refine Qt [] QC ?_
  refine dP 0 ?_
  refine dP 1 ?_
  refine dV 2 rfl (Qa rfl rfl rfl QN (k) om om (Rw.some hs om)) (dQ 3 [] rfl (QB _ rfl rfl Yk rfl (Rw.rd hs om)) (dP 4 ?_))
  refine dP 5 ?_
  refine dV 6 rfl (Qa rfl rfl rfl QN (k) om om (Rw.some ht om)) (dQ 7 [] rfl (QB _ rfl rfl Yk rfl (Rw.rd ht om)) (dV 8 rfl (QdA rfl rfl rfl Qrq (by rfl) (by rfl) (by rfl)) (dNi ?_)))
  refine sCd rfl (λh3=>?_) λh3=>?_
  ·have hn9:l≠m:=λe=>by have hq:=h3;rw[e]at hq;simp at hq
   refine aU4 ?_
   exact rV (h:=by rw[decide_eq_false hn9];rfl)
  have he9:nth l k=nth m k:=by have hq:=h3;exact Qin hq.1 hq.2.1
  refine aT5 ?_
  refine aU2 ?_
  exact sBk (k+1) om ⟨om,λj hj=>(Nat.lt_or_ge j k).elim (hk3 j) (λh9=>by obtain rfl:j=k:=om;exact he9)⟩
 have hl9:l=m:=QaC hlm λj hj=>hk3 j om
 refine Qn rfl ?_
 refine aU4 ?_
 exact rV (h:=by rw[decide_eq_true hl9];rfl)
theorem c33(w:World)(n m:LNd)(hne:Rw TEnt.vals 2 w [] n.ea n.es)(hnc:Rw inV 1 w [] n.ca n.cs)(hme:Rw TEnt.vals 2 w [] m.ea m.es)(hmc:Rw inV 1 w [] m.ca m.cs)(h1:n.es.length<=100000/\n.cs.length<=100000)(h2:m.es.length<=100000/\m.cs.length<=100000):CR 33 #[.agg #[.bool n.us,.slice n.ea n.es.length n.ec,.slice n.ca n.cs.length n.cc],.agg #[.bool m.us,.slice m.ea m.es.length m.ec,.slice m.ca m.cs.length m.cc]] w (.bool (decide (n.pl=m.pl))):=by
 refine eN2 Tryz.func33 Tryz.ntmps33 ?_
 refine aU2 ?_
 refine oBx λb1 _=>?_
 refine oBx λb2 _=>?_
 refine aU8 ?_
 refine o_p (Qd9 rfl rfl rfl Tryz.underlying4) rfl (aU ?_)
 refine XF 6 10 16 rfl
  (λhg3 _=>by
   refine aU9 ?_
   refine oCq rfl (λw1 h1=>c51 w1 n.ea m.ea n.ec m.ec n.es m.es (hne.later h1.nil) (hme.later h1.nil) om om) ?_
   exact oJt 6 16)
  (λhg5 _=>by
   refine aU5 ?_
   exact oJf 6 16) ?_
 refine aU ?_
 refine XF 6 17 23 rfl
  (λhg7 _=>by
   refine aU9 ?_
   refine oCq rfl (λw1 h1=>c15 w1 n.ca m.ca n.cc m.cc n.cs m.cs (hnc.later h1.nil) (hmc.later h1.nil) om om) ?_
   exact oJt 6 23)
  (λhg9 _=>by
   refine aU5 ?_
   exact oJf 6 23) ?_
 refine aU2 ?_
 exact rV (h:=by simp only[Xf];rw[Qf8])
end Go.Proofs
namespace Gx
open Go Go.RowKit
def XE(n:Nat)(S:List Int):List Value:=(List.range n).map λk=>Value.bool (decide (((k:Nat):Int)∈S))
theorem QbJ(n:Nat)(S:List Int):(XE n S).length=n:=by simp[XE]
theorem QbU{n k:Nat}{S:List Int}(h:k<n):(XE n S)[k]?=some (.bool (decide (((k:Nat):Int)∈S))):=by
 unfold XE;rw[List.getElem?_map,List.getElem?_range h];rfl
theorem Qjl{n k:Nat}{S:List Int}(h:k<n):Qu (XE n S) k [.bool true]=XE n (((k:Nat):Int)::S):=by
 apply List.ext_getElem?;intro i;show((XE n S).set k (.bool true))[i]?=_;rw[List.getElem?_set]
 by_cases hi:i<n
 ·rw[QbU hi]
  by_cases e:k=i
  ·subst e;rw[if_pos rfl,if_pos (by rw[QbJ];exact h),QbU h,decide_eq_true (List.mem_cons_self ..)]
  ·rw[if_neg e,QbU hi];congr 2;have hne:((i:Nat):Int)≠((k:Nat):Int):=by omega
   simp[List.mem_cons,hne]
 ·rw[if_neg om,List.getElem?_eq_none (by rw[QbJ];omega),List.getElem?_eq_none (by rw[QbJ];omega)]
theorem QpV{n:Nat}{c:Int}{S:List Int}(h:c∈S):XE n (c::S)=XE n S:=by
 unfold XE;apply List.map_congr_left;intro k _;congr 1
 by_cases e:((k:Nat):Int)∈S
 ·rw[decide_eq_true e,decide_eq_true (List.mem_cons_of_mem _ e)]
 ·rw[decide_eq_false e,decide_eq_false (λh2=>by
   rcases List.mem_cons.1 h2 with h3|h3
   ·exact e (h3▸h)
   ·exact e h3)]
theorem Qnv{t:Tre}{i:Nat}{S:List Int}(h:¬(nth t.ns i).us=true):Yh t i S=if(0<i/\i+1<t.ns.length)/\(nth t.ns i).es.length+(nth t.ns i).cs.length=0 then(0,S)else(3,S):=by
 unfold Yh;simp only[];rw[if_neg h]
section
variable{t:Tre}{i:Nat}{S:List Int}{n:Nd}
theorem Qtk(hn:nth t.ns i=n)(hu:n.us=true)(h:¬(n.es.length:Int)<=YB t.mo t.rm i):Yh t i S=(16,S):=by
 subst hn;unfold Yh;simp only[];rw[if_pos hu,if_neg h]
theorem QsD(hn:nth t.ns i=n)(hu:n.us=true)(h:(n.es.length:Int)<=YB t.mo t.rm i)(h2:¬(n.cs.length=0\/n.cs.length=n.es.length+1)):Yh t i S=(10,S):=by
 subst hn;unfold Yh;simp only[];rw[if_pos hu,if_pos h,if_neg h2]
theorem Qs5(hn:nth t.ns i=n)(hu:n.us=true)(h:(n.es.length:Int)<=YB t.mo t.rm i)(h2:n.cs.length=0\/n.cs.length=n.es.length+1)(h3:¬Z5 t.co n.es=0):Yh t i S=(Z5 t.co n.es,S):=by
 subst hn;unfold Yh;simp only[];rw[if_pos hu,if_pos h,if_pos h2,if_neg h3]
theorem QnI(hn:nth t.ns i=n)(hu:n.us=true)(h:(n.es.length:Int)<=YB t.mo t.rm i)(h2:n.cs.length=0\/n.cs.length=n.es.length+1)(h3:Z5 t.co n.es=0)(h4:¬(Ys t.ns n.cs S).1=0):Yh t i S=Ys t.ns n.cs S:=by
 subst hn;unfold Yh;simp only[];rw[if_pos hu,if_pos h,if_pos h2,if_pos h3,if_neg h4]
theorem Qng(hn:nth t.ns i=n)(hu:n.us=true)(h:(n.es.length:Int)<=YB t.mo t.rm i)(h2:n.cs.length=0\/n.cs.length=n.es.length+1)(h3:Z5 t.co n.es=0)(h4:(Ys t.ns n.cs S).1=0):Yh t i S=(QaW t.co n.es,(Ys t.ns n.cs S).2):=by
 subst hn;unfold Yh;simp only[];rw[if_pos hu,if_pos h,if_pos h2,if_pos h3,if_pos h4]
end
theorem QkS{es:List Int}{k:Nat}(hk:k<es.length)(h:∀j,j<k->es.getD j 0=0)(h2:es.getD k 0≠0):Zn es 0=((k:Int),es.getD k 0):=by
 have key:∀i,i<=k->Zn es 0=Zn (es.drop i) i:=by
  intro i
  induction i with
  | zero=>intro _;rfl
  | succ i ih=>
   intro hi;rw[ih om,Qa0 om,if_pos (h i om)]
 rw[key k (Nat.le_refl _),Qa0 hk,if_neg h2]
theorem QhP{es:List Int}(h:∀j,j<es.length->es.getD j 0=0):Zn es 0=(0,0):=by
 have key:∀i,i<=es.length->Zn es 0=Zn (es.drop i) i:=by
  intro i
  induction i with
  | zero=>intro _;rfl
  | succ i ih=>
   intro hi;rw[ih om,Qa0 om,if_pos (h i om)]
 rw[key _ (Nat.le_refl _),List.drop_length];rfl
theorem QoW{co:Int}{es:List TEnt}{k:Nat}(hk:k<es.length)(h1:∀q,q<k->Yu co (nth es q)=0)(h2:¬Yu co (nth es k)=0):Z5 co es=Yu co (nth es k):=by
 unfold Z5;rw[QkS (es:=es.map (Yu co)) (k:=k) (by rw[List.length_map];exact hk) (λq hq=>by rw[QcD om];exact h1 q hq) (by rw[QcD hk];exact h2),QcD hk]
theorem Qql{co:Int}{es:List TEnt}(h1:∀q,q<es.length->Yu co (nth es q)=0):Z5 co es=0:=by
 unfold Z5;rw[QhP (λq hq=>by rw[List.length_map]at hq;rw[QcD hq];exact h1 q hq)]
theorem QrD{co:Int}{es:List TEnt}{k:Nat}(hk:k<es.length)(h1:∀q,q<k->Qbu co es q=0)(h2:¬Qbu co es k=0):QaW co es=Qbu co es k:=by
 unfold QaW;rw[QkS (es:=(List.range es.length).map (Qbu co es)) (k:=k) (by simpa using hk) (λq hq=>by rw[QcU om];exact h1 q hq) (by rw[QcU hk];exact h2),QcU hk]
theorem Qpa{co:Int}{es:List TEnt}(h1:∀q,q<es.length->Qbu co es q=0):QaW co es=0:=by
 unfold QaW;rw[QhP (λq hq=>by rw[List.length_map,List.length_range]at hq;rw[QcU hq];exact h1 q hq)]
end Gx
namespace Go.Proofs
open Go Go.RowKit Gx
attribute [local irreducible] Go.Calls Gx.S Gx.O Gx.D Gx.OpP Gx.OpQ Gx.OpH
set_option maxRecDepth 20000
theorem Qvs:QY Tryz.prog 198=true:=by kernel_rfl
theorem c136(w:World)(j:Nat)(mo rm:Int)(a:Option Addr)(cap:Nat)(L:List LNd)(i sb scap tot:Nat)(S:List Int)(hw:HS w (fps [.blk sb 4 tot (XE L.length S)]) [.blk sb 4 tot (XE L.length S)] w)(hs:Nt w (fps [.blk sb 4 tot (XE L.length S)]) a L)(hj:j<=3)(hi:i<L.length)(hl:L.length<=1000)(hel:(nth L i).es.length<=1000)(hcl:(nth L i).cs.length<=1000)(hK:∀x∈(nth L i).es,x.key.length<=1000000):CE 136 #[.agg #[.int .i64 (j:Int),.int .i64 mo,.int .i64 rm,.slice a L.length cap],.int .i64 (i:Int),.slice (some ⟨sb,0,none⟩) L.length scap] w (fps [.blk sb 4 tot (XE L.length S)]) (λg:Unit=>.int .i64 (Yh (⟨(j:Int),mo,rm,pln L⟩:Tre) i S).1) (λg=>True) λg=>[.blk sb 4 tot (XE L.length (Yh (⟨(j:Int),mo,rm,pln L⟩:Tre) i S).2)]:=by
 have hNI:=Ql hi
 have hnl:(pln L).length=L.length:=Qb L
 refine eW3 Tryz.func136 Tryz.ntmps136 hw ?_
 refine aU2 ?_
 refine oBx λb1 _=>?_
 refine aU7 ?_
 refine o_p (Qa rfl rfl rfl Qw (i) om om (Rw.some hs.1 om)) rfl (o_q (QB _ rfl rfl Xs rfl (Rw.rd hs.1 hi)) rfl (oAl (λb2 _=>?_) Xj))
 refine aU9 ?_
 refine sCd rfl (λh3=>?_) λh3=>?_
 ·have hu9:¬(nth L i).us=true:=by have hq:=h3;simp[hq]
  have hun:=Qnv (t:=(⟨(j:Int),mo,rm,pln L⟩:Tre)) (S:=S) (i:=i) (by rw[show((⟨(j:Int),mo,rm,pln L⟩:Tre)).ns=pln L from rfl,hNI];exact hu9)
  rw[show((⟨(j:Int),mo,rm,pln L⟩:Tre)).ns=pln L from rfl,hNI,hnl]at hun
  refine aU6 ?_
  refine oOr 7 24 31 rfl
   (λhg4 _=>by
    refine aT4 ?_
    refine aU8 ?_
    exact oJf 7 31)
   (λhg6 _=>by
    refine aU6 ?_
    exact oJt 7 31) ?_
  refine aU ?_
  refine oOr 5 32 37 rfl
   (λhg8 _=>by
    refine aU8 ?_
    exact oJf 5 37)
   (λhg10 _=>by
    refine aU4 ?_
    exact oJt 5 37) ?_
  refine aU ?_
  refine oOr 5 38 43 rfl
   (λhg12 _=>by
    refine aU8 ?_
    exact oJf 5 43)
   (λhg14 _=>by
    refine aU4 ?_
    exact oJt 5 43) ?_
  refine aU ?_
  refine sCd rfl (λh16=>?_) λh16=>?_
  ·have hn9:¬((0<i/\i+1<L.length)/\(nth L i).es.length+(nth L i).cs.length=0):=by have hq:=h16;omega
   have hun2:(Yh (⟨(j:Int),mo,rm,pln L⟩:Tre) i S)=(3,S):=by rw[hun];exact if_neg hn9
   refine aU4 ?_
   exact rT rfl rfl (λw' h'=>⟨(),by rw[hun2];rfl,trivial,by rw[hun2];exact h'.ent aEt⟩)
  have hn9:(0<i/\i+1<L.length)/\(nth L i).es.length+(nth L i).cs.length=0:=by have hq:=h16;omega
  have hun2:(Yh (⟨(j:Int),mo,rm,pln L⟩:Tre) i S)=(0,S):=by rw[hun];exact if_pos hn9
  refine aU5 ?_
  exact rT rfl rfl (λw' h'=>⟨(),by rw[hun2];rfl,trivial,by rw[hun2];exact h'.ent aEt⟩)
 have hu9:(nth L i).us=true:=by have hq:=h3;simpa using hq
 refine Qau ?_
 refine Qg (L':=[(2,_),(3,_),(6,_),(7,_),(8,_),(47,_)]) aSx (λ_ h=>h) ?_
 refine ZC (α:=Unit) [8,48,49] (λ_=>[(8,.int .i64 (YB mo rm i))]) (λ_=>True) ?_ ?_
 ·skip
  refine sCd rfl (λh17=>?_) λh17=>?_
  ·have hi0:i=0:=by have hq:=h17;omega
   refine aU5 ?_
   exact Qo () trivial (by rw[show YB mo rm i=rm from if_pos hi0];exact aSx) (λw h=>h)
  have hi0:¬i=0:=by have hq:=h17;omega
  refine aU ?_
  exact Qo () trivial (by rw[show YB mo rm i=mo from if_neg hi0];exact aSx) (λw h=>h)
 intro _ _
 refine aU9 ?_
 refine sCd rfl (λh18=>?_) λh18=>?_
 ·have h16:(Yh (⟨(j:Int),mo,rm,pln L⟩:Tre) i S)=(16,S):=Qtk (t:=(⟨(j:Int),mo,rm,pln L⟩:Tre)) hNI hu9 (by show¬((nth L i).es.length:Int)<=YB mo rm i;have hq:=h18;omega)
  refine aU4 ?_
  exact rT rfl rfl (λw' h'=>⟨(),by rw[h16];rfl,trivial,by rw[h16];exact h'.ent aEt⟩)
 have hM9:((nth L i).es.length:Int)<=YB mo rm i:=by have hq:=h18;omega
 refine aU9 ?_
 refine XF 9 59 68 rfl
  (λhg19 _=>by
   refine aT14 ?_
   refine aU2 ?_
   exact oJt 9 68)
  (λhg21 _=>by
   refine aU8 ?_
   exact oJf 9 68) ?_
 refine aU ?_
 refine sCd rfl (λh23=>?_) λh23=>?_
 ·have h10:(Yh (⟨(j:Int),mo,rm,pln L⟩:Tre) i S)=(10,S):=QsD (t:=(⟨(j:Int),mo,rm,pln L⟩:Tre)) hNI hu9 hM9 (by show¬((nth L i).cs.length=0\/(nth L i).cs.length=(nth L i).es.length+1);have hq:=h23;omega)
  refine aU4 ?_
  exact rT rfl rfl (λw' h'=>⟨(),by rw[h10];rfl,trivial,by rw[h10];exact h'.ent aEt⟩)
 have hS9:(nth L i).cs.length=0\/(nth L i).cs.length=(nth L i).es.length+1:=by have hq:=h23;omega
 refine aU7 ?_
 refine Qg (L':=[(2,_),(3,_),(6,_),(7,_),(9,_)]) aSx (λ_ h=>h) ?_
 refine Qx (α:=Nat) [6,9,10,69,70,71,72,73,74,75,76,77,78,79,80,81,82,83,84,85,86] (λk=>[(9,.int .i64 (k:Int))]) (λ_=>HS w (fps [.blk sb 4 tot (XE L.length S)]) [.blk sb 4 tot (XE L.length S),.blk b1 37 4 [.int .i64 (j:Int),.int .i64 mo,.int .i64 rm,.slice a L.length cap],.blk b2 69 3 (LNd.vals (nth L i))]) (λk=>k<=(nth L i).es.length/\∀q,q<k->Yu (j:Int) (nth (nth L i).es q)=0) (λk=>(nth L i).es.length-k) 0 ⟨Nat.zero_le _,λj h=>absurd h (Nat.not_lt_zero j)⟩ aSx (λw h=>h.ent aEt) (λk hx=>?_)
 obtain⟨hk1,hk3⟩:=hx
 refine aU9 ?_
 refine sCd rfl (λh24=>?_) λh24=>?_
 ·have hk5:k<(nth L i).es.length:=by omega
  refine aU4 ?_
  refine Qt [] QC ?_
  refine dFa 0 ?_
  refine dLd 1 [] ?_
  refine dFa 2 ?_
  refine dLd 3 [] ?_
  refine dP 4 ?_
  refine dV 5 rfl (Qa rfl rfl rfl QN (k) om om (Rw.some (hs.es hi) om)) (dQ 6 [] rfl (QB _ rfl rfl Yk rfl (Rw.rd (hs.es hi) hk5)) (dQ 7 [] rfl (Qv rfl Qvs rfl (λw1 h1=>c198 w1 j (nth (nth L i).es k) hj (hK _ (QI hk5)))) (dP 8 ?_)))
  refine dNi ?_
  refine aU5 ?_
  refine sCd rfl (λh25=>?_) λh25=>?_
  ·have hz6:¬Yu (j:Int) (nth (nth L i).es k)=0:=h25
   have hEb:=QoW hk5 hk3 hz6
   have hEe:(Yh (⟨(j:Int),mo,rm,pln L⟩:Tre) i S)=(Yu (j:Int) (nth (nth L i).es k),S):=by rw[<-hEb];exact Qs5 (t:=(⟨(j:Int),mo,rm,pln L⟩:Tre)) hNI hu9 hM9 hS9 (by show¬Z5 (j:Int) (nth L i).es=0;rw[hEb];exact hz6)
   refine aU5 ?_
   exact rT rfl rfl (λw' h'=>⟨(),by rw[hEe];rfl,trivial,by rw[hEe];exact h'.ent aEt⟩)
  have hz6:Yu (j:Int) (nth (nth L i).es k)=0:=by have hq:=h25;omega
  refine aT5 ?_
  refine aU2 ?_
  exact sBk (k+1) om ⟨om,λq hq=>(Nat.lt_or_ge q k).elim (hk3 q) (λh9=>by obtain rfl:q=k:=om;exact hz6)⟩
 have hEn:∀q,q<(nth L i).es.length->Yu (j:Int) (nth (nth L i).es q)=0:=λq hq=>hk3 q om
 have hE0:Z5 (j:Int) (nth L i).es=0:=Qql hEn
 refine Qn rfl ?_
 refine aU6 ?_
 refine Qx (α:=Nat×List Int) [6,11,12,87,88,89,90,91,92,93,94,95,96,97,98,99,100,101,102,103,104,105,106,107,108,109,110,111,112,113,114,115,116,117,118,119,120,121] (λy=>[(11,.int .i64 (y.1:Int))]) (λy=>HS w (fps [.blk sb 4 tot (XE L.length S)]) [.blk sb 4 tot (XE L.length y.2),.blk b1 37 4 [.int .i64 (j:Int),.int .i64 mo,.int .i64 rm,.slice a L.length cap],.blk b2 69 3 (LNd.vals (nth L i))]) (λy=>y.1<=(nth L i).cs.length/\(Ys (pln L) (nth L i).cs S)=Ys (pln L) ((nth L i).cs.drop y.1) y.2) (λy=>(nth L i).cs.length-y.1) (0,S) ⟨Nat.zero_le _,rfl⟩ aSx (λw h=>h.ent aEt) (λ⟨k,Sk⟩hx=>?_)
 dsimp only
 obtain⟨hk1,hk3⟩:=hx
 simp only[]at hk1 hk3
 refine aU9 ?_
 refine sCd rfl (λh26=>?_) λh26=>?_
 ·have hk5:k<(nth L i).cs.length:=by omega
  have hkd9:nth (nth L i).cs k=((nth L i).cs.getD k 0):=rfl
  have hst:=Qds hk5
  rw[hst,Qb3]at hk3
  refine aU8 ?_
  refine o_p (Qa rfl rfl rfl QA (k) om om (Rw.some (hs.cs hi) om)) rfl (o_q (Qc rfl rfl X4 (((hs.cs hi).rdj 0 hk5 rfl))) rfl (Qh (show _=Value.int .i64 ((nth L i).cs.getD k 0)from rfl) (Qhi ?_)))
  refine oCq rfl (λw1 h1=>c40 w1 _ _ _) (aU2 ?_)
  refine oOr 8 106 114 rfl
   (λhg27 _=>by
    refine aU7 ?_
    refine o_p (Qa rfl rfl rfl Qw (((nth L i).cs.getD k 0).toNat) om om (Rw.some hs.1 om)) rfl (aU3 ?_)
    refine o_q (Qc rfl rfl Qcy ((hs.1.rdj 0 (i:=((nth L i).cs.getD k 0).toNat) om rfl))) rfl (aU2 ?_)
    exact oJf 8 114)
   (λhg29 _=>by
    refine aU7 ?_
    exact oJt 8 114) ?_
  refine aU ?_
  refine sCd rfl (λh31=>?_) λh31=>?_
  ·have hko:¬QdM (pln L) ((nth L i).cs.getD k 0):=by rintro⟨h91,h92⟩;rw[hnl]at h91;rw[Ql om]at h92;have hq:=h31;exact hq.elim (λhq=>om) (λhq=>by rw[show(nth L ((nth L i).cs.getD k 0).toNat).pl.us=(nth L ((nth L i).cs.getD k 0).toNat).us from rfl,hq]at h92;cases h92)
   have hk6e:(Yh (⟨(j:Int),mo,rm,pln L⟩:Tre) i S)=(6,Sk):=by have h8:QcK (pln L) ((nth L i).cs.getD k 0) Sk=6:=if_neg hko;have h7:Qer (pln L) ((nth L i).cs.getD k 0) Sk=Sk:=if_neg hko;rw[h8,h7,if_neg (by decide)]at hk3;rw[<-hk3];exact QnI (t:=(⟨(j:Int),mo,rm,pln L⟩:Tre)) hNI hu9 hM9 hS9 hE0 (by show¬(Ys (pln L) (nth L i).cs S).1=0;rw[hk3];show¬(6:Int)=0;decide)
   refine aU ?_
   refine Qg (L':=[(2,_),(3,_),(7,_),(9,_),(11,_),(12,_),(69,_),(70,_),(71,_),(72,_),(73,_)]) aSx (λ_ h=>h) ?_
   refine aU3 ?_
   exact rT rfl rfl (λw' h'=>⟨(),by rw[hk6e];rfl,trivial,by rw[hk6e];exact h'.ent aEt⟩)
  have hko:QdM (pln L) ((nth L i).cs.getD k 0):=by have hq:=h31;refine⟨by rw[hnl];exact hq.1,?_⟩;rw[Ql om];exact hq.2
  have hko1:=hko.1
  rw[hnl]at hko1
  have hcv2:((nth L i).cs.getD k 0).toNat<L.length:=om
  have hcc:((((nth L i).cs.getD k 0).toNat:Nat):Int)=((nth L i).cs.getD k 0):=Int.toNat_of_nonneg om
  have h7:Qer (pln L) ((nth L i).cs.getD k 0) Sk=((nth L i).cs.getD k 0)::Sk:=if_pos hko
  rw[h7]at hk3
  have hsv:=Qjl (n:=L.length) (S:=Sk) hcv2
  rw[hcc]at hsv
  refine aU3 ?_
  refine Qg (L':=[(2,_),(3,_),(7,_),(9,_),(11,_),(12,_),(69,_),(70,_),(71,_),(72,_),(73,_)]) aSx (λ_ h=>h) ?_
  refine aU3 ?_
  refine o_p (Qa rfl rfl rfl Qca (((nth L i).cs.getD k 0).toNat) om om rfl) rfl (Qh (show _=Value.pointer (some ⟨sb,((nth L i).cs.getD k 0).toNat,none⟩)from by rw[Nat.zero_add,Nat.mul_one]) (o_q (Qf rfl rfl Qcy (λw h=>h.rd_blk (Mc:=[]) aPk (QbU hcv2) (by simp))) rfl (aU ?_)))
  refine sCd rfl (λh32=>?_) λh32=>?_
  ·have hmem:((nth L i).cs.getD k 0)∈Sk:=by have hq:=h32;rw[hcc]at hq;exact hq
   have h8:QcK (pln L) ((nth L i).cs.getD k 0) Sk=23:=by rw[QcK,if_pos hko,if_pos hmem]
   rw[h8,if_neg (by decide)]at hk3
   have hk23:(Yh (⟨(j:Int),mo,rm,pln L⟩:Tre) i S)=(23,((nth L i).cs.getD k 0)::Sk):=by rw[<-hk3];exact QnI (t:=(⟨(j:Int),mo,rm,pln L⟩:Tre)) hNI hu9 hM9 hS9 hE0 (by show¬(Ys (pln L) (nth L i).cs S).1=0;rw[hk3];show¬(23:Int)=0;decide)
   refine aU4 ?_
   exact rT rfl rfl (λw' h'=>⟨(),by rw[hk23];rfl,trivial,by rw[hk23,QpV hmem];exact h'.ent aEt⟩)
  have hmem:¬((nth L i).cs.getD k 0)∈Sk:=by have hq:=h32;rw[hcc]at hq;exact hq
  have h8:QcK (pln L) ((nth L i).cs.getD k 0) Sk=0:=by rw[QcK,if_pos hko,if_neg hmem]
  rw[h8,if_pos rfl]at hk3
  have hk9:=hk3
  refine aU4 ?_
  refine o_p (Qa rfl rfl rfl Qca (((nth L i).cs.getD k 0).toNat) om om rfl) rfl (Qh (show _=Value.pointer (some ⟨sb,((nth L i).cs.getD k 0).toNat,none⟩)from by rw[Nat.zero_add,Nat.mul_one]) (ZV (Xo rfl rfl rfl Qcy rfl aPt (by rw[QbJ];show _+1<=_;omega) rfl) (λ_ _=>aT5 ?_)))
  refine aU2 ?_
  exact Q1 (k+1,((nth L i).cs.getD k 0)::Sk) (by(try simp only[]);omega) ⟨by(try simp only[]);omega,hk9⟩ aSx (λw h=>by have h2:=h;rw[show Qu (XE L.length Sk) ((nth L i).cs.getD k 0).toNat (Value.cells (.bool true)).toList=XE L.length (((nth L i).cs.getD k 0)::Sk)from hsv]at h2;exact h2.ent aEt)
 have hdr9:(nth L i).cs.drop k=[]:=List.drop_of_length_le om
 rw[hdr9]at hk3
 have hK0:(Ys (pln L) (nth L i).cs S).1=0:=by rw[hk3];rfl
 have hK2:(Ys (pln L) (nth L i).cs S).2=Sk:=by rw[hk3];rfl
 have hOr:(Yh (⟨(j:Int),mo,rm,pln L⟩:Tre) i S)=(QaW (j:Int) (nth L i).es,(Ys (pln L) (nth L i).cs S).2):=by have h9:=Qng (t:=(⟨(j:Int),mo,rm,pln L⟩:Tre)) (i:=i) (S:=S) (n:=(nth L i).pl) hNI hu9 hM9 hS9 hE0 hK0;exact h9
 refine Qn rfl ?_
 refine aU6 ?_
 refine Qx (α:=Nat) [6,13,122,123,124,125,126,127,128,129,130,131,132,133,134,135,136,137,138,139,140,141,142,143,144,145] (λk=>[(13,.int .i64 (k:Int))]) (λ_=>HS w (fps [.blk sb 4 tot (XE L.length S)]) [.blk sb 4 tot (XE L.length (Ys (pln L) (nth L i).cs S).2),.blk b1 37 4 [.int .i64 (j:Int),.int .i64 mo,.int .i64 rm,.slice a L.length cap],.blk b2 69 3 (LNd.vals (nth L i))]) (λk=>1<=k/\∀q,q<k->Qbu (j:Int) (nth L i).es q=0) (λk=>(nth L i).es.length-k) 1 ⟨Nat.le_refl _,λq h=>if_pos (.inl om)⟩ aSx (λw h=>by rw[hK2];exact h.ent aEt) (λk hx=>?_)
 obtain⟨hk1,hk3b⟩:=hx
 refine aU9 ?_
 refine sCd rfl (λh33=>?_) λh33=>?_
 ·have hk5:k<(nth L i).es.length:=by omega
  have hk6:k-1<(nth L i).es.length:=om
  refine aU4 ?_
  refine Qt [] QC ?_
  refine dFa 0 ?_
  refine dLd 1 [] ?_
  refine dFa 2 ?_
  refine dLd 3 [] ?_
  refine dP 4 ?_
  refine dP 5 ?_
  try refine dWr ?_
  refine dV 6 rfl (Qa rfl rfl rfl QN (k-1) om om (Rw.some (hs.es hi) om)) (dFa 7 ?_)
  refine dQ 8 [] rfl (Qc rfl rfl Zt (((hs.es hi).rdj 0 hk6 rfl))) (dFa 9 ?_)
  refine dLd 10 [] ?_
  refine dP 11 ?_
  refine dV 12 rfl (Qa rfl rfl rfl QN (k) om om (Rw.some (hs.es hi) om)) (dFa 13 ?_)
  refine dQ 14 [] rfl (Qc rfl rfl Zt (((hs.es hi).rdj 0 hk5 rfl))) (dQ 15 [] rfl (Qv rfl Qg5 rfl (λw1 h1=>c65 w1 j (nth (nth L i).es (k-1)).key (nth (nth L i).es k).key hj (QaV (hEn _ hk6)) (QaV (hEn _ hk5)) (hK _ (QI hk6)) (hK _ (QI hk5)))) (dP 16 ?_))
  refine dNi ?_
  refine sCd rfl (λh34=>?_) λh34=>?_
  ·have hz11:¬Qbu (j:Int) (nth L i).es k=0:=by unfold Qbu;rw[if_neg (by have hq:=h34;omega)];decide
   have hOb:=QrD hk5 hk3b hz11
   have hOv:Qbu (j:Int) (nth L i).es k=9:=if_neg (by have hq:=h34;omega)
   refine aU ?_
   refine Qg (L':=[(2,_),(3,_),(7,_),(9,_),(11,_),(13,_),(69,_),(70,_),(71,_),(72,_),(73,_),(87,_),(88,_),(89,_),(90,_),(91,_)]) aSx (λ_ h=>h) ?_
   refine aU3 ?_
   exact rT rfl rfl (λw' h'=>⟨(),by rw[hOr,hOb,hOv];rfl,trivial,by rw[hOr];exact h'.ent aEt⟩)
  have hz11:Qbu (j:Int) (nth L i).es k=0:=if_pos (.inr (by have hq:=h34;omega))
  refine aU2 ?_
  refine Qg (L':=[(2,_),(3,_),(7,_),(9,_),(11,_),(13,_),(69,_),(70,_),(71,_),(72,_),(73,_),(87,_),(88,_),(89,_),(90,_),(91,_)]) aSx (λ_ h=>h) ?_
  refine aT3 ?_
  refine aU2 ?_
  exact sBk (k+1) om ⟨om,λq hq=>(Nat.lt_or_ge q k).elim (hk3b q) (λh9=>by obtain rfl:q=k:=om;exact hz11)⟩
 have hO0:QaW (j:Int) (nth L i).es=0:=Qpa (λq hq=>hk3b q om)
 refine Qn rfl ?_
 refine aU4 ?_
 exact rT rfl rfl (λw' h'=>⟨(),by rw[hOr,hO0];rfl,trivial,by rw[hOr];exact h'.ent aEt⟩)
end Go.Proofs
namespace Gx
open Go Go.RowKit
def mkS(vs:List Vis)(S:List Int):List Int:=(vs.map λv=>((v.i:Nat):Int)).reverse++S
theorem QsF(A B:List Vis)(S:List Int):mkS (A++B) S=mkS B (mkS A S):=by simp[mkS]
theorem QsS{vs:List Vis}{c:Int}:c∈mkS vs [] ↔ ∃v∈vs,((v.i:Nat):Int)=c:=by simp[mkS]
end Gx
namespace Go.Proofs
open Go Go.RowKit Gx
attribute [local irreducible] Go.Calls Gx.S Gx.O Gx.D Gx.OpP Gx.OpQ Gx.OpH
set_option maxRecDepth 20000
theorem QrK:QY Tryz.prog 137=true:=by kernel_rfl
def MkC(j:Nat)(mo rm:Int)(a:Option Addr)(cap:Nat)(L:List LNd)(sb scap tot:Nat)(f:Nat):Prop:=∀(w:World)(S:List Int)(v:Vis)(P:List Nat),(HS w (fps [.blk sb 4 tot (XE L.length S)]) [.blk sb 4 tot (XE L.length S)] w)->(Nt w (fps [.blk sb 4 tot (XE L.length S)]) a L)->(TOk (j:Int) (pln L))->(Bd (pln L))->(0<L.length)->(Gx.Way (pln L) (v.i::P))->P.length+f=L.length->Calls Tryz.prog 137 #[.agg #[.int .i64 (j:Int),.int .i64 mo,.int .i64 rm,.slice a L.length cap],.int .i64 (v.i:Int),.slice (some ⟨sb,0,none⟩) L.length scap] w λen w'=>∃g:Unit,en=.returned (.tuple #[])/\True/\HS w (fps [.blk sb 4 tot (XE L.length S)]) [.blk sb 4 tot (XE L.length (mkS (vis (pln L) f v) S))] w'
theorem QwH(w:World)(j:Nat)(mo rm:Int)(a:Option Addr)(cap:Nat)(L:List LNd)(sb scap tot:Nat)(S:List Int)(v:Vis)(P:List Nat)(f:Nat)(hw:HS w (fps [.blk sb 4 tot (XE L.length S)]) [.blk sb 4 tot (XE L.length S)] w)(hs:Nt w (fps [.blk sb 4 tot (XE L.length S)]) a L)(hT:TOk (j:Int) (pln L))(hB:Bd (pln L))(h0:0<L.length)(hway:Gx.Way (pln L) (v.i::P))(hf:P.length+(f+1)=L.length)(ih:MkC j mo rm a cap L sb scap tot f):CE 137 #[.agg #[.int .i64 (j:Int),.int .i64 mo,.int .i64 rm,.slice a L.length cap],.int .i64 (v.i:Int),.slice (some ⟨sb,0,none⟩) L.length scap] w (fps [.blk sb 4 tot (XE L.length S)]) (λg:Unit=>.tuple #[]) (λg=>True) λg=>[.blk sb 4 tot (XE L.length (mkS (vis (pln L) (f+1) v) S))]:=by
 have hi0:=QcL hT (by rw[Qb];exact h0) hway v.i (List.mem_cons_self ..)
 have hi:v.i<L.length:=by rw[Qb]at hi0;exact hi0
 have hn:=Ql hi
 have hle:=hB.len
 rw[Qb]at hle
 have hcl:=hB.cs v.i hi0
 rw[hn]at hcl
 simp only[LNd.pl]at hcl
 refine eW3 Tryz.func137 Tryz.ntmps137 hw ?_
 refine aU2 ?_
 refine oBx λb1 _=>?_
 refine aU5 ?_
 refine o_p (Qa rfl rfl rfl Qca (v.i) om om rfl) rfl (Qh (show _=Value.pointer (some ⟨sb,v.i,none⟩)from by rw[Nat.zero_add,Nat.mul_one]) (ZV (Xo rfl rfl rfl Qcy rfl aPt (by rw[QbJ];show _+1<=_;omega) rfl) (λ_ _=>aU6 ?_)))
 refine Qx (α:=Nat) [6,10,11,12,13,14,15,16,17,18,19,20,21,22,23,24,25,26,27,28,29,30,31,32] (λk=>[(6,.int .i64 (k:Int))]) (λk=>HS w (fps [.blk sb 4 tot (XE L.length S)]) [.blk sb 4 tot (XE L.length (mkS (QbY (pln L) f v k) S)),.blk b1 37 4 [.int .i64 (j:Int),.int .i64 mo,.int .i64 rm,.slice a L.length cap]]) (λk=>k<=(nth L v.i).cs.length) (λk=>(nth L v.i).cs.length-k) 0 (Nat.zero_le _) aSx (λw h=>by have h2:=h;rw[show Qu (XE L.length S) v.i (Value.cells (.bool true)).toList=XE L.length (((v.i:Nat):Int)::S)from Qjl hi]at h2;exact h2.ent aEt) (λk hk1=>?_)
 refine aU7 ?_
 refine o_p (Qa rfl rfl rfl Qw (v.i) om om (Rw.some hs.1 om)) rfl (aU ?_)
 refine o_q (Qc rfl rfl Xg ((hs.1.rdj 2 hi rfl))) rfl (aU3 ?_)
 refine sCd rfl (λh2=>?_) λh2=>?_
 ·have hkl:k<(nth L v.i).cs.length:=by omega
  have hkid:=Qd2 hT hi0 (k:=k) (by rw[hn];exact hkl)
  rw[hn,Qb]at hkid
  simp only[LNd.pl]at hkid
  have hway2:=Qb5 hway hi0 (k:=k) (by rw[hn];exact hkl) (by rw[hn];simp only[LNd.pl];omega)
  refine aU3 ?_
  refine Qt [11] QC ?_
  refine dLn 0 [[]] ?_
  refine dFa 1 ?_
  refine dLd 2 [[9,8,6,5,4]] ?_
  refine dP 3 ?_
  refine dV 4 rfl (Qa rfl rfl rfl Qw (v.i) om om (Rw.some hs.1 om)) (dFa 5 ?_)
  refine dQ 6 [[9,8]] rfl (Qc rfl rfl Xg ((hs.1.rdj 2 hi rfl))) (dP 7 ?_)
  refine dV 8 rfl (Qa rfl rfl rfl QA (k) om om (Rw.some (hs.cs hi) om)) (dQ 9 [[]] rfl (Qc rfl rfl X4 (((hs.cs hi).rdj 0 (i:=k) hkl rfl))) (Qr (show _=Value.int .i64 ((Yj (pln L) v k).i:Int)from by rw[Yj,hn];exact congrArg (Value.int .i64) (Int.toNat_of_nonneg (show 0<=(nth L v.i).cs.getD k 0 by omega)).symm) (dP 10 ?_)))
  refine dH 11 rfl (QM (Cs:=[.blk sb 4 tot (XE L.length (mkS (QbY (pln L) f v k) S))]) rfl QrK rfl aPs (λw1 h1 hf9=>ih w1 (mkS (QbY (pln L) f v k) S) (Yj (pln L) v k) (v.i::P) hf9 ((hs.keep h1).mono (XB aPs)) hT hB h0 hway2 (by simp only[List.length_cons];omega))) (λ_ _=>dTu [] ?_)
  refine dNi ?_
  refine aT4 ?_
  refine aU2 ?_
  exact Q1 (k+1) om om aSx (λw h=>by rw[Yv,QsF];exact h.ent aEt)
 obtain rfl:k=(nth L v.i).cs.length:=om
 refine Qn rfl ?_
 exact Zs rfl (λw' h'=>⟨(),rfl,trivial,by rw[Z6,hn];exact h'.ent aEt⟩)
theorem c137(j:Nat)(mo rm:Int)(a:Option Addr)(cap:Nat)(L:List LNd)(sb scap tot:Nat):∀f,MkC j mo rm a cap L sb scap tot f
  | 0=>λw S v P hw hs hT hB h0 hway hf=>by
    have h1:=YP hT (by rw[Qb];exact h0) hway;rw[Qb,List.length_cons]at h1;omega
  | f+1=>λw S v P hw hs hT hB h0 hway hf=>QwH w j mo rm a cap L sb scap tot S v P f hw hs hT hB h0 hway hf (c137 j mo rm a cap L sb scap tot f)
end Go.Proofs
namespace Gx
open Go Go.RowKit
def StK(w:World)(p:Option Addr)(n:Nat)(o:Option (List UInt8)):Prop:=match o with
 | none=>n=0
 | some k=>n=1/\∃b off,p=some ⟨b,off,none⟩/\Rd w [] b off (.string (bs k))
theorem StK.later{w w':World}{As:List HA}{p:Option Addr}{n:Nat}{o:Option (List UInt8)}(h:StK w p n o)(hs:HS w [] As w'):StK w' p n o:=by
 cases o with
 | none=>exact h
 | some k=>
  obtain⟨h1,b,off,h2,h3⟩:=h;exact⟨h1,b,off,h2,h3.next hs⟩
theorem StK.of_pos{w:World}{p:Option Addr}{n:Nat}{o:Option (List UInt8)}(h:StK w p n o)(hn:0<n):∃k b off,o=some k/\n=1/\p=some ⟨b,off,none⟩/\Rd w [] b off (.string (bs k)):=by
 cases o with
 | none=>
  have:n=0:=h;omega
 | some k=>
  obtain⟨h1,b,off,h2,h3⟩:=h;exact⟨k,b,off,rfl,h1,h2,h3⟩
theorem StK.of_no{w:World}{p:Option Addr}{n:Nat}{o:Option (List UInt8)}(h:StK w p n o)(hn:¬0<n):o=none:=by
 cases o with
 | none=>rfl
 | some k=>
  obtain⟨h1,_⟩:=h;omega
theorem StK.new{w:World}{b:Nat}{k:List UInt8}(h:Rd w [] b 0 (.string (bs k))):StK w (some ⟨b,0,none⟩) 1 (some k):=⟨rfl,b,0,rfl,h⟩
theorem QfH{es:List TEnt}{k:Nat}{lo:Option (List UInt8)}(h:0<k):loK es k lo=some (nth es (k-1)).key:=if_pos h
theorem QiK{es:List TEnt}{k:Nat}{lo:Option (List UInt8)}(h:¬0<k):loK es k lo=lo:=if_neg h
theorem QfS{es:List TEnt}{k:Nat}{hi:Option (List UInt8)}(h:k<es.length):hiK es k hi=some (nth es k).key:=if_pos h
theorem QiD{es:List TEnt}{k:Nat}{hi:Option (List UInt8)}(h:¬k<es.length):hiK es k hi=hi:=if_neg h
theorem YK{t:Tre}{deep:Int}:∀(A B:List Vis),YA t deep (A++B)=if(YA t deep A).2=0 then YA t deep B else YA t deep A
 | [],B=>rfl
 | v::A,B=>by
  rw[List.cons_append,YA,YA]
  by_cases h:Qct t deep v=0
  ·rw[if_pos h,if_pos h];exact YK A B
  ·rw[if_neg h,if_neg h,if_neg h]
theorem QsH{t:Tre}{v:Vis}{N R:Nd}(hN:nth t.ns v.i=N)(hR:nth t.ns 0=R)(h1:R.cs.length=0\/R.cs.length=R.es.length+1)(h2:∀c∈R.cs,1<=c):Z8 t v=true ↔ (v.i≠0/\(N.es.length:Int)<t.mo/2)\/(((R.es.length=0/\R.cs.length=1)/\R.cs.getD 0 0=(v.i:Int))/\(N.es.length:Int)<=t.rm):=by
 subst hN hR;unfold Z8;simp only[Bool.and_eq_true,Bool.or_eq_true,decide_eq_true_eq];constructor
 ·rintro⟨h3,h4|⟨⟨h4,h5⟩,h6⟩⟩
  ·exact .inl ⟨om,h4⟩
  ·refine .inr ⟨⟨⟨h4,?_⟩,?_⟩,h6⟩
   ·rcases h1 with h1|h1
    ·rw[List.eq_nil_of_length_eq_zero h1]at h5;cases h5
    ·omega
   ·have hl:(nth t.ns 0).cs.length=1:=by
     rcases h1 with h1|h1
     ·rw[List.eq_nil_of_length_eq_zero h1]at h5;cases h5
     ·omega
    obtain⟨c,hc⟩:=List.length_eq_one_iff.1 hl;rw[hc]at h5 ⊢;exact(List.mem_singleton.1 h5).symm
 ·rintro(⟨h3,h4⟩|⟨⟨⟨h4,h5⟩,h6⟩,h7⟩)
  ·exact⟨om,.inl h4⟩
  ·obtain⟨c,hc⟩:=List.length_eq_one_iff.1 h5;have h8:=h2 c (by rw[hc];exact List.mem_singleton.2 rfl);rw[hc]at h6 ⊢;have h9:c=(v.i:Int):=h6;exact⟨om,.inr ⟨⟨h4,List.mem_singleton.2 h9.symm⟩,h7⟩⟩
theorem QjK{t:Tre}{deep:Int}{v:Vis}(h:Z8 t v=true):Qct t deep v=14:=by rw[Qbd,if_pos h]
theorem Qpm{t:Tre}{deep:Int}{v:Vis}(h:¬Z8 t v=true)(h2:Z2 t v=true):Qct t deep v=9:=by rw[Qbd,if_neg h,if_pos h2]
theorem Qsn{t:Tre}{deep:Int}{v:Vis}(h:¬Z8 t v=true)(h2:¬Z2 t v=true)(h3:(nth t.ns v.i).cs.length=0/\v.d≠deep+1):Qct t deep v=22:=by rw[Qbd,if_neg h,if_neg h2,if_pos h3]
theorem QsB{t:Tre}{deep:Int}{v:Vis}(h:¬Z8 t v=true)(h2:¬Z2 t v=true)(h3:¬((nth t.ns v.i).cs.length=0/\v.d≠deep+1)):Qct t deep v=0:=by rw[Qbd,if_neg h,if_neg h2,if_neg h3]
theorem QqP{t:Tre}{v:Vis}{N:Nd}{k:Nat}(hN:nth t.ns v.i=N)(hk:k<N.es.length)(h:Qaq t v (nth N.es k)=true):Z2 t v=true:=by
 subst hN;exact List.any_eq_true.2 ⟨_,QI hk,h⟩
theorem Qr9{t:Tre}{v:Vis}{N:Nd}(hN:nth t.ns v.i=N)(h:∀q,q<N.es.length->¬Qaq t v (nth N.es q)=true):¬Z2 t v=true:=λh2=>by
 subst hN;obtain⟨x,hx,h3⟩:=List.any_eq_true.1 h2;obtain⟨q,hq,e⟩:=List.getElem_of_mem hx;have e2:nth (nth t.ns v.i).es q=x:=Q2 (by rw[List.getElem?_eq_getElem hq,e]);exact h q hq (by rw[e2];exact h3)
theorem QeO{t:Tre}{v:Vis}{x:TEnt}:Qaq t v x=true ↔ (∃b,v.lo=some b/\0<=QX t.co b x.key)\/(∃b,v.hi=some b/\0<=QX t.co x.key b):=by
 unfold Qaq;cases v.lo<;>cases v.hi<;>simp
section
variable{t:Tre}{v:Vis}{x:TEnt}{kl kh:List UInt8}
theorem Qws(h1:v.lo=some kl)(h:0<=QX t.co kl x.key):(true=true ↔ Qaq t v x=true):=⟨λ_=>QeO.2 (.inl ⟨kl,h1,h⟩),λ_=>rfl⟩
theorem Qwl(h1:v.lo=some kl)(h:¬0<=QX t.co kl x.key)(h2:v.hi=some kh):(decide (QX t.co x.key kh>=0)=true ↔ Qaq t v x=true):=by
 rw[decide_eq_true_eq,QeO,h1,h2];constructor
 ·exactλh9=>.inr ⟨kh,rfl,h9⟩
 ·rintro(⟨b,hb,h9⟩|⟨b,hb,h9⟩)
  ·cases hb;exact absurd h9 h
  ·cases hb;exact h9
theorem Qwe(h1:v.lo=some kl)(h:¬0<=QX t.co kl x.key)(h2:v.hi=none):(false=true ↔ Qaq t v x=true):=by
 rw[QeO,h1,h2];constructor
 ·exactλh9=>(nomatch h9)
 ·rintro(⟨b,hb,h9⟩|⟨b,hb,h9⟩)
  ·cases hb;exact absurd h9 h
  ·cases hb
theorem Qwd(h1:v.lo=none)(h2:v.hi=some kh):(decide (QX t.co x.key kh>=0)=true ↔ Qaq t v x=true):=by
 rw[decide_eq_true_eq,QeO,h1,h2];constructor
 ·exactλh9=>.inr ⟨kh,rfl,h9⟩
 ·rintro(⟨b,hb,h9⟩|⟨b,hb,h9⟩)
  ·cases hb
  ·cases hb;exact h9
theorem Qwj(h1:v.lo=none)(h2:v.hi=none):(false=true ↔ Qaq t v x=true):=by
 rw[QeO,h1,h2];constructor
 ·exactλh9=>(nomatch h9)
 ·rintro(⟨b,hb,h9⟩|⟨b,hb,h9⟩)<;>cases hb
end
theorem QeE{t:Tre}{deep:Int}{f:Nat}{v:Vis}(h:¬Qct t deep v=0):YA t deep (vis t.ns (f+1) v)=((v.i:Int),Qct t deep v):=by
 rw[vis,YA,if_neg h]
theorem QuU{t:Tre}{deep:Int}{f:Nat}{v:Vis}(h:Qct t deep v=0):(YA t deep (QbY t.ns f v 0)).2=0:=by
 rw[QlJ,YA,if_pos h];rfl
end Gx
namespace Go.Proofs
open Go Go.RowKit Gx
attribute [local irreducible] Go.Calls Gx.S Gx.O Gx.D Gx.OpP Gx.OpQ Gx.OpH
set_option maxRecDepth 20000
theorem Qfa:tsl Tryz.prog 241=some (9,1,16):=by kernel_rfl
theorem QtP:X9 Tryz.prog 9=some [.string (bs [])]:=by kernel_rfl
theorem Qhf:QY Tryz.prog 138=true:=by kernel_rfl
instance:TFn Tryz.prog 138:=⟨Qhf⟩
def PlC(j:Nat)(mo rm:Int)(a:Option Addr)(cap:Nat)(L:List LNd)(deep:Int)(f:Nat):Prop:=∀(w:World)(v:Vis)(P:List Nat)(lv:Int)(pa qa:Option Addr)(pn pc qn qc:Nat),(Nt w [] a L)->(j<=3)->((0<=mo/\mo<=1000)/\(0<=deep/\deep<=1000))->(TOk (j:Int) (pln L))->(Bd (pln L))->(0<L.length)->(Gx.Way (pln L) (v.i::P))->(v.d=(P.length:Int)+1)->(lv=deep+1-v.d)->(KOk (j:Int) v.lo)->(KOk (j:Int) v.hi)->(StK w pa pn v.lo)->(StK w qa qn v.hi)->P.length+f=L.length->Calls Tryz.prog 138 #[.agg #[.int .i64 (j:Int),.int .i64 mo,.int .i64 rm,.slice a L.length cap],.int .i64 (v.i:Int),.int .i64 lv,.slice pa pn pc,.slice qa qn qc] w λen w'=>en=.returned (.tuple #[.int .i64 (YA (⟨(j:Int),mo,rm,pln L⟩:Tre) deep (vis (pln L) f v)).1,.int .i64 (YA (⟨(j:Int),mo,rm,pln L⟩:Tre) deep (vis (pln L) f v)).2])/\Below w.heap.size w w'
theorem QwA(w:World)(j:Nat)(mo rm:Int)(a:Option Addr)(cap:Nat)(L:List LNd)(deep:Int)(v:Vis)(P:List Nat)(lv:Int)(pa qa:Option Addr)(pn pc qn qc:Nat)(f:Nat)(hs:Nt w [] a L)(hj:j<=3)(hmo:(0<=mo/\mo<=1000)/\(0<=deep/\deep<=1000))(hT:TOk (j:Int) (pln L))(hB:Bd (pln L))(h0:0<L.length)(hway:Gx.Way (pln L) (v.i::P))(hd:v.d=(P.length:Int)+1)(hlv:lv=deep+1-v.d)(hko:KOk (j:Int) v.lo)(hkp:KOk (j:Int) v.hi)(hlo:StK w pa pn v.lo)(hhi:StK w qa qn v.hi)(hf:P.length+(f+1)=L.length)(ih:PlC j mo rm a cap L deep f):CR 138 #[.agg #[.int .i64 (j:Int),.int .i64 mo,.int .i64 rm,.slice a L.length cap],.int .i64 (v.i:Int),.int .i64 lv,.slice pa pn pc,.slice qa qn qc] w (.tuple #[.int .i64 (YA (⟨(j:Int),mo,rm,pln L⟩:Tre) deep (vis (pln L) (f+1) v)).1,.int .i64 (YA (⟨(j:Int),mo,rm,pln L⟩:Tre) deep (vis (pln L) (f+1) v)).2]):=by
 have hi0:=QcL hT (by rw[Qb];exact h0) hway v.i (List.mem_cons_self ..)
 have hi:v.i<L.length:=by rw[Qb]at hi0;exact hi0
 have hn:=Ql hi
 have hn0:=Ql h0
 have hle:=hB.len
 rw[Qb]at hle
 have hwl:=YP hT (by rw[Qb];exact h0) hway
 rw[Qb,List.length_cons]at hwl
 have hcl:=hB.cs v.i hi0
 have hel:=hB.es v.i hi0
 rw[hn]at hcl hel
 simp only[LNd.pl]at hcl hel
 have hsh:=hT.shape v.i hi0
 rw[hn]at hsh
 simp only[LNd.pl]at hsh
 have hgi:=QsH (t:=(⟨(j:Int),mo,rm,pln L⟩:Tre)) (v:=v) hn hn0 (hn0▸hT.shape 0 (by rw[Qb];exact h0)) (λc hc=>(hT.kid 0 (by rw[Qb];exact h0) c (by rw[hn0];exact hc)).1.1)
 simp only[LNd.pl]at hgi
 have hE9:=Qex hT hi0
 rw[hn]at hE9
 simp only[LNd.pl]at hE9
 refine eN5 Tryz.func138 Tryz.ntmps138 ?_
 refine aU2 ?_
 refine oBx λb1 _=>?_
 refine aU8 ?_
 refine o_p (Qa rfl rfl rfl Qw (v.i) om om (Rw.some hs.1 om)) rfl (o_q (QB _ rfl rfl Xs rfl (Rw.rd hs.1 hi)) rfl (oAl (λb2 _=>?_) Xj))
 refine aU8 ?_
 refine XF 8 27 35 rfl
  (λhg3 _=>by
   refine Zl ?_
   refine o_p (XQ rfl rfl rfl om om om) rfl (aU2 ?_)
   exact oJt 8 35)
  (λhg5 _=>by
   refine aU7 ?_
   exact oJf 8 35) ?_
 refine aU ?_
 refine sCd rfl (λh7=>?_) λh7=>?_
 ·have hgp:Z8 (⟨(j:Int),mo,rm,pln L⟩:Tre) v=true:=hgi.2 (.inl (by have hq:=h7;omega))
  have hV:=QjK (deep:=deep) hgp
  refine aU6 ?_
  exact Qk (rs:=[.tmp 10,.tmp 11]) rfl (.tmp rfl (.tmp rfl (.nil))) (λw' h'=>⟨by rw[QeE (by rw[hV];decide),hV];rfl,h'.below⟩)
 have hng1:¬(v.i≠0/\((nth L v.i).es.length:Int)<mo/2):=by have hq:=h7;omega
 refine aU6 ?_
 refine o_p (Qa rfl rfl rfl Qw (0) om om (Rw.some hs.1 om)) rfl (aU ?_)
 refine o_q (Qc rfl rfl Xq ((hs.1.rdj 1 h0 rfl))) rfl (aU3 ?_)
 refine XF 8 44 52 rfl
  (λhg8 _=>by
   refine aU5 ?_
   refine o_p (Qa rfl rfl rfl Qw (0) om om (Rw.some hs.1 om)) rfl (aU3 ?_)
   refine o_q (Qc rfl rfl Xg ((hs.1.rdj 2 h0 rfl))) rfl (aU4 ?_)
   exact oJt 8 52)
  (λhg10 _=>by
   refine aU7 ?_
   exact oJf 8 52) ?_
 refine aU ?_
 refine XF 10 53 63 rfl
  (λhg12 _=>by
   refine aU5 ?_
   refine o_p (Qa rfl rfl rfl Qw (0) om om (Rw.some hs.1 om)) rfl (aU3 ?_)
   refine o_q (Qc rfl rfl Xg ((hs.1.rdj 2 h0 rfl))) rfl (aU ?_)
   refine o_p (Qa rfl rfl rfl QA (0) om om (Rw.some (hs.cs h0) om)) rfl (aU ?_)
   refine o_q (Qc rfl rfl X4 (((hs.cs h0).rdj 0 (i:=0) om rfl))) rfl (aU4 ?_)
   exact oJt 10 63)
  (λhg14 _=>by
   refine aU9 ?_
   exact oJf 10 63) ?_
 refine aU ?_
 refine XF 7 64 71 rfl
  (λhg16 _=>by
   refine Zx ?_
   exact oJt 7 71)
  (λhg18 _=>by
   refine aU6 ?_
   exact oJf 7 71) ?_
 refine aU ?_
 refine sCd rfl (λh20=>?_) λh20=>?_
 ·have hgp:Z8 (⟨(j:Int),mo,rm,pln L⟩:Tre) v=true:=hgi.2 (.inr (by have hq:=h20;exact⟨⟨⟨om,om⟩,hq.1.2⟩,om⟩))
  have hV:=QjK (deep:=deep) hgp
  refine aU ?_
  refine Qg (L':=[(1,_),(2,_),(3,_),(4,_),(5,_),(10,_),(11,_),(12,_)]) aSx (λ_ h=>h) ?_
  refine aU5 ?_
  exact Qk (rs:=[.tmp 10,.tmp 11]) rfl (.tmp rfl (.tmp rfl (.nil))) (λw' h'=>⟨by rw[QeE (by rw[hV];decide),hV];rfl,h'.below⟩)
 have hgn:¬Z8 (⟨(j:Int),mo,rm,pln L⟩:Tre) v=true:=λh9=>(hgi.1 h9).elim hng1 (λh8=>by have hq:=h20;rcases hq with((hq|hq)|hq)|hq<;>first|omega|exact hq h8.1.2)
 refine aU3 ?_
 refine Qg (L':=[(1,_),(2,_),(3,_),(4,_),(5,_),(10,_),(11,_),(12,_)]) aSx (λ_ h=>h) ?_
 refine aU4 ?_
 refine Qx (α:=Nat) [10,11,13,14,73,74,75,76,77,78,79,80,81,82,83,84,85,86,87,88,89,90,91,92,93,94,95,96,97,98,99,100,101,102,103,104,105,106,107,108,109,110,111,112,113,114] (λk=>[(13,.int .i64 (k:Int))]) (λ_=>HS w [] [.blk b1 37 4 [.int .i64 (j:Int),.int .i64 mo,.int .i64 rm,.slice a L.length cap],.blk b2 69 3 (LNd.vals (nth L v.i))]) (λk=>k<=(nth L v.i).es.length/\∀q,q<k->¬Qaq (⟨(j:Int),mo,rm,pln L⟩:Tre) v (nth (nth L v.i).es q)=true) (λk=>(nth L v.i).es.length-k) 0 ⟨Nat.zero_le _,λq h=>absurd h (Nat.not_lt_zero q)⟩ aSx (λw h=>h.ent aEt) (λk hx9=>?_)
 obtain⟨hk1,hk3⟩:=hx9
 refine aU9 ?_
 refine sCd rfl (λh21=>?_) λh21=>?_
 ·have hk5:k<(nth L v.i).es.length:=by omega
  refine aU8 ?_
  refine o_p (Qa rfl rfl rfl QN (k) om om (Rw.some (hs.es hi) om)) rfl (aU ?_)
  refine o_q (Qc rfl rfl Zt (((hs.es hi).rdj 0 hk5 rfl))) rfl (aU3 ?_)
  refine Qg (L':=[(1,_),(2,_),(3,_),(4,_),(5,_),(12,_),(13,_),(14,_)]) aSx (λ_ h=>h) ?_
  refine ZC (α:=Bool) [86,87,88,89,90,91,92,93,94,95,96,97,98,99,100,101,102,103,104,105,106,107,108,109,110,111,112,113] (λx=>[(113,.bool x)]) (λx=>x=true ↔ (Qaq (⟨(j:Int),mo,rm,pln L⟩:Tre) v (nth (nth L v.i).es k))=true) ?_ ?_
  ·skip
   refine Qt [] QC ?_
   refine dP 0 ?_
   refine dV 1 rfl (QS rfl rfl Tryz.underlying241) (dP 2 ?_)
   refine dP 3 ?_
   apply XA 89
   ·exact rfl
   ·intro hg22
    have hs23:=hg22;try simp only[dT]at hs23
    refine dFo 4 89 hg22 ?_
    obtain⟨kl,bl,ol,hlo1,hlo2,hlo3,hlo4⟩:=hlo.of_pos om
    refine dQo 5 89 [] hg22 rfl rfl rfl (X8 rfl rfl X4 aPk rfl) ?_
    refine dPo 6 89 hg22 ?_
    refine dVo 7 89 hg22 rfl rfl rfl (Qa rfl rfl rfl Qfa (0) om om hlo3) ?_
    refine dQo 8 89 [] hg22 rfl rfl rfl (Qc rfl rfl Zt (hlo4)) ?_
    refine dPo 9 89 hg22 ?_
    refine dQo 10 89 [] hg22 rfl rfl rfl (Qv rfl Qg5 rfl (λw1 h1=>c65 w1 j kl (nth (nth L v.i).es k).key hj (hko _ hlo1).1 (hE9 _ (QI hk5)).1 (hko _ hlo1).2 (hE9 _ (QI hk5)).2)) ?_
    refine dPo 11 89 hg22 ?_
    refine dV 12 rfl (Xv rfl rfl hg22 rfl) (dP 13 ?_)
    apply XA 99
    ·exact rfl
    ·intro hg24
     have hs25:=hg24;try simp only[dT]at hs25
     refine dOf 14 99 hg24 ?_
     refine dOf 15 99 hg24 ?_
     refine dOf 16 99 hg24 ?_
     refine dOf 17 99 hg24 ?_
     refine dOu 18 103 ?_
     refine dOu 19 103 ?_
     refine dOu 20 103 ?_
     refine dOu 21 103 ?_
     refine dOu 22 103 ?_
     refine dOu 23 103 ?_
     refine dOu 24 103 ?_
     refine dOu 25 103 ?_
     refine dOf 26 99 hg24 ?_
     refine dV 27 rfl (Xv rfl rfl hg24 rfl) (dNi ?_)
     exact Qo true (Qws hlo1 (by show 0<=QX (j:Int) kl _;omega)) aSx (λw h=>h.ent aEt)
    intro hg26
    have hs27:=hg26;try simp only[dN]at hs27
    refine dPo 14 99 hg26 ?_
    refine dVo 15 99 hg26 rfl rfl rfl (QS rfl rfl Tryz.underlying241) ?_
    refine dPo 16 99 hg26 ?_
    refine dPo 17 99 hg26 ?_
    apply XA 103
    ·exact rfl
    ·intro hg28
     have hs29:=hg28;try simp only[dT]at hs29
     refine dFo 18 103 hg28 ?_
     obtain⟨kh,bh,oh,hhi1,hhi2,hhi3,hhi4⟩:=hhi.of_pos om
     refine dQo 19 103 [] hg28 rfl rfl rfl (X8 rfl rfl X4 aPk rfl) ?_
     refine dPo 20 103 hg28 ?_
     refine dPo 21 103 hg28 ?_
     refine dVo 22 103 hg28 rfl rfl rfl (Qa rfl rfl rfl Qfa (0) om om hhi3) ?_
     refine dQo 23 103 [] hg28 rfl rfl rfl (Qc rfl rfl Zt (hhi4)) ?_
     refine dQo 24 103 [] hg28 rfl rfl rfl (Qv rfl Qg5 rfl (λw1 h1=>c65 w1 j (nth (nth L v.i).es k).key kh hj (hE9 _ (QI hk5)).1 (hkp _ hhi1).1 (hE9 _ (QI hk5)).2 (hkp _ hhi1).2)) ?_
     refine dPo 25 103 hg28 ?_
     refine dVo 26 99 hg26 rfl rfl rfl (Xv rfl rfl hg28 rfl) ?_
     refine dV 27 rfl (Xl rfl rfl hg26 rfl) (dNi ?_)
     exact Qo (decide (QX (j:Int) (nth (nth L v.i).es k).key kh>=0)) (Qwl (t:=(⟨(j:Int),mo,rm,pln L⟩:Tre)) hlo1 (by show¬0<=QX (j:Int) kl _;omega) hhi1) aSx (λw h=>h.ent aEt)
    intro hg30
    have hs31:=hg30;try simp only[dN]at hs31
    refine dOf 18 103 hg30 ?_
    refine dOf 19 103 hg30 ?_
    refine dOf 20 103 hg30 ?_
    refine dOf 21 103 hg30 ?_
    refine dOf 22 103 hg30 ?_
    refine dOf 23 103 hg30 ?_
    refine dOf 24 103 hg30 ?_
    refine dOf 25 103 hg30 ?_
    refine dVo 26 99 hg26 rfl rfl rfl (Xl rfl rfl hg30 rfl) ?_
    refine dV 27 rfl (Xl rfl rfl hg26 rfl) (dNi ?_)
    exact Qo false (Qwe hlo1 (by show¬0<=QX (j:Int) kl _;omega) (hhi.of_no om)) aSx (λw h=>h.ent aEt)
   intro hg32
   have hs33:=hg32;try simp only[dN]at hs33
   refine dOf 4 89 hg32 ?_
   refine dOf 5 89 hg32 ?_
   refine dOf 6 89 hg32 ?_
   refine dOf 7 89 hg32 ?_
   refine dOf 8 89 hg32 ?_
   refine dOf 9 89 hg32 ?_
   refine dOf 10 89 hg32 ?_
   refine dOf 11 89 hg32 ?_
   refine dV 12 rfl (Xl rfl rfl hg32 rfl) (dP 13 ?_)
   apply XA 99
   ·exact rfl
   ·intro hg34
    have hs35:=hg34;skip
    refine dOf 14 99 hg34 ?_
    refine dOf 15 99 hg34 ?_
    refine dOf 16 99 hg34 ?_
    refine dOf 17 99 hg34 ?_
    refine dOu 18 103 ?_
    refine dOu 19 103 ?_
    refine dOu 20 103 ?_
    refine dOu 21 103 ?_
    refine dOu 22 103 ?_
    refine dOu 23 103 ?_
    refine dOu 24 103 ?_
    refine dOu 25 103 ?_
    refine dOf 26 99 hg34 ?_
    refine dV 27 rfl (Xv rfl rfl hg34 rfl) (dNi ?_)
    exact Qo true (by exfalso;simp_all;done) aSx (λw h=>h.ent aEt)
   intro hg36
   have hs37:=hg36;skip
   refine dPo 14 99 hg36 ?_
   refine dVo 15 99 hg36 rfl rfl rfl (QS rfl rfl Tryz.underlying241) ?_
   refine dPo 16 99 hg36 ?_
   refine dPo 17 99 hg36 ?_
   apply XA 103
   ·exact rfl
   ·intro hg38
    have hs39:=hg38;try simp only[dT]at hs39
    refine dFo 18 103 hg38 ?_
    obtain⟨kh,bh,oh,hhi1,hhi2,hhi3,hhi4⟩:=hhi.of_pos om
    refine dQo 19 103 [] hg38 rfl rfl rfl (X8 rfl rfl X4 aPk rfl) ?_
    refine dPo 20 103 hg38 ?_
    refine dPo 21 103 hg38 ?_
    refine dVo 22 103 hg38 rfl rfl rfl (Qa rfl rfl rfl Qfa (0) om om hhi3) ?_
    refine dQo 23 103 [] hg38 rfl rfl rfl (Qc rfl rfl Zt (hhi4)) ?_
    refine dQo 24 103 [] hg38 rfl rfl rfl (Qv rfl Qg5 rfl (λw1 h1=>c65 w1 j (nth (nth L v.i).es k).key kh hj (hE9 _ (QI hk5)).1 (hkp _ hhi1).1 (hE9 _ (QI hk5)).2 (hkp _ hhi1).2)) ?_
    refine dPo 25 103 hg38 ?_
    refine dVo 26 99 hg36 rfl rfl rfl (Xv rfl rfl hg38 rfl) ?_
    refine dV 27 rfl (Xl rfl rfl hg36 rfl) (dNi ?_)
    exact Qo (decide (QX (j:Int) (nth (nth L v.i).es k).key kh>=0)) (Qwd (t:=(⟨(j:Int),mo,rm,pln L⟩:Tre)) (hlo.of_no om) hhi1) aSx (λw h=>h.ent aEt)
   intro hg40
   have hs41:=hg40;try simp only[dN]at hs41
   refine dOf 18 103 hg40 ?_
   refine dOf 19 103 hg40 ?_
   refine dOf 20 103 hg40 ?_
   refine dOf 21 103 hg40 ?_
   refine dOf 22 103 hg40 ?_
   refine dOf 23 103 hg40 ?_
   refine dOf 24 103 hg40 ?_
   refine dOf 25 103 hg40 ?_
   refine dVo 26 99 hg36 rfl rfl rfl (Xl rfl rfl hg40 rfl) ?_
   refine dV 27 rfl (Xl rfl rfl hg36 rfl) (dNi ?_)
   exact Qo false (Qwj (hlo.of_no om) (hhi.of_no om)) aSx (λw h=>h.ent aEt)
  intro x hx
  refine sCd rfl (λh42=>?_) λh42=>?_
  ·have hV:=Qpm (deep:=deep) hgn (QqP hn hk5 (hx.1 h42))
   refine aU6 ?_
   exact Qk (rs:=[.tmp 10,.tmp 11]) rfl (.tmp rfl (.tmp rfl (.nil))) (λw' h'=>⟨by rw[QeE (by rw[hV];decide),hV];rfl,h'.below⟩)
  have hz3:¬(Qaq (⟨(j:Int),mo,rm,pln L⟩:Tre) v (nth (nth L v.i).es k))=true:=λh9=>by have h8:=hx.2 h9;simp_all
  refine aT5 ?_
  refine aU2 ?_
  exact sBk (k+1) om ⟨om,λq hq=>(Nat.lt_or_ge q k).elim (hk3 q) (λh9=>by obtain rfl:q=k:=om;exact hz3)⟩
 have hon:¬Z2 (⟨(j:Int),mo,rm,pln L⟩:Tre) v=true:=Qr9 hn (λq hq=>hk3 q (by have hq9:=hq;simp only[LNd.pl]at hq9;omega))
 refine Qn rfl ?_
 refine aU8 ?_
 refine XF 3 119 122 rfl
  (λhg43 _=>by
   refine aU4 ?_
   exact oJt 3 122)
  (λhg45 _=>by
   refine aU2 ?_
   exact oJf 3 122) ?_
 refine aU ?_
 refine sCd rfl (λh47=>?_) λh47=>?_
 ·have hV:=Qsn (deep:=deep) hgn hon (by rw[show((⟨(j:Int),mo,rm,pln L⟩:Tre)).ns=pln L from rfl,hn];have hq:=h47;simp only[LNd.pl];omega)
  refine aU6 ?_
  exact Qk (rs:=[.tmp 10,.tmp 11]) rfl (.tmp rfl (.tmp rfl (.nil))) (λw' h'=>⟨by rw[QeE (by rw[hV];decide),hV];rfl,h'.below⟩)
 have hV0:=QsB (deep:=deep) hgn hon (by rw[show((⟨(j:Int),mo,rm,pln L⟩:Tre)).ns=pln L from rfl,hn];have hq:=h47;simp only[LNd.pl];omega)
 refine aU7 ?_
 refine Qg (L':=[(1,_),(2,_),(3,_),(4,_),(5,_),(12,_),(13,_),(15,_)]) aSx (λ_ h=>h) ?_
 refine Qx (α:=Nat) [10,11,15,16,17,18,19,124,125,126,127,128,129,130,131,132,133,134,135,136,137,138,139,140,141,142,143,144,145,146,147,148,149,150,151,152,153,154,155,156,157,158,159,160,161,162,163,164,165,166,167,168,169,170,171,172] (λk=>[(15,.int .i64 (k:Int))]) (λ_=>HS w [] [.blk b1 37 4 [.int .i64 (j:Int),.int .i64 mo,.int .i64 rm,.slice a L.length cap],.blk b2 69 3 (LNd.vals (nth L v.i))]) (λk=>k<=(nth L v.i).cs.length/\(YA (⟨(j:Int),mo,rm,pln L⟩:Tre) deep (QbY (pln L) f v k)).2=0) (λk=>(nth L v.i).cs.length-k) 0 ⟨Nat.zero_le _,QuU hV0⟩ aSx (λw h=>h.ent aEt) (λk hx9=>?_)
 obtain⟨hk1,hk3⟩:=hx9
 refine aU9 ?_
 refine sCd rfl (λh48=>?_) λh48=>?_
 ·have hkl:k<(nth L v.i).cs.length:=by omega
  have hkid:=Qd2 hT hi0 (k:=k) (by rw[hn];exact hkl)
  rw[hn,Qb]at hkid
  simp only[LNd.pl]at hkid
  have hway2:=Qb5 hway hi0 (k:=k) (by rw[hn];exact hkl) (by rw[hn];simp only[LNd.pl];omega)
  refine QsN ?_
  refine sCd rfl (λh49=>?_) λh49=>?_
  ·have hk0:0<k:=by have hq:=h49;omega
   refine aT5 ?_
   refine o_p (Qa rfl rfl rfl QN (k-1) om om (Rw.some (hs.es hi) om)) rfl (aU ?_)
   refine o_q (Qc rfl rfl Zt (((hs.es hi).rdj 0 (i:=k-1) om rfl))) rfl (o_h (Qe (cs:=[_]) rfl rfl Qfa QtP rfl rfl rfl) rfl (λb50 _=>Zl ?_))
   refine sCd rfl (λh51=>?_) λh51=>?_
   ·have hk9:k<(nth L v.i).es.length:=by have hq:=h51;omega
    refine Qg (L':=[(1,_),(2,_),(3,_),(4,_),(5,_),(12,_),(13,_),(15,_),(16,_),(17,_)]) aSx (λ_ h=>h) ?_
    refine aU4 ?_
    refine o_p (Qa rfl rfl rfl QN (k) om om (Rw.some (hs.es hi) om)) rfl (aU ?_)
    refine o_q (Qc rfl rfl Zt (((hs.es hi).rdj 0 (i:=k) om rfl))) rfl (o_h (Qe (cs:=[_]) rfl rfl Qfa QtP rfl rfl rfl) rfl (λb52 _=>aU3 ?_))
    refine Qt [] QC ?_
    refine dLn 0 [] ?_
    refine dFa 1 ?_
    refine dLd 2 [] ?_
    refine dP 3 ?_
    refine dV 4 rfl (Qa rfl rfl rfl QA (k) om om (Rw.some (hs.cs hi) om)) (dQ 5 [] rfl (Qc rfl rfl X4 (((hs.cs hi).rdj 0 (i:=k) hkl rfl))) (Qr (show _=Value.int .i64 ((Yj (pln L) v k).i:Int)from by rw[Yj,hn];exact congrArg (Value.int .i64) (Int.toNat_of_nonneg (show 0<=(nth L v.i).cs.getD k 0 by omega)).symm) (dP 6 ?_)))
    refine dP 7 ?_
    try refine dWr ?_
    refine dP 8 ?_
    refine dP 9 ?_
    refine dQ 10 [] rfl (Qv rfl Qhf rfl (λw1 h1=>ih w1 (Yj (pln L) v k) (v.i::P) (lv-1) _ _ _ _ _ _ (hs.later h1) hj hmo hT hB h0 hway2 (by simp only[Yj,List.length_cons];omega) (by simp only[Yj];omega) (Qf9 hT hi0 (by rw[hn];show k<=(nth L v.i).es.length;omega) hko) (Qgo hT hi0 hkp) (by show StK w1 _ _ (loK (nth (pln L) v.i).es k v.lo);rw[hn];show StK w1 _ _ (loK (nth L v.i).es k v.lo);first|(rw[QfH hk0];exact StK.new (h1.rd_blk (Mc:=[]) aPk rfl (by simp)))|(rw[QiK hk0];exact hlo.later h1)) (by show StK w1 _ _ (hiK (nth (pln L) v.i).es k v.hi);rw[hn];show StK w1 _ _ (hiK (nth L v.i).es k v.hi);first|(rw[QfS hk9];exact StK.new (h1.rd_blk (Mc:=[]) aPk rfl (by simp)))|(rw[QiD hk9];exact hhi.later h1)) (by simp only[List.length_cons];omega))) (dP 11 ?_)
    refine dP 12 ?_
    refine dP 13 ?_
    refine dP 14 ?_
    refine dP 15 ?_
    refine dNi ?_
    refine aU ?_
    refine Qg (L':=[(1,_),(2,_),(3,_),(4,_),(5,_),(12,_),(13,_),(15,_),(18,_),(19,_)]) aSx (λ_ h=>h) ?_
    refine aU4 ?_
    refine sCd rfl (λh53=>?_) λh53=>?_
    ·have hbad:YA (⟨(j:Int),mo,rm,pln L⟩:Tre) deep (vis (pln L) (f+1) v)=YA (⟨(j:Int),mo,rm,pln L⟩:Tre) deep (vis (pln L) f (Yj (pln L) v k)):=by rw[Z6,hn];obtain⟨B9,hB9⟩:=QbF (pln L) f v (show k+1<=(nth L v.i).pl.cs.length by show k+1<=(nth L v.i).cs.length;omega);rw[hB9,Yv,List.append_assoc,YK,if_pos hk3,YK,if_neg h53]
     refine aU7 ?_
     exact Qk (rs:=[.tmp 10,.tmp 11]) rfl (.tmp rfl (.tmp rfl (.nil))) (λw' h'=>⟨by rw[hbad];rfl,h'.below⟩)
    have hgood:(YA (⟨(j:Int),mo,rm,pln L⟩:Tre) deep (QbY (pln L) f v (k+1))).2=0:=by rw[Yv,YK,if_pos hk3];have hq:=h53;omega
    refine aT5 ?_
    refine aU2 ?_
    exact sBk (k+1) om ⟨om,hgood⟩
   have hk9:¬k<(nth L v.i).es.length:=by have hq:=h51;omega
   refine aU2 ?_
   refine Qg (L':=[(1,_),(2,_),(3,_),(4,_),(5,_),(12,_),(13,_),(15,_),(16,_),(17,_)]) aSx (λ_ h=>h) ?_
   refine Qt [] QC ?_
   refine dLn 0 [] ?_
   refine dFa 1 ?_
   refine dLd 2 [] ?_
   refine dP 3 ?_
   refine dV 4 rfl (Qa rfl rfl rfl QA (k) om om (Rw.some (hs.cs hi) om)) (dQ 5 [] rfl (Qc rfl rfl X4 (((hs.cs hi).rdj 0 (i:=k) hkl rfl))) (Qr (show _=Value.int .i64 ((Yj (pln L) v k).i:Int)from by rw[Yj,hn];exact congrArg (Value.int .i64) (Int.toNat_of_nonneg (show 0<=(nth L v.i).cs.getD k 0 by omega)).symm) (dP 6 ?_)))
   refine dP 7 ?_
   try refine dWr ?_
   refine dP 8 ?_
   refine dP 9 ?_
   refine dQ 10 [] rfl (Qv rfl Qhf rfl (λw1 h1=>ih w1 (Yj (pln L) v k) (v.i::P) (lv-1) _ _ _ _ _ _ (hs.later h1) hj hmo hT hB h0 hway2 (by simp only[Yj,List.length_cons];omega) (by simp only[Yj];omega) (Qf9 hT hi0 (by rw[hn];show k<=(nth L v.i).es.length;omega) hko) (Qgo hT hi0 hkp) (by show StK w1 _ _ (loK (nth (pln L) v.i).es k v.lo);rw[hn];show StK w1 _ _ (loK (nth L v.i).es k v.lo);first|(rw[QfH hk0];exact StK.new (h1.rd_blk (Mc:=[]) aPk rfl (by simp)))|(rw[QiK hk0];exact hlo.later h1)) (by show StK w1 _ _ (hiK (nth (pln L) v.i).es k v.hi);rw[hn];show StK w1 _ _ (hiK (nth L v.i).es k v.hi);first|(rw[QfS hk9];exact StK.new (h1.rd_blk (Mc:=[]) aPk rfl (by simp)))|(rw[QiD hk9];exact hhi.later h1)) (by simp only[List.length_cons];omega))) (dP 11 ?_)
   refine dP 12 ?_
   refine dP 13 ?_
   refine dP 14 ?_
   refine dP 15 ?_
   refine dNi ?_
   refine aU5 ?_
   refine sCd rfl (λh54=>?_) λh54=>?_
   ·have hbad:YA (⟨(j:Int),mo,rm,pln L⟩:Tre) deep (vis (pln L) (f+1) v)=YA (⟨(j:Int),mo,rm,pln L⟩:Tre) deep (vis (pln L) f (Yj (pln L) v k)):=by rw[Z6,hn];obtain⟨B9,hB9⟩:=QbF (pln L) f v (show k+1<=(nth L v.i).pl.cs.length by show k+1<=(nth L v.i).cs.length;omega);rw[hB9,Yv,List.append_assoc,YK,if_pos hk3,YK,if_neg h54]
    refine aU7 ?_
    exact Qk (rs:=[.tmp 10,.tmp 11]) rfl (.tmp rfl (.tmp rfl (.nil))) (λw' h'=>⟨by rw[hbad];rfl,h'.below⟩)
   have hgood:(YA (⟨(j:Int),mo,rm,pln L⟩:Tre) deep (QbY (pln L) f v (k+1))).2=0:=by rw[Yv,YK,if_pos hk3];have hq:=h54;omega
   refine aT5 ?_
   refine aU2 ?_
   exact sBk (k+1) om ⟨om,hgood⟩
  have hk0:¬0<k:=by have hq:=h49;omega
  refine Za ?_
  refine sCd rfl (λh55=>?_) λh55=>?_
  ·have hk9:k<(nth L v.i).es.length:=by have hq:=h55;omega
   refine aU4 ?_
   refine o_p (Qa rfl rfl rfl QN (k) om om (Rw.some (hs.es hi) om)) rfl (aU ?_)
   refine o_q (Qc rfl rfl Zt (((hs.es hi).rdj 0 (i:=k) om rfl))) rfl (o_h (Qe (cs:=[_]) rfl rfl Qfa QtP rfl rfl rfl) rfl (λb56 _=>aU3 ?_))
   refine Qg (L':=[(1,_),(2,_),(3,_),(4,_),(5,_),(12,_),(13,_),(15,_),(16,_),(17,_)]) aSx (λ_ h=>h) ?_
   refine Qt [] QC ?_
   refine dLn 0 [] ?_
   refine dFa 1 ?_
   refine dLd 2 [] ?_
   refine dP 3 ?_
   refine dV 4 rfl (Qa rfl rfl rfl QA (k) om om (Rw.some (hs.cs hi) om)) (dQ 5 [] rfl (Qc rfl rfl X4 (((hs.cs hi).rdj 0 (i:=k) hkl rfl))) (Qr (show _=Value.int .i64 ((Yj (pln L) v k).i:Int)from by rw[Yj,hn];exact congrArg (Value.int .i64) (Int.toNat_of_nonneg (show 0<=(nth L v.i).cs.getD k 0 by omega)).symm) (dP 6 ?_)))
   refine dP 7 ?_
   try refine dWr ?_
   refine dP 8 ?_
   refine dP 9 ?_
   refine dQ 10 [] rfl (Qv rfl Qhf rfl (λw1 h1=>ih w1 (Yj (pln L) v k) (v.i::P) (lv-1) _ _ _ _ _ _ (hs.later h1) hj hmo hT hB h0 hway2 (by simp only[Yj,List.length_cons];omega) (by simp only[Yj];omega) (Qf9 hT hi0 (by rw[hn];show k<=(nth L v.i).es.length;omega) hko) (Qgo hT hi0 hkp) (by show StK w1 _ _ (loK (nth (pln L) v.i).es k v.lo);rw[hn];show StK w1 _ _ (loK (nth L v.i).es k v.lo);first|(rw[QfH hk0];exact StK.new (h1.rd_blk (Mc:=[]) aPk rfl (by simp)))|(rw[QiK hk0];exact hlo.later h1)) (by show StK w1 _ _ (hiK (nth (pln L) v.i).es k v.hi);rw[hn];show StK w1 _ _ (hiK (nth L v.i).es k v.hi);first|(rw[QfS hk9];exact StK.new (h1.rd_blk (Mc:=[]) aPk rfl (by simp)))|(rw[QiD hk9];exact hhi.later h1)) (by simp only[List.length_cons];omega))) (dP 11 ?_)
   refine dP 12 ?_
   refine dP 13 ?_
   refine dP 14 ?_
   refine dP 15 ?_
   refine dNi ?_
   refine aU5 ?_
   refine sCd rfl (λh57=>?_) λh57=>?_
   ·have hbad:YA (⟨(j:Int),mo,rm,pln L⟩:Tre) deep (vis (pln L) (f+1) v)=YA (⟨(j:Int),mo,rm,pln L⟩:Tre) deep (vis (pln L) f (Yj (pln L) v k)):=by rw[Z6,hn];obtain⟨B9,hB9⟩:=QbF (pln L) f v (show k+1<=(nth L v.i).pl.cs.length by show k+1<=(nth L v.i).cs.length;omega);rw[hB9,Yv,List.append_assoc,YK,if_pos hk3,YK,if_neg h57]
    refine aU7 ?_
    exact Qk (rs:=[.tmp 10,.tmp 11]) rfl (.tmp rfl (.tmp rfl (.nil))) (λw' h'=>⟨by rw[hbad];rfl,h'.below⟩)
   have hgood:(YA (⟨(j:Int),mo,rm,pln L⟩:Tre) deep (QbY (pln L) f v (k+1))).2=0:=by rw[Yv,YK,if_pos hk3];have hq:=h57;omega
   refine aT5 ?_
   refine aU2 ?_
   exact sBk (k+1) om ⟨om,hgood⟩
  have hk9:¬k<(nth L v.i).es.length:=by have hq:=h55;omega
  refine aU2 ?_
  refine Qt [] QC ?_
  refine dLn 0 [] ?_
  refine dFa 1 ?_
  refine dLd 2 [] ?_
  refine dP 3 ?_
  refine dV 4 rfl (Qa rfl rfl rfl QA (k) om om (Rw.some (hs.cs hi) om)) (dQ 5 [] rfl (Qc rfl rfl X4 (((hs.cs hi).rdj 0 (i:=k) hkl rfl))) (Qr (show _=Value.int .i64 ((Yj (pln L) v k).i:Int)from by rw[Yj,hn];exact congrArg (Value.int .i64) (Int.toNat_of_nonneg (show 0<=(nth L v.i).cs.getD k 0 by omega)).symm) (dP 6 ?_)))
  refine dP 7 ?_
  try refine dWr ?_
  refine dP 8 ?_
  refine dP 9 ?_
  refine dQ 10 [] rfl (Qv rfl Qhf rfl (λw1 h1=>ih w1 (Yj (pln L) v k) (v.i::P) (lv-1) _ _ _ _ _ _ (hs.later h1) hj hmo hT hB h0 hway2 (by simp only[Yj,List.length_cons];omega) (by simp only[Yj];omega) (Qf9 hT hi0 (by rw[hn];show k<=(nth L v.i).es.length;omega) hko) (Qgo hT hi0 hkp) (by show StK w1 _ _ (loK (nth (pln L) v.i).es k v.lo);rw[hn];show StK w1 _ _ (loK (nth L v.i).es k v.lo);first|(rw[QfH hk0];exact StK.new (h1.rd_blk (Mc:=[]) aPk rfl (by simp)))|(rw[QiK hk0];exact hlo.later h1)) (by show StK w1 _ _ (hiK (nth (pln L) v.i).es k v.hi);rw[hn];show StK w1 _ _ (hiK (nth L v.i).es k v.hi);first|(rw[QfS hk9];exact StK.new (h1.rd_blk (Mc:=[]) aPk rfl (by simp)))|(rw[QiD hk9];exact hhi.later h1)) (by simp only[List.length_cons];omega))) (dP 11 ?_)
  refine dP 12 ?_
  refine dP 13 ?_
  refine dP 14 ?_
  refine dP 15 ?_
  refine dNi ?_
  refine aU ?_
  refine Qg (L':=[(1,_),(2,_),(3,_),(4,_),(5,_),(12,_),(13,_),(15,_),(18,_),(19,_)]) aSx (λ_ h=>h) ?_
  refine aU4 ?_
  refine sCd rfl (λh58=>?_) λh58=>?_
  ·have hbad:YA (⟨(j:Int),mo,rm,pln L⟩:Tre) deep (vis (pln L) (f+1) v)=YA (⟨(j:Int),mo,rm,pln L⟩:Tre) deep (vis (pln L) f (Yj (pln L) v k)):=by rw[Z6,hn];obtain⟨B9,hB9⟩:=QbF (pln L) f v (show k+1<=(nth L v.i).pl.cs.length by show k+1<=(nth L v.i).cs.length;omega);rw[hB9,Yv,List.append_assoc,YK,if_pos hk3,YK,if_neg h58]
   refine aU7 ?_
   exact Qk (rs:=[.tmp 10,.tmp 11]) rfl (.tmp rfl (.tmp rfl (.nil))) (λw' h'=>⟨by rw[hbad];rfl,h'.below⟩)
  have hgood:(YA (⟨(j:Int),mo,rm,pln L⟩:Tre) deep (QbY (pln L) f v (k+1))).2=0:=by rw[Yv,YK,if_pos hk3];have hq:=h58;omega
  refine aT5 ?_
  refine aU2 ?_
  exact sBk (k+1) om ⟨om,hgood⟩
 obtain rfl:k=(nth L v.i).cs.length:=om
 have hfin:YA (⟨(j:Int),mo,rm,pln L⟩:Tre) deep (vis (pln L) (f+1) v)=(0,0):=by rw[Z6,hn];exact Qly hk3
 refine Qn rfl ?_
 refine aU5 ?_
 exact Qk (rs:=[.tmp 10,.tmp 11]) rfl (.tmp rfl (.tmp rfl (.nil))) (λw' h'=>⟨by rw[hfin];rfl,h'.below⟩)
theorem c138(j:Nat)(mo rm:Int)(a:Option Addr)(cap:Nat)(L:List LNd)(deep:Int):∀f,PlC j mo rm a cap L deep f
  | 0=>λw v P lv pa qa pn pc qn qc hs hj hmo hT hB h0 hway hd hlv hko hkp hlo hhi hf=>by
    have h1:=YP hT (by rw[Qb];exact h0) hway;rw[Qb,List.length_cons]at h1;omega
  | f+1=>λw v P lv pa qa pn pc qn qc hs hj hmo hT hB h0 hway hd hlv hko hkp hlo hhi hf=>QwA w j mo rm a cap L deep v P lv pa qa pn pc qn qc f hs hj hmo hT hB h0 hway hd hlv hko hkp hlo hhi hf (c138 j mo rm a cap L deep f)
end Go.Proofs
namespace Gx
open Go Go.RowKit
theorem Qur{t:Tre}(h:¬QJ t.co=0):XV t=(0,QJ t.co):=by rw[Qdy (by rw[if_neg h];exact h),if_neg h]
theorem QvR{t:Tre}(h:QJ t.co=0)(h2:¬XW t.mo t.rm=0):XV t=(0,XW t.mo t.rm):=by rw[Qdy (by rw[if_pos h];exact h2),if_pos h]
theorem QtV{t:Tre}(h:QJ t.co=0)(h2:XW t.mo t.rm=0)(h3:¬0<t.ns.length):XV t=(0,10):=by
 have e:ZY t.ns.length=10:=if_neg h3;rw[Qei (by rw[if_pos h];exact h2) (by rw[e];decide),e]
theorem QuO{t:Tre}(h:QJ t.co=0)(h2:XW t.mo t.rm=0)(h3:0<t.ns.length)(h4:¬t.ns.length<=120):XV t=(0,8):=by
 have e:ZY t.ns.length=8:=by rw[ZY,if_pos h3,if_neg h4]
 rw[Qei (by rw[if_pos h];exact h2) (by rw[e];decide),e]
theorem Qve{t:Tre}(h:QJ t.co=0)(h2:XW t.mo t.rm=0)(h3:0<t.ns.length)(h4:t.ns.length<=120):XV t=if(Ym t t.ns.length 0 []).2=0 then Qcq t else Ym t t.ns.length 0 []:=QeQ (by rw[if_pos h];exact h2) (by rw[ZY,if_pos h3,if_pos h4])
theorem Qje(n:Nat):YE [Value.bool false] n=XE n []:=by
 rw[QcO];apply List.ext_getElem?;intro i
 by_cases hi:i<n
 ·rw[QbU hi,List.getElem?_replicate,if_pos hi];rfl
 ·rw[List.getElem?_eq_none (by rw[List.length_replicate];omega),List.getElem?_eq_none (by rw[QbJ];omega)]
theorem QkF{vs:List Vis}{k:Nat}:((k:Nat):Int)∈mkS vs [] ↔ k∈vs.map Vis.i:=by
 rw[QsS,List.mem_map];constructor
 ·rintro⟨v,hv,h⟩;exact⟨v,hv,om⟩
 ·rintro⟨v,hv,h⟩;exact⟨v,hv,om⟩
theorem QjO(ns:List Nd):∀(f i:Nat),0<=YH ns f i/\YH ns f i<=f
 | 0,i=>by rw[YH];omega
 | f+1,i=>by
  rw[YH];split
  ·omega
  ·have:=QjO ns f ((nth ns i).cs.getD 0 0).toNat;omega
theorem QoL{ns:List Nd}{f i:Nat}(h:(nth ns i).cs.length=0):YH ns f i=0:=by
 cases f with
 | zero=>rfl
 | succ f=>rw[YH,if_pos h]
theorem Qoi{ns:List Nd}{f i:Nat}(h0:0<f)(h:¬(nth ns i).cs.length=0):YH ns f i=YH ns (f-1) ((nth ns i).cs.getD 0 0).toNat+1:=by
 obtain⟨g,rfl⟩:∃g,f=g+1:=⟨f-1,om⟩;rw[YH,if_neg h];rfl
end Gx
namespace Go.Proofs
open Go Go.RowKit Gx
attribute [local irreducible] Go.Calls Gx.S Gx.O Gx.D Gx.OpP Gx.OpQ Gx.OpH
set_option maxRecDepth 20000
instance:TFn Tryz.prog 96:=⟨by kernel_rfl⟩
instance:TFn Tryz.prog 97:=⟨by kernel_rfl⟩
theorem Qvn:QY Tryz.prog 136=true:=by kernel_rfl
instance:TFn Tryz.prog 71:=⟨by kernel_rfl⟩
theorem c71(w:World)(co mo rm:Int)(a:Option Addr)(cap:Nat)(L:List LNd)(hs:Nt w [] a L)(hB:Bd (pln L))(hkl:∀i,i<L.length->∀x∈(nth L i).es,x.key.length<=1000000):CR 71 #[.agg #[.int .i64 co,.int .i64 mo,.int .i64 rm,.slice a L.length cap]] w (.tuple #[.int .i64 (XV (⟨co,mo,rm,pln L⟩:Tre)).1,.int .i64 (XV (⟨co,mo,rm,pln L⟩:Tre)).2]):=by
 have hle:=hB.len
 rw[Qb]at hle
 have hes9:∀i,i<L.length->(nth L i).es.length<=1000:=λi hi=>by have h9:=hB.es i (by rw[Qb];exact hi);rw[Ql hi]at h9;exact h9
 have hcs9:∀i,i<L.length->(nth L i).cs.length<=1000:=λi hi=>by have h9:=hB.cs i (by rw[Qb];exact hi);rw[Ql hi]at h9;exact h9
 refine eN1 Tryz.func71 Tryz.ntmps71 ?_
 refine aU2 ?_
 refine oBx λb1 _=>?_
 refine aU8 ?_
 refine oCq rfl (λw1 h1=>c96 w1 _) (aU7 ?_)
 refine sCd rfl (λh2=>?_) λh2=>?_
 ·have hz:=Qur (t:=(⟨co,mo,rm,pln L⟩:Tre)) h2
  refine aU6 ?_
  exact Qk (rs:=[.tmp 2,.tmp 3]) rfl (.tmp rfl (.tmp rfl (.nil))) (λw' h'=>⟨by rw[hz];rfl,h'.below⟩)
 have hc0:QJ co=0:=by have hq:=h2;omega
 obtain⟨j,rfl,hj⟩:=ZD hc0
 refine aU8 ?_
 refine oCq rfl (λw1 h1=>c97 w1 _ _) (aU7 ?_)
 refine sCd rfl (λh3=>?_) λh3=>?_
 ·have hz:=QvR (t:=(⟨(j:Int),mo,rm,pln L⟩:Tre)) hc0 h3
  refine aU6 ?_
  exact Qk (rs:=[.tmp 2,.tmp 3]) rfl (.tmp rfl (.tmp rfl (.nil))) (λw' h'=>⟨by rw[hz];rfl,h'.below⟩)
 have hc1:XW mo rm=0:=by have hq:=h3;omega
 have hsz2:(3<=mo/\mo<=8)/\(mo/2<=rm/\rm<=mo):=Qas hc1
 have hTL:((⟨(j:Int),mo,rm,pln L⟩:Tre)).ns.length=L.length:=Qb L
 refine aU9 ?_
 refine sCd rfl (λh4=>?_) λh4=>?_
 ·have hz:=QtV (t:=(⟨(j:Int),mo,rm,pln L⟩:Tre)) hc0 hc1 (by rw[hTL];have hq:=h4;omega)
  refine aU5 ?_
  exact Qk (rs:=[.tmp 2,.tmp 3]) rfl (.tmp rfl (.tmp rfl (.nil))) (λw' h'=>⟨by rw[hz];rfl,h'.below⟩)
 have h00:0<L.length:=by have hq:=h4;omega
 refine aU9 ?_
 refine sCd rfl (λh5=>?_) λh5=>?_
 ·have hz:=QuO (t:=(⟨(j:Int),mo,rm,pln L⟩:Tre)) hc0 hc1 (by rw[hTL];exact h00) (by rw[hTL];have hq:=h5;omega)
  refine aU5 ?_
  exact Qk (rs:=[.tmp 2,.tmp 3]) rfl (.tmp rfl (.tmp rfl (.nil))) (λw' h'=>⟨by rw[hz];rfl,h'.below⟩)
 have h120:L.length<=120:=by have hq:=h5;omega
 have hz:=Qve (t:=(⟨(j:Int),mo,rm,pln L⟩:Tre)) hc0 hc1 (by rw[hTL];exact h00) (by rw[hTL];exact h120)
 rw[hTL]at hz
 refine aU6 ?_
 refine o_h (Qfc (n:=L.length) rfl rfl rfl Qca QvI om om) rfl (λb6 _=>QQ (λw h=>(show HS _ _ [.blk b6 4 L.length (XE L.length []),.blk b1 37 4 [.int .i64 (j:Int),.int .i64 mo,.int .i64 rm,.slice a L.length cap]] w from by have h9:=h;rw[Nat.mul_one,Qje]at h9;exact h9.ent aEt)) (aU4 ?_))
 refine Qg (L':=[(1,_),(2,_),(3,_),(6,_)]) aSx (λ_ h=>h) ?_
 refine aU4 ?_
 refine Qx (α:=Nat×List Int) [2,3,7,8,39,40,41,42,43,44,45,46,47,48,49,50,51,52,53] (λx=>[(7,.int .i64 (x.1:Int))]) (λx=>HS w [] [.blk b6 4 L.length (XE L.length x.2),.blk b1 37 4 [.int .i64 (j:Int),.int .i64 mo,.int .i64 rm,.slice a L.length cap]]) (λx=>x.1<=L.length/\(Ym (⟨(j:Int),mo,rm,pln L⟩:Tre) L.length 0 [])=Ym (⟨(j:Int),mo,rm,pln L⟩:Tre) (L.length-x.1) x.1 x.2) (λx=>L.length-x.1) (0,[]) ⟨Nat.zero_le _,rfl⟩ aSx (λw h=>h.ent aEt) (λ⟨k,S9⟩hx=>?_)
 dsimp only
 obtain⟨hk1,hk3⟩:=hx
 simp only[]at hk1 hk3
 refine aU9 ?_
 refine sCd rfl (λh7=>?_) λh7=>?_
 ·have hkl9:k<L.length:=by omega
  have hst:=Qgu (t:=(⟨(j:Int),mo,rm,pln L⟩:Tre)) (k:=k) (seen:=S9) (by rw[hTL];exact hkl9)
  rw[hTL]at hst
  refine aU8 ?_
  refine o_h (QM (Cs:=[.blk b6 4 L.length (XE L.length S9)]) rfl Qvn rfl aPs (λw1 h1 hf=>c136 w1 j mo rm a cap L k b6 L.length L.length S9 hf ((hs.keep h1).mono (XB aPs)) hj hkl9 om (hes9 _ hkl9) (hcs9 _ hkl9) (hkl _ hkl9))) rfl (λ_ _=>aU7 ?_)
  refine sCd rfl (λh8=>?_) λh8=>?_
  ·have hz3:(Ym (⟨(j:Int),mo,rm,pln L⟩:Tre) L.length 0 [])=((k:Int),(Yh (⟨(j:Int),mo,rm,pln L⟩:Tre) k S9).1):=by rw[hk3,hst,if_neg h8]
   rw[hz3,if_neg (show¬(((k:Int),(Yh (⟨(j:Int),mo,rm,pln L⟩:Tre) k S9).1):Int×Int).2=0 from h8)]at hz
   refine aU7 ?_
   exact Qk (rs:=[.tmp 2,.tmp 3]) rfl (.tmp rfl (.tmp rfl (.nil))) (λw' h'=>⟨by rw[hz];rfl,h'.below⟩)
  have hz3:Ym (⟨(j:Int),mo,rm,pln L⟩:Tre) (L.length-k) k S9=Ym (⟨(j:Int),mo,rm,pln L⟩:Tre) (L.length-(k+1)) (k+1) (Yh (⟨(j:Int),mo,rm,pln L⟩:Tre) k S9).2:=by rw[hst,if_pos (by have hq:=h8;omega)]
  refine aT5 ?_
  refine aU2 ?_
  exact sBk (k+1,(Yh (⟨(j:Int),mo,rm,pln L⟩:Tre) k S9).2) (by(try simp only[]);omega) ⟨by(try simp only[]);omega,by simp only[];rw[hk3,hz3]⟩
 have hnd:(Ym (⟨(j:Int),mo,rm,pln L⟩:Tre) L.length 0 [])=(0,0):=by rw[hk3,show L.length-k=0 by omega];rfl
 rw[hnd,if_pos rfl]at hz
 have hT:TOk (j:Int) (pln L):=Zp (t:=(⟨(j:Int),mo,rm,pln L⟩:Tre)) (by show(Ym (⟨(j:Int),mo,rm,pln L⟩:Tre) (pln L).length 0 []).2=0;rw[Qb,hnd])
 have hvis:vis (pln L) L.length ZF=Y2 (pln L):=by unfold Y2;rw[Qb]
 refine Qn rfl ?_
 refine aU5 ?_
 refine o_h (Qfc (n:=L.length) rfl rfl rfl Qca QvI om om) rfl (λb9 _=>QQ (λw h=>(show HS _ _ [.blk b9 4 L.length (XE L.length []),.blk b1 37 4 [.int .i64 (j:Int),.int .i64 mo,.int .i64 rm,.slice a L.length cap]] w from by have h9:=h;rw[Nat.mul_one,Qje]at h9;exact h9.ent aEt)) (aU6 ?_))
 refine o_h (QM (Cs:=[.blk b9 4 L.length (XE L.length [])]) rfl QrK rfl aPs (λw1 h1 hf=>c137 j mo rm a cap L b9 L.length L.length L.length w1 [] ZF [] hf ((hs.keep h1).mono (XB aPs)) hT hB h00 rfl (by simp))) rfl (λ_ _=>aU7 ?_)
 refine Qg (L':=[(1,_),(6,_),(7,_),(9,_),(10,_)]) aSx (λ_ h=>h) ?_
 refine Qx (α:=Nat) [2,3,10,61,62,63,64,65,66,67,68,69,70,71,72,73,74,75,76,77,78,79,80,81] (λk=>[(10,.int .i64 (k:Int))]) (λ_=>HS w [] [.blk b9 4 L.length (XE L.length (mkS (vis (pln L) L.length ZF) [])),.blk b1 37 4 [.int .i64 (j:Int),.int .i64 mo,.int .i64 rm,.slice a L.length cap]]) (λk=>k<=L.length/\Z9 (pln L) ((Y2 (pln L)).map Vis.i) L.length 0=Z9 (pln L) ((Y2 (pln L)).map Vis.i) (L.length-k) k) (λk=>L.length-k) 0 ⟨Nat.zero_le _,rfl⟩ aSx (λw h=>h.ent aEt) (λk hx=>?_)
 obtain⟨hk1,hk2⟩:=hx
 refine aU9 ?_
 refine sCd rfl (λh10=>?_) λh10=>?_
 ·have hkl9:k<L.length:=by omega
  have hst:=QhO (ns:=pln L) (below:=((Y2 (pln L)).map Vis.i)) (k:=k) (by rw[Qb];exact hkl9)
  rw[Qb,Ql hkl9]at hst
  refine aU8 ?_
  refine o_p (Qa rfl rfl rfl Qw (k) om om (Rw.some hs.1 om)) rfl (aU ?_)
  refine o_q (Qc rfl rfl Qcy ((hs.1.rdj 0 hkl9 rfl))) rfl (aU ?_)
  refine XF 6 74 80 rfl
   (λhg11 _=>by
    refine aU5 ?_
    refine o_p (Qa rfl rfl rfl Qca (k) om om rfl) rfl (Qh (show _=Value.pointer (some ⟨b9,k,none⟩)from by rw[Nat.zero_add,Nat.mul_one]) (aU ?_))
    refine o_q (Qf rfl rfl Qcy (λw h=>h.rd_blk (Mc:=[]) aPk (QbU hkl9) (by simp))) rfl (aU2 ?_)
    exact oJt 6 80)
   (λhg13 _=>by
    refine aU5 ?_
    exact oJf 6 80) ?_
  refine aU ?_
  refine sCd rfl (λh15=>?_) λh15=>?_
  ·have hz7:(nth L k).pl.us=true/\k ∉ ((Y2 (pln L)).map Vis.i):=by have hq:=h15;rw[<-QkF,<-hvis];simp only[LNd.pl];simpa using hq
   have hz8:=hz.trans (Qch (t:=(⟨(j:Int),mo,rm,pln L⟩:Tre)) (i:=k) (show Z9 (pln L) _ (pln L).length 0=some k from by rw[Qb,hk2,hst,if_pos hz7]))
   refine aU6 ?_
   exact Qk (rs:=[.tmp 2,.tmp 3]) rfl (.tmp rfl (.tmp rfl (.nil))) (λw' h'=>⟨by rw[hz8];rfl,h'.below⟩)
  have hz7:¬((nth L k).pl.us=true/\k ∉ ((Y2 (pln L)).map Vis.i)):=by have hq:=h15;rw[<-QkF,<-hvis];simp only[LNd.pl];intro h9;exact hq.elim (λh8=>by rw[h8]at h9;cases h9.1) (λh8=>h9.2 h8)
  refine aT5 ?_
  refine aU2 ?_
  exact sBk (k+1) om ⟨om,by rw[hk2,hst,if_neg hz7]⟩
 have hnone:Z9 (pln L) ((Y2 (pln L)).map Vis.i) L.length 0=none:=by rw[hk2,show L.length-k=0 by omega];rfl
 have hz8:=hz.trans (Qcb (t:=(⟨(j:Int),mo,rm,pln L⟩:Tre)) (show Z9 (pln L) _ (pln L).length 0=none from by rw[Qb];exact hnone))
 refine Qn rfl ?_
 refine Za ?_
 refine Qx (α:=Nat×Nat×List Nat) [11,12,82,83,84,85,86,87,88,89,90,91,92,93,94,95,96,97,98,99] (λy=>[(11,.int .i64 (y.1:Int)),(12,.int .i64 (y.2.1:Int))]) (λ_=>HS w [] [.blk b1 37 4 [.int .i64 (j:Int),.int .i64 mo,.int .i64 rm,.slice a L.length cap]]) (λy=>Gx.Way (pln L) (y.2.1::y.2.2)/\y.2.2.length=y.1/\YH (pln L) L.length 0=(y.1:Int)+YH (pln L) (L.length-y.1) y.2.1) (λy=>L.length-y.1) (0,0,[]) ⟨rfl,rfl,by simp⟩ aSx (λw h=>h.ent aEt) (λ⟨d,i,P⟩hx=>?_)
 dsimp only
 obtain⟨hway,hpl,hdp⟩:=hx
 simp only[]at hway hpl hdp
 have hil0:=QcL hT (by rw[Qb];exact h00) hway i (List.mem_cons_self ..)
 have hil:i<L.length:=by rw[Qb]at hil0;exact hil0
 have hnI:=Ql hil
 have hwl:=YP hT (by rw[Qb];exact h00) hway
 rw[Qb,List.length_cons]at hwl
 have hcl:=hcs9 i hil
 refine aU6 ?_
 refine o_p (Qa rfl rfl rfl Qw (i) om om (Rw.some hs.1 om)) rfl (aU ?_)
 refine o_q (Qc rfl rfl Xg ((hs.1.rdj 2 hil rfl))) rfl (aU3 ?_)
 refine sCd rfl (λh16=>?_) λh16=>?_
 ·have hcl0:0<(nth L i).cs.length:=by have hq:=h16;omega
  have hkid:=Qd2 hT (by rw[Qb];exact hil) (i:=i) (k:=0) (by rw[hnI];exact hcl0)
  rw[hnI,Qb]at hkid
  simp only[LNd.pl]at hkid
  have hway2:=Qb5 hway (by rw[Qb];exact hil) (k:=0) (by rw[hnI];exact hcl0) (by rw[hnI];simp only[LNd.pl];omega)
  rw[hnI]at hway2
  have hwl2:=YP hT (by rw[Qb];exact h00) hway2
  rw[Qb,List.length_cons,List.length_cons]at hwl2
  have hdm:=Qoi (ns:=pln L) (f:=L.length-d) (i:=i) om (by rw[hnI];show¬(nth L i).cs.length=0;omega)
  rw[hnI]at hdm
  refine aU7 ?_
  refine o_p (Qa rfl rfl rfl Qw (i) om om (Rw.some hs.1 om)) rfl (aU ?_)
  refine o_q (Qc rfl rfl Xg ((hs.1.rdj 2 hil rfl))) rfl (o_p (Qa rfl rfl rfl QA (0) om om (Rw.some (hs.cs hil) om)) rfl (o_q (Qc rfl rfl X4 (((hs.cs hil).rdj 0 (i:=0) om rfl))) rfl (Qh (show _=Value.int .i64 (((nth L i).cs.getD 0 0).toNat:Int)from congrArg (Value.int .i64) (Int.toNat_of_nonneg (show 0<=(nth L i).cs.getD 0 0 by omega)).symm) (aT6 ?_))))
  refine aU2 ?_
  exact sBk (d+1,((nth L i).cs.getD 0 0).toNat,i::P) (by(try simp only[]);omega) ⟨hway2,by simp[hpl],by simp only[]at *;rw[show L.length-(d+1)=L.length-d-1 by omega];have h9:(nth L i).pl.cs=(nth L i).cs:=rfl;rw[h9]at hdm;omega⟩
 have hde:=QoL (ns:=pln L) (f:=L.length-d) (i:=i) (by rw[hnI];show(nth L i).cs.length=0;have hq:=h16;omega)
 rw[hde,Int.add_zero]at hdp
 have hdl:=QjO (pln L) L.length 0
 refine Qn rfl ?_
 refine aU4 ?_
 refine oCq rfl (λw1 h1=>c138 j mo rm a cap L (d:Int) L.length w1 ZF [] (d:Int) none none 0 0 0 0 (hs.later h1) hj om hT hB h00 rfl rfl (by show(d:Int)=d+1-1;omega) (λ_ h=>by cases h) (λ_ h=>by cases h) rfl rfl (by simp)) (aU5 ?_)
 exact Qk (rs:=[.tmp 2,.tmp 3]) rfl (.tmp rfl (.tmp rfl (.nil))) (λw' h'=>⟨by rw[hz8,show YH ((⟨(j:Int),mo,rm,pln L⟩:Tre)).ns ((⟨(j:Int),mo,rm,pln L⟩:Tre)).ns.length 0=(d:Int)from by rw[hTL];exact hdp,show Y2 ((⟨(j:Int),mo,rm,pln L⟩:Tre)).ns=vis (pln L) L.length ZF from hvis.symm];rfl,h'.below⟩)
end Go.Proofs
namespace Gx
open Go Go.RowKit
def QgM(x:TEnt):Bool:=decide (x.key.length<=44/\x.val.length<=70)
end Gx
namespace Go.Proofs
open Go Go.RowKit Gx
attribute [local irreducible] Go.Calls Gx.S Gx.O Gx.D Gx.OpP Gx.OpQ Gx.OpH
set_option maxRecDepth 20000
instance:TFn Tryz.prog 42:=⟨by kernel_rfl⟩
theorem c42(w:World)(x:TEnt):CR 42 #[.agg #[.string (bs x.key),.string (bs x.val)]] w (.bool (QgM x)):=by
 refine eN1 Tryz.func42 Tryz.ntmps42 ?_
 refine aU2 ?_
 refine oBx λb1 _=>?_
 refine aU6 ?_
 refine o_p (Qp rfl rfl Tryz.underlying9) rfl (aU2 ?_)
 refine XF 5 7 12 rfl
  (λhg2 _=>by
   refine aU5 ?_
   refine o_p (Qp rfl rfl Tryz.underlying9) rfl (aU2 ?_)
   exact oJt 5 12)
  (λhg4 _=>by
   refine aU4 ?_
   exact oJf 5 12) ?_
 refine aU2 ?_
 exact rV (h:=by simp only[Xf,QgM,Bool.decide_and];congr 3<;>exact decide_eq_decide.2 om)
theorem QuA:Qu6 Tryz.prog 211 67 4:=⟨_,Tryz.func211,rfl,rfl,by kernel_rfl,by kernel_rfl⟩
theorem QuL:Qu6 Tryz.prog 263 28 4:=⟨_,Tryz.func263,rfl,rfl,by kernel_rfl,by kernel_rfl⟩
theorem Qv1(w:World)(a:Option Addr)(i n m cap:Nat)(xs news:List Value)(b0 c0 tot2:Nat)(hw:HS w (fps [.own (.slice a n cap) 27 2 n xs,.blk b0 27 tot2 news]) [.own (.slice a n cap) 27 2 n xs,.blk b0 27 tot2 news] w)(hm0:0<m)(hl:news.length=m*2)(hn1:∀u∈news,u.oneCell'=true)(hx1:∀u∈xs,u.oneCell'=true)(hmax:(n+m)*32<=140737488355328)(hi:i=n):CE 165 #[.slice a n cap,.int .i64 i,.slice (some ⟨b0,0,none⟩) m c0] w (fps [.own (.slice a n cap) 27 2 n xs,.blk b0 27 tot2 news]) (λg:Option Addr×Nat=>.slice g.1 (n+m) g.2) (λg=>True) λg=>[.own (.slice g.1 (n+m) g.2) 27 2 (n+m) (xs.take (i*2)++news++xs.drop (i*2)),.blk b0 27 tot2 news]:=by
 obtain⟨_,hnc,hcm,hxl⟩:=hw.own_facts .here
 refine eW3 Tryz.func165 Tryz.ntmps165 hw ?_
 refine aU8 ?_
 refine o_p (QG _ _ i n rfl rfl QN ⟨_,_,rfl,rfl⟩ rfl om om) rfl (Qau ?_)
 refine sCd rfl (λh1=>?_) λh1=>?_
 ·exfalso;first|omega|(simp at h1;done)|(simp_all;done)
 refine QeV ?_
 refine sCd rfl (λh2=>?_) λh2=>?_
 ·refine aU4 ?_
  refine o_h (QL news rfl rfl rfl QN Tryz.underlying67 XH rfl aPk (Xb aPk) hl hn1 om (by simp only[maxLen];omega)) rfl (λb3 _=>aU2 ?_)
  exact rT rfl rfl (λw' h'=>⟨(_,_),rfl,trivial,by subst hi;rw[List.take_of_length_le om,List.drop_eq_nil_of_le om,List.append_nil];exact h'.ent aEt⟩)
 exfalso;first|omega|(simp at h2;done)|(simp_all;done)
theorem Qv2(w:World)(gg i n m cap:Nat)(xs news:List Value)(b0 c0 tot2:Nat)(M:List Nat)(hw:HS w M [.blk gg 27 (cap*2) xs,.blk b0 27 tot2 news] w)(hnc:n<=cap)(hcm:cap<=maxLen)(hxl:xs.length=n*2)(hm0:0<m)(hl:news.length=m*2)(hn1:∀u∈news,u.oneCell'=true)(hx1:∀u∈xs,u.oneCell'=true)(hmax:(n+m)*32<=140737488355328)(hi:i<n):CE 165 #[.slice (some ⟨gg,0,none⟩) n cap,.int .i64 i,.slice (some ⟨b0,0,none⟩) m c0] w M (λg:Option Addr×Nat=>.slice g.1 (n+m) g.2) (λg=>True) λg=>[.own (.slice g.1 (n+m) g.2) 27 2 (n+m) (xs.take (i*2)++news++xs.drop (i*2)),.blk b0 27 tot2 news]:=by
 have ht2:=(hw.blk_get (.there .here)).len_le
 have hcl:(cut xs 0 (i*2)).length=i*2:=Xu _ _ _ om
 refine eW3 Tryz.func165 Tryz.ntmps165 hw ?_
 refine aU8 ?_
 refine o_p (QG _ _ i n rfl rfl QN ⟨_,_,rfl,rfl⟩ rfl om om) rfl (Qau ?_)
 refine sCd rfl (λh1=>?_) λh1=>?_
 ·exfalso;first|omega|(simp at h1;done)|(simp_all;done)
 refine QeV ?_
 refine sCd rfl (λh2=>?_) λh2=>?_
 ·exfalso;first|omega|(simp at h2;done)|(simp_all;done)
 refine aT7 ?_
 refine aU ?_
 refine o_p (QhN rfl rfl Tryz.underlying67) rfl (aU2 ?_)
 refine sCd rfl (λh3=>?_) λh3=>?_
 ·refine aU4 ?_
  refine o_p (QG _ _ 0 i rfl rfl QN rfl ⟨_,_,rfl,rfl⟩ om om) rfl ?_
  refine Qh (show _=Value.slice (some ⟨gg,0,none⟩) (i) (cap)from by rw[Yw]<;>(congr 1<;>omega)) (aT3 ?_)
  refine aT2 ?_
  refine Qh (show _=Value.int .i64 ((n+m-i:Nat):Int)from by first|rfl|(congr 1<;>first|rfl|omega)) (o_h (Z0 (m:=n+m-i) (olds:=cut xs 0 (i*2)) rfl rfl rfl QN Y1 XH rfl (by decide) om om (Qbh 0 (i*2) (λ_=>rfl) aPk) hcl om (by simp only[maxLen];omega)) rfl (λ⟨b4,c5⟩⟨h6,k7⟩=>?_))
  refine Qh (show _=Value.slice (some ⟨b4,0,none⟩) (n+m) c5 from by first|rfl|(congr 1<;>first|rfl|omega)) (aU3 ?_)
  refine Qg (L':=[(0,_),(1,_),(2,_),(6,_),(7,_),(8,_),(9,_)]) aSx (λ_ h=>h) ?_
  refine aU3 ?_
  refine o_p (QG _ _ i (n+m) rfl rfl QN ⟨_,_,rfl,rfl⟩ rfl om om) rfl ?_
  refine Qh (show _=Value.slice (some ⟨b4,i*2,none⟩) (n+m-i) (c5-i)from by rw[X0 om]<;>(congr 1<;>omega)) (aU ?_)
  refine o_h (QcJ m news rfl rfl rfl QN aPt om hl (λ_=>rfl) (by simp only[Q6,List.length_append,Qm];omega) (Xb aPk) hn1) rfl (λ_ _=>aU2 ?_)
  refine Qt [8] QC ?_
  refine dP 0 ?_
  refine dP 1 ?_
  refine dP 2 ?_
  refine dP 3 ?_
  try refine dWr ?_
  refine dV 4 rfl (QG _ _ (i+m) (n+m) rfl rfl QN ⟨_,_,rfl,om⟩ rfl om om) ?_
  refine Qr (show _=Value.slice (some ⟨b4,(i+m)*2,none⟩) (n-i) (c5-(i+m))from by rw[X0 om]<;>(congr 1<;>omega)) (dP 5 ?_)
  refine dP 6 ?_
  refine dV 7 rfl (QG _ _ i n rfl rfl QN ⟨_,_,rfl,rfl⟩ rfl om om) ?_
  refine Qr (show _=Value.slice (some ⟨gg,i*2,none⟩) (n-i) (cap-i)from by rw[X0 om]<;>(congr 1<;>omega)) (dH 8 rfl (QcJ (n-i) (cut xs (i*2) ((n-i)*2)) rfl rfl rfl QN aPt om (Xu _ _ _ om) (λ_=>rfl) (by rw[Xu _ _ _ om];simp only[Q6,List.length_append,Qm];omega) (Qbh (i*2) ((n-i)*2) (λ_=>rfl) aPk) (QeD hx1 _ _)) (λ_ _=>dTu [] ?_))
  refine dNi ?_
  refine aU5 ?_
  exact rT rfl rfl (λw' h'=>⟨(some ⟨b4,0,none⟩,c5),rfl,trivial,(HS.to_own (n:=n+m) (xs:=xs.take (i*2)++news++xs.drop (i*2)) (ds:=[]) aPk h' (by have hq:=QkM (xs:=xs) (news:=news) (z:=YE [.string (bs []),.string (bs [])] ((n+m-i)*2)) (p:=i*2) (q:=m*2) (N:=n*2) hxl om hl (by rw[Q6];omega);rw[List.append_nil];rw[show(i+m)*2=i*2+m*2 from om,show(n-i)*2=n*2-i*2 from om];exact hq) (by simp only[List.length_append,List.length_take,List.length_drop];omega) om om).ent aEt⟩)
 refine aT7 ?_
 refine o_p (QG _ _ 0 (n+m) rfl rfl QN rfl ⟨_,_,rfl,om⟩ om om) rfl ?_
 refine Qh (show _=Value.slice (some ⟨gg,0,none⟩) (n+m) cap from by rw[Yw]<;>(congr 1<;>omega)) (QaX (λw h=>HS.blk_full (b:=gg) aPk h) λds=>?_)
 refine Xm (λw h=>h.1) λhds=>QQ (λw h=>h.2) (Qhi ?_)
 refine o_p (QG _ _ (i+m) (n+m) rfl rfl QN ⟨_,_,rfl,om⟩ rfl om om) rfl ?_
 refine Qh (show _=Value.slice (some ⟨gg,(i+m)*2,none⟩) (n-i) (cap-(i+m))from by rw[X0 om]<;>(congr 1<;>omega)) (o_q (Qgb rfl QuA rfl rfl QN (hp:=aPk) (hp':=aPk) (by decide) om om) rfl (aU2 ?_))
 refine sCd rfl (λh8=>?_) λh8=>?_
 ·refine aU ?_
  refine Qg (L':=[(0,_),(1,_),(2,_),(6,_),(7,_),(8,_)]) aSx (λ_ h=>h) ?_
  refine Qt [8] QC ?_
  refine dP 0 ?_
  refine dP 1 ?_
  refine dP 2 ?_
  refine dP 3 ?_
  try refine dWr ?_
  refine dV 4 rfl (QG _ _ (i+m) (n+m) rfl rfl QN ⟨_,_,rfl,om⟩ rfl om om) ?_
  refine Qr (show _=Value.slice (some ⟨gg,(i+m)*2,none⟩) (n-i) (cap-(i+m))from by rw[X0 om]<;>(congr 1<;>omega)) (dP 5 ?_)
  refine dP 6 ?_
  refine dV 7 rfl (QG _ _ i (n+m) rfl rfl QN ⟨_,_,rfl,rfl⟩ rfl om om) ?_
  refine Qr (show _=Value.slice (some ⟨gg,i*2,none⟩) (n+m-i) (cap-i)from by rw[X0 om]<;>(congr 1<;>omega)) (dH 8 rfl (QcJ (n-i) (cut (xs++ds) (i*2) ((n-i)*2)) rfl rfl rfl QN aPt om (Xu _ _ _ (by simp only[Q6,List.length_append,Qm];omega)) (λ_=>rfl) (by rw[Xu _ _ _ (by simp only[Q6,List.length_append,Qm];omega)];simp only[Q6,List.length_append,Qm];omega) (Qbh (i*2) ((n-i)*2) (λ_=>rfl) aPk) (Qma hx1 om)) (λ_ _=>dTu [] ?_))
  refine dNi ?_
  refine aU4 ?_
  refine o_p (QG _ _ i (n+m) rfl rfl QN ⟨_,_,rfl,rfl⟩ rfl om om) rfl ?_
  refine Qh (show _=Value.slice (some ⟨gg,i*2,none⟩) (n+m-i) (cap-i)from by rw[X0 om]<;>(congr 1<;>omega)) (aU ?_)
  refine o_h (QcJ m news rfl rfl rfl QN aPt om hl (λ_=>rfl) (by simp only[Q6,List.length_append,Qm];omega) (Xb aPk) hn1) rfl (λ_ _=>aU6 ?_)
  exact rT rfl rfl (λw' h'=>⟨(some ⟨gg,0,none⟩,cap),rfl,trivial,(HS.to_own (n:=n+m) (xs:=xs.take (i*2)++news++xs.drop (i*2)) (ds:=ds.drop (m*2)) aPk h' (by have hq:=Qpw (xs:=xs) (ds:=ds) (news:=news) (p:=i*2) (q:=m*2) (N:=n*2) hxl om hl om;rw[show(i+m)*2=i*2+m*2 from om,show(n-i)*2=n*2-i*2 from om];exact hq) (by simp only[List.length_append,List.length_take,List.length_drop];omega) om om).ent aEt⟩)
 exfalso;first|omega|(simp at h8;done)|(simp_all;done)
theorem c165(w:World)(a:Option Addr)(i n m cap:Nat)(xs news:List Value)(b0 c0 tot2:Nat)(hw:HS w (fps [.own (.slice a n cap) 27 2 n xs,.blk b0 27 tot2 news]) [.own (.slice a n cap) 27 2 n xs,.blk b0 27 tot2 news] w)(hm0:0<m)(hl:news.length=m*2)(hn1:∀u∈news,u.oneCell'=true)(hx1:∀u∈xs,u.oneCell'=true)(hmax:(n+m)*32<=140737488355328)(hi:i<=n):CE 165 #[.slice a n cap,.int .i64 i,.slice (some ⟨b0,0,none⟩) m c0] w (fps [.own (.slice a n cap) 27 2 n xs,.blk b0 27 tot2 news]) (λg:Option Addr×Nat=>.slice g.1 (n+m) g.2) (λg=>True) λg=>[.own (.slice g.1 (n+m) g.2) 27 2 (n+m) (xs.take (i*2)++news++xs.drop (i*2)),.blk b0 27 tot2 news]:=by
  rcases Nat.lt_or_ge i n with h|h
  · obtain⟨gg,rfl,_,hnc,hcm,hxl,hb⟩:=hw.own_blk om .here;exact Qv2 w gg i n m cap xs news b0 c0 tot2 _ hb hnc hcm hxl hm0 hl hn1 hx1 hmax h
  · exact Qv1 w a i n m cap xs news b0 c0 tot2 hw hm0 hl hn1 hx1 hmax om
theorem Qwy(w:World)(a:Option Addr)(i n m cap:Nat)(xs news:List Value)(b0 c0 tot2:Nat)(hw:HS w (fps [.own (.slice a n cap) 3 1 n xs,.blk b0 3 tot2 news]) [.own (.slice a n cap) 3 1 n xs,.blk b0 3 tot2 news] w)(hm0:0<m)(hl:news.length=m*1)(hn1:∀u∈news,u.oneCell'=true)(hx1:∀u∈xs,u.oneCell'=true)(hmax:(n+m)*8<=140737488355328)(hi:i=n):CE 249 #[.slice a n cap,.int .i64 i,.slice (some ⟨b0,0,none⟩) m c0] w (fps [.own (.slice a n cap) 3 1 n xs,.blk b0 3 tot2 news]) (λg:Option Addr×Nat=>.slice g.1 (n+m) g.2) (λg=>True) λg=>[.own (.slice g.1 (n+m) g.2) 3 1 (n+m) (xs.take (i*1)++news++xs.drop (i*1)),.blk b0 3 tot2 news]:=by
 obtain⟨_,hnc,hcm,hxl⟩:=hw.own_facts .here
 refine eW3 Tryz.func249 Tryz.ntmps249 hw ?_
 refine aU8 ?_
 refine o_p (QG _ _ i n rfl rfl QA ⟨_,_,rfl,rfl⟩ rfl om om) rfl (Qau ?_)
 refine sCd rfl (λh1=>?_) λh1=>?_
 ·exfalso;first|omega|(simp at h1;done)|(simp_all;done)
 refine QeV ?_
 refine sCd rfl (λh2=>?_) λh2=>?_
 ·refine aU4 ?_
  refine o_h (QL news rfl rfl rfl QA Tryz.underlying28 Yp rfl aPk (Xb aPk) hl hn1 om (by simp only[maxLen];omega)) rfl (λb3 _=>aU2 ?_)
  exact rT rfl rfl (λw' h'=>⟨(_,_),rfl,trivial,by subst hi;rw[List.take_of_length_le om,List.drop_eq_nil_of_le om,List.append_nil];exact h'.ent aEt⟩)
 exfalso;first|omega|(simp at h2;done)|(simp_all;done)
theorem Qv6(w:World)(gg i n m cap:Nat)(xs news:List Value)(b0 c0 tot2:Nat)(M:List Nat)(hw:HS w M [.blk gg 3 (cap*1) xs,.blk b0 3 tot2 news] w)(hnc:n<=cap)(hcm:cap<=maxLen)(hxl:xs.length=n*1)(hm0:0<m)(hl:news.length=m*1)(hn1:∀u∈news,u.oneCell'=true)(hx1:∀u∈xs,u.oneCell'=true)(hmax:(n+m)*8<=140737488355328)(hi:i<n):CE 249 #[.slice (some ⟨gg,0,none⟩) n cap,.int .i64 i,.slice (some ⟨b0,0,none⟩) m c0] w M (λg:Option Addr×Nat=>.slice g.1 (n+m) g.2) (λg=>True) λg=>[.own (.slice g.1 (n+m) g.2) 3 1 (n+m) (xs.take (i*1)++news++xs.drop (i*1)),.blk b0 3 tot2 news]:=by
 have ht2:=(hw.blk_get (.there .here)).len_le
 have hcl:(cut xs 0 (i*1)).length=i*1:=Xu _ _ _ om
 refine eW3 Tryz.func249 Tryz.ntmps249 hw ?_
 refine aU8 ?_
 refine o_p (QG _ _ i n rfl rfl QA ⟨_,_,rfl,rfl⟩ rfl om om) rfl (Qau ?_)
 refine sCd rfl (λh1=>?_) λh1=>?_
 ·exfalso;first|omega|(simp at h1;done)|(simp_all;done)
 refine QeV ?_
 refine sCd rfl (λh2=>?_) λh2=>?_
 ·exfalso;first|omega|(simp at h2;done)|(simp_all;done)
 refine aT7 ?_
 refine aU ?_
 refine o_p (QhN rfl rfl Tryz.underlying28) rfl (aU2 ?_)
 refine sCd rfl (λh3=>?_) λh3=>?_
 ·refine aU4 ?_
  refine o_p (QG _ _ 0 i rfl rfl QA rfl ⟨_,_,rfl,rfl⟩ om om) rfl ?_
  refine Qh (show _=Value.slice (some ⟨gg,0,none⟩) (i) (cap)from by rw[Yw]<;>(congr 1<;>omega)) (aT3 ?_)
  refine aT2 ?_
  refine Qh (show _=Value.int .i64 ((n+m-i:Nat):Int)from by first|rfl|(congr 1<;>first|rfl|omega)) (o_h (Z0 (m:=n+m-i) (olds:=cut xs 0 (i*1)) rfl rfl rfl QA Y1 Yp rfl (by decide) om om (Qbh 0 (i*1) (λ_=>rfl) aPk) hcl om (by simp only[maxLen];omega)) rfl (λ⟨b4,c5⟩⟨h6,k7⟩=>?_))
  refine Qh (show _=Value.slice (some ⟨b4,0,none⟩) (n+m) c5 from by first|rfl|(congr 1<;>first|rfl|omega)) (aU3 ?_)
  refine Qg (L':=[(0,_),(1,_),(2,_),(6,_),(7,_),(8,_),(9,_)]) aSx (λ_ h=>h) ?_
  refine aU3 ?_
  refine o_p (QG _ _ i (n+m) rfl rfl QA ⟨_,_,rfl,rfl⟩ rfl om om) rfl ?_
  refine Qh (show _=Value.slice (some ⟨b4,i*1,none⟩) (n+m-i) (c5-i)from by rw[X0 om]<;>(congr 1<;>omega)) (aU ?_)
  refine o_h (QcJ m news rfl rfl rfl QA aPt om hl (λ_=>rfl) (by simp only[Q6,List.length_append,Qm];omega) (Xb aPk) hn1) rfl (λ_ _=>aU2 ?_)
  refine Qt [8] QC ?_
  refine dP 0 ?_
  refine dP 1 ?_
  refine dP 2 ?_
  refine dP 3 ?_
  try refine dWr ?_
  refine dV 4 rfl (QG _ _ (i+m) (n+m) rfl rfl QA ⟨_,_,rfl,om⟩ rfl om om) ?_
  refine Qr (show _=Value.slice (some ⟨b4,(i+m)*1,none⟩) (n-i) (c5-(i+m))from by rw[X0 om]<;>(congr 1<;>omega)) (dP 5 ?_)
  refine dP 6 ?_
  refine dV 7 rfl (QG _ _ i n rfl rfl QA ⟨_,_,rfl,rfl⟩ rfl om om) ?_
  refine Qr (show _=Value.slice (some ⟨gg,i*1,none⟩) (n-i) (cap-i)from by rw[X0 om]<;>(congr 1<;>omega)) (dH 8 rfl (QcJ (n-i) (cut xs (i*1) ((n-i)*1)) rfl rfl rfl QA aPt om (Xu _ _ _ om) (λ_=>rfl) (by rw[Xu _ _ _ om];simp only[Q6,List.length_append,Qm];omega) (Qbh (i*1) ((n-i)*1) (λ_=>rfl) aPk) (QeD hx1 _ _)) (λ_ _=>dTu [] ?_))
  refine dNi ?_
  refine aU5 ?_
  exact rT rfl rfl (λw' h'=>⟨(some ⟨b4,0,none⟩,c5),rfl,trivial,(HS.to_own (n:=n+m) (xs:=xs.take (i*1)++news++xs.drop (i*1)) (ds:=[]) aPk h' (by have hq:=QkM (xs:=xs) (news:=news) (z:=YE [.int .i64 0] ((n+m-i)*1)) (p:=i*1) (q:=m*1) (N:=n*1) hxl om hl (by rw[Q6];omega);rw[List.append_nil];rw[show(i+m)*1=i*1+m*1 from om,show(n-i)*1=n*1-i*1 from om];exact hq) (by simp only[List.length_append,List.length_take,List.length_drop];omega) om om).ent aEt⟩)
 refine aT7 ?_
 refine o_p (QG _ _ 0 (n+m) rfl rfl QA rfl ⟨_,_,rfl,om⟩ om om) rfl ?_
 refine Qh (show _=Value.slice (some ⟨gg,0,none⟩) (n+m) cap from by rw[Yw]<;>(congr 1<;>omega)) (QaX (λw h=>HS.blk_full (b:=gg) aPk h) λds=>?_)
 refine Xm (λw h=>h.1) λhds=>QQ (λw h=>h.2) (Qhi ?_)
 refine o_p (QG _ _ (i+m) (n+m) rfl rfl QA ⟨_,_,rfl,om⟩ rfl om om) rfl ?_
 refine Qh (show _=Value.slice (some ⟨gg,(i+m)*1,none⟩) (n-i) (cap-(i+m))from by rw[X0 om]<;>(congr 1<;>omega)) (o_q (Qgb rfl QuL rfl rfl QA (hp:=aPk) (hp':=aPk) (by decide) om om) rfl (aU2 ?_))
 refine sCd rfl (λh8=>?_) λh8=>?_
 ·refine aU ?_
  refine Qg (L':=[(0,_),(1,_),(2,_),(6,_),(7,_),(8,_)]) aSx (λ_ h=>h) ?_
  refine Qt [8] QC ?_
  refine dP 0 ?_
  refine dP 1 ?_
  refine dP 2 ?_
  refine dP 3 ?_
  try refine dWr ?_
  refine dV 4 rfl (QG _ _ (i+m) (n+m) rfl rfl QA ⟨_,_,rfl,om⟩ rfl om om) ?_
  refine Qr (show _=Value.slice (some ⟨gg,(i+m)*1,none⟩) (n-i) (cap-(i+m))from by rw[X0 om]<;>(congr 1<;>omega)) (dP 5 ?_)
  refine dP 6 ?_
  refine dV 7 rfl (QG _ _ i (n+m) rfl rfl QA ⟨_,_,rfl,rfl⟩ rfl om om) ?_
  refine Qr (show _=Value.slice (some ⟨gg,i*1,none⟩) (n+m-i) (cap-i)from by rw[X0 om]<;>(congr 1<;>omega)) (dH 8 rfl (QcJ (n-i) (cut (xs++ds) (i*1) ((n-i)*1)) rfl rfl rfl QA aPt om (Xu _ _ _ (by simp only[Q6,List.length_append,Qm];omega)) (λ_=>rfl) (by rw[Xu _ _ _ (by simp only[Q6,List.length_append,Qm];omega)];simp only[Q6,List.length_append,Qm];omega) (Qbh (i*1) ((n-i)*1) (λ_=>rfl) aPk) (Qma hx1 om)) (λ_ _=>dTu [] ?_))
  refine dNi ?_
  refine aU4 ?_
  refine o_p (QG _ _ i (n+m) rfl rfl QA ⟨_,_,rfl,rfl⟩ rfl om om) rfl ?_
  refine Qh (show _=Value.slice (some ⟨gg,i*1,none⟩) (n+m-i) (cap-i)from by rw[X0 om]<;>(congr 1<;>omega)) (aU ?_)
  refine o_h (QcJ m news rfl rfl rfl QA aPt om hl (λ_=>rfl) (by simp only[Q6,List.length_append,Qm];omega) (Xb aPk) hn1) rfl (λ_ _=>aU6 ?_)
  exact rT rfl rfl (λw' h'=>⟨(some ⟨gg,0,none⟩,cap),rfl,trivial,(HS.to_own (n:=n+m) (xs:=xs.take (i*1)++news++xs.drop (i*1)) (ds:=ds.drop (m*1)) aPk h' (by have hq:=Qpw (xs:=xs) (ds:=ds) (news:=news) (p:=i*1) (q:=m*1) (N:=n*1) hxl om hl om;rw[show(i+m)*1=i*1+m*1 from om,show(n-i)*1=n*1-i*1 from om];exact hq) (by simp only[List.length_append,List.length_take,List.length_drop];omega) om om).ent aEt⟩)
 exfalso;first|omega|(simp at h8;done)|(simp_all;done)
theorem c249(w:World)(a:Option Addr)(i n m cap:Nat)(xs news:List Value)(b0 c0 tot2:Nat)(hw:HS w (fps [.own (.slice a n cap) 3 1 n xs,.blk b0 3 tot2 news]) [.own (.slice a n cap) 3 1 n xs,.blk b0 3 tot2 news] w)(hm0:0<m)(hl:news.length=m*1)(hn1:∀u∈news,u.oneCell'=true)(hx1:∀u∈xs,u.oneCell'=true)(hmax:(n+m)*8<=140737488355328)(hi:i<=n):CE 249 #[.slice a n cap,.int .i64 i,.slice (some ⟨b0,0,none⟩) m c0] w (fps [.own (.slice a n cap) 3 1 n xs,.blk b0 3 tot2 news]) (λg:Option Addr×Nat=>.slice g.1 (n+m) g.2) (λg=>True) λg=>[.own (.slice g.1 (n+m) g.2) 3 1 (n+m) (xs.take (i*1)++news++xs.drop (i*1)),.blk b0 3 tot2 news]:=by
  rcases Nat.lt_or_ge i n with h|h
  · obtain⟨gg,rfl,_,hnc,hcm,hxl,hb⟩:=hw.own_blk om .here;exact Qv6 w gg i n m cap xs news b0 c0 tot2 _ hb hnc hcm hxl hm0 hl hn1 hx1 hmax h
  · exact Qwy w a i n m cap xs news b0 c0 tot2 hw hm0 hl hn1 hx1 hmax om
end Go.Proofs
namespace Gx
open Go Go.RowKit
def Qe2(cap:Nat)(l:List UInt8):List Value:=l.map bv++List.replicate (cap-l.length) (bv 0)
def Qwi(a:Option Addr)(cap:Nat)(l:List UInt8)(w:World):Prop:=
 (a=none/\cap=0/\l=[])\/∃g,a=some ⟨g,0,none⟩/\l.length<=cap/\cap<=maxLen/\Xt g u8T cap (Qe2 cap l) w
theorem Qj8{cap:Nat}{l:List UInt8}(h:l.length<=cap):(Qe2 cap l).length=cap:=by grind[Qe2]
def HA.byz(a:Option Addr)(cap:Nat)(l:List UInt8):HA:=⟨(Value.slice a l.length cap).ownBlock.toList,Qwi a cap l,λw w' h ha=>by
  obtain⟨h1,h2,h3⟩|⟨g,rfl,h2,h3,hb⟩:=ha
  ·exact .inl ⟨h1,h2,h3⟩
  ·exact .inr ⟨g,rfl,h2,h3,Xt.loc (h g (by simp[Value.ownBlock])) hb⟩⟩
theorem HA.fp_byz(a:Option Addr)(cap:Nat)(l:List UInt8):(HA.byz a cap l).fp=(Value.slice a l.length cap).ownBlock.toList:=rfl
def QcR(a:Option Addr)(cap:Nat)(g:Option Addr×Nat)(n:Nat):Prop:=n<=cap->g.1=a/\g.2=cap
theorem QcR.trans{a:Option Addr}{cap:Nat}{g g':Option Addr×Nat}{n m:Nat}(h:QcR a cap g n)(h':QcR g.1 g.2 g' m)(hle:n<=m):QcR a cap g' m:=λhm=>by
 obtain⟨e1,e2⟩:=h (Nat.le_trans hle hm);obtain⟨e3,e4⟩:=h' (by rw[e2];exact hm)
 grind
section
variable{w0 w:World}{M:List Nat}{As As':List HA}
theorem HS.byz_nil(h:HS w0 M As w):HS w0 M (.byz none 0 []::As) w:=
 ⟨h.os,h.tape,h.output,h.size,h.old,λA hA=>by
  rcases List.mem_cons.1 hA with rfl|hA
  ·exact .inl ⟨rfl,rfl,rfl⟩
  ·exact h.ok A hA,λA hA b hb=>by
  rcases List.mem_cons.1 hA with rfl|hA
  ·simp[HA.fp_byz,Value.ownBlock]at hb
  ·exact h.lt A hA b hb,.cons (λB _ b hb=>by simp[HA.fp_byz,Value.ownBlock]at hb) h.sep⟩
theorem HS.byz_blk{g cap:Nat}{l:List UInt8}{cs:List Value}(hp:QE As (.blk g u8T cap cs) As')(h:HS w0 M As w)(hl:l.length<=cap)(hc:cap<=maxLen)(hcs:cs=Qe2 cap l):HS w0 M (.byz (some ⟨g,0,none⟩) cap l::As') w:=by
 subst hcs;exact(h.pick hp).turn (λb hb=>by simpa[HA.fp_byz,HA.fp_blk,Value.ownBlock]using hb) λhb=>.inr ⟨g,rfl,hl,hc,hb⟩
theorem HS.blk_byz{a:Option Addr}{cap:Nat}{l:List UInt8}(hp:QE As (.byz a cap l) As')(h:HS w0 M As w)(h0:0<cap):∃g,a=some ⟨g,0,none⟩/\l.length<=cap/\cap<=maxLen/\HS w0 M (.blk g u8T cap (Qe2 cap l)::As') w:=by
 have h1:=h.pick hp;rcases h1.head with⟨_,h2,_⟩|⟨g,rfl,h2,h3,hb⟩
 ·omega
 ·exact⟨g,rfl,h2,h3,h1.turn (λb hb=>by simpa[HA.fp_byz,HA.fp_blk,Value.ownBlock]using hb) λ_=>hb⟩
theorem HS.byz_own{a:Option Addr}{cap:Nat}{l:List UInt8}(hp:QE As (.byz a cap l) As')(h:HS w0 M As w):HS w0 M (.own (.slice a l.length cap) u8T 1 l.length (l.map bv)::As') w:=by
 have h1:=h.pick hp;refine h1.turn (λb hb=>hb) λho=>⟨by simp,?_⟩;rcases ho with⟨rfl,rfl,rfl⟩|⟨g,rfl,h2,h3,hb⟩
 ·grind
 ·refine .inr ⟨g,cap,rfl,h2,h3,?_⟩;rw[Nat.mul_one];exact hb.less
theorem HS.vl_byz{a:Option Addr}{cap:Nat}{l:List UInt8}(h:HS w0 M As w)(hp:QE As (.byz a cap l) As'):Vl w a (l.map bv):=(h.byz_own hp).vl_own .here
end
theorem Qfg(A:List Value):∀(vs B:List Value),vs.length<=B.length->Qu (A++B) A.length vs=A++(vs++B.drop vs.length)
 | [],B,_=>by simp[Qu]
 | v::vs,[],h=>by simp at h
 | v::vs,b::B,h=>by
  rw[Qu,List.set_append_right _ _ (Nat.le_refl _),Nat.sub_self,List.set_cons_zero,show A++v::B=(A++[v])++B by simp,show A.length+1=(A++[v]).length by simp,Qfg (A++[v]) vs B (by simpa using h)];simp
theorem Qsh{cap:Nat}{l m:List UInt8}(h:(l++m).length<=cap):Qu (Qe2 cap l) l.length (m.map bv)=Qe2 cap (l++m):=by
 rw[List.length_append]at h;unfold Qe2;have e:=Qfg (l.map bv) (m.map bv) (List.replicate (cap-l.length) (bv 0)) (by simp;omega)
 grind
theorem QjN(n:Nat):Builtin.zeroCells #[Value.int .u8 0] n=(List.replicate n (bv 0)).toArray:=by grind[QaT,bv,QcO]
theorem QmC(l:List UInt8):∀u∈l.map bv,u.oneCell'=true:=λu hu=>by
 obtain⟨b,_,rfl⟩:=List.mem_map.1 hu;rfl
theorem QfY{P:Program}{t xt ty by':Nat}{a:Option Addr}{cap:Nat}{x:Value}{l m:List UInt8}{w w0:World}{M:List Nat}{As As':List HA}(ht:tsl P t=some (u8T,1,by'))(hxt:P.underlying xt=some .string\/∃e',P.underlying xt=some (.slice e'))(hz:X9 P u8T=some [.int .u8 0])
  (hw:HS w0 M As w)(hp:QE As (.byz a cap l) As')(hlen:(Builtin.lenOf x).run P w=.ok m.length w)(hfc:(Builtin.firstCells 1 m.length x).run P w=.ok (m.map bv).toArray w)(hfc':(Builtin.firstCells 1 m.length x).run P w.drew=.ok (m.map bv).toArray w.drew)
  (hroom:(l.length+m.length)*by'<=140737488355328)(hmax:l.length+m.length<=maxLen) :
  ∃a' cap' w',(Builtin.append_ #[t,xt] ty #[.slice a l.length cap,x]).run P w=.ok (.slice a' (l++m).length cap') w'/\QcR a cap (a',cap') (l++m).length/\HS w0 M (.byz a' cap' (l++m)::As') w':=by
 obtain⟨hu,inf,hi,hs1,hs2⟩:=XS ht;obtain⟨inf',zv,h4,h5,h6⟩:=Zg hz;rw[hi]at h4;injection h4 with h4
 subst h4;subst hs2;have hzv:zv.cells= #[Value.int .u8 0]:=Array.ext' (by rw[h6]);have hpk:=hw.pick hp;have hlm:(l++m).length=l.length+m.length:=List.length_append;have hmx:((l.length+m.length:Nat):Int)<=9223372036854775807:=by simp only[maxLen]at hmax;omega
 rw[<-hs1]at hfc hfc'
 have grow:cap<l.length+m.length->(Builtin.firstCells inf.size l.length (.slice a l.length cap)).run P w.drew=.ok (l.map bv).toArray w.drew ->
   ∃a' cap' w',(Builtin.append_ #[t,xt] ty #[.slice a l.length cap,x]).run P w=.ok (.slice a' (l++m).length cap') w'/\QcR a cap (a',cap') (l++m).length/\HS w0 M (.byz a' cap' (l++m)::As') w':=by
  intro hcap hold;have hfit:=growslice_fits hcap hroom;have hge:=grownCap_ge w (l.length+m.length) cap u8T;have hle:=grownCap_le_maxLen w (l.length+m.length) cap u8T hmax;refine⟨some ⟨w.heap.size,0,none⟩,grownCap w (l.length+m.length) cap u8T,w.drew.alloc (.cells ((l.map bv).toArray++(m.map bv).toArray++Builtin.zeroCells zv.cells (grownCap w (l.length+m.length) cap u8T-(l.length+m.length))) u8T),?_,λh=>om,?_⟩
  ·rw[hlm];exact QjG hu hxt hi h5 hlen hfc' hold hcap hmx hfit
  ·generalize grownCap w (l.length+m.length) cap u8T=N at *;refine((hw.drew.pick hp).tail).alloc _ _ rfl (.inr ⟨_,rfl,om,hle,_,_,heap_alloc_new _ _,?_,?_,λi hi=>?_,Nat.le_refl _,λ_ _ h=>absurd h (Nat.not_lt_zero _)⟩)
   ·rw[hzv,QjN];simp only[Array.size_append,List.size_toArray,List.length_map,List.length_replicate];omega
   ·rw[Qj8 om];exact Nat.le_refl _
   ·rw[hzv,QjN]
    have:Qe2 N (l++m)=l.map bv++m.map bv++List.replicate (N-(l.length+m.length)) (bv 0):=by
     unfold Qe2;rw[List.map_append,hlm]
    rw[this,<-Array.getElem?_toList];simp only[Array.toList_append,List.append_assoc]
 rcases hpk.head with⟨rfl,rfl,rfl⟩|⟨g,rfl,h2,h3,hb⟩
 ·rcases Nat.eq_zero_or_pos m.length with hm|hm
  ·have hm0:m=[]:=List.eq_nil_of_length_eq_zero hm;subst hm0;exact⟨none,0,w,Qj0 hu hxt hi hlen (by simpa using hfc),λ_=>⟨rfl,rfl⟩,hpk⟩
  ·exact grow (by simp only[List.length_nil];omega) (by simp[Builtin.firstCells])
 ·by_cases hr:l.length+m.length<=cap
  ·obtain⟨w',hst,hb',r1,r2,r3,r4,r5⟩:=Yn (P:=P) (b:=g) (i:=l.length) (m.map bv) 0 (Qe2 cap l) w hb (by rw[Qj8 h2,List.length_map];omega) (QmC m);refine⟨some ⟨g,0,none⟩,cap,w',?_,λ_=>⟨rfl,rfl⟩,HS.swap hpk (B:=.byz (some ⟨g,0,none⟩) cap (l++m)) (λ_ h=>h) r1 r2 r3 r4 (λk hk=>r5 k (by simpa[HA.fp_byz,Value.ownBlock]using hk)) (.inr ⟨g,rfl,om,h3,?_⟩)⟩
   ·rw[hlm];exact Qf5 hu hxt hi hlen hfc (by rw[hs1,Nat.mul_one,X5,Nat.zero_add];exact hst) hr
   ·rw[Nat.add_zero,Qsh om]at hb';exact hb'
  ·refine grow om ?_;rw[hs1]
   exact Yc (w:=w.drew) (by simp) λ_=>⟨g,0,rfl,λj u hu=>by
    have hc:=hb.less.cell hu
    simpa using hc⟩
section
variable{P:Program}{o:Oper}{L:Qq}{w0:World}{M:List Nat}{As As':List HA}
theorem QaE{t xt e' by' c cap:Nat}{a b:Option Addr}{s x:Operand}{l:List UInt8}(m:List UInt8)(ho:o.op=.call {callee:=.builtin .append,args:=#[s,x],argTypes:=#[t,xt]})(hs:ev L s=some (.slice a l.length cap))(hx:ev L x=some (.slice b m.length c))(ht:tsl P t=some (u8T,1,by'))(hxt:P.underlying xt=some (.slice e'))(hz:X9 P u8T=some [.int .u8 0])
  (hp:QE As (.byz a cap l) As')(hsrc:∀w,HS w0 M As w->Src b (m.map bv) w)(hroom:(l.length+m.length)*by'<=140737488355328)(hmax:l.length+m.length<=maxLen) :
  OpH P o L (HS w0 M As) (λg:Option Addr×Nat=>.slice g.1 (l++m).length g.2) (λg=>QcR a cap g (l++m).length) (λg=>HS w0 M (.byz g.1 g.2 (l++m)::As')):=by
 intro ρ w hρ hw;obtain⟨a',cap',w',hr,hk,hw'⟩:=QfY (P:=P) (ty:=o.type) ht (.inr ⟨e',hxt⟩) hz hw hp (x:=.slice b m.length c) rfl (Yc (by simp) (hsrc w hw)) (Yc (w:=w.drew) (by simp) (hsrc w hw)) hroom hmax;simp only[execOp,ho,resolve,Sem.run_bind,Sem.run_pure,Result.andThen_ok,invoke,builtin,List.map_toArray,List.map_cons,List.map_nil,hρ _ _ hs,hρ _ _ hx,hr];exact⟨(a',cap'),rfl,hk,hw'⟩
theorem Qbp{t xt by' cap:Nat}{a:Option Addr}{s x:Operand}{l m:List UInt8}(ho:o.op=.call {callee:=.builtin .append,args:=#[s,x],argTypes:=#[t,xt]})(hs:ev L s=some (.slice a l.length cap))(hx:ev L x=some (.string (bs m)))(ht:tsl P t=some (u8T,1,by'))(hxt:P.underlying xt=some .string)(hz:X9 P u8T=some [.int .u8 0])
  (hp:QE As (.byz a cap l) As')(hroom:(l.length+m.length)*by'<=140737488355328)(hmax:l.length+m.length<=maxLen) :
  OpH P o L (HS w0 M As) (λg:Option Addr×Nat=>.slice g.1 (l++m).length g.2) (λg=>QcR a cap g (l++m).length) (λg=>HS w0 M (.byz g.1 g.2 (l++m)::As')):=by
 intro ρ w hρ hw
 have hfc:∀w,(Builtin.firstCells 1 m.length (.string (bs m))).run P w=.ok (m.map bv).toArray w:=λw=>by
  have hx:(bs m).extract 0 m.length=bs m:=(QmD _).trans (congrArg bs (by rw[Lib.extract_data];simp));simp only[Builtin.firstCells,hx,Sem.run_pure];congr 1;simp[bs,bv]
 obtain⟨a',cap',w',hr,hk,hw'⟩:=QfY (P:=P) (ty:=o.type) ht (.inl hxt) hz hw hp (x:=.string (bs m)) rfl (hfc _) (hfc _) hroom hmax;simp only[execOp,ho,resolve,Sem.run_bind,Sem.run_pure,Result.andThen_ok,invoke,builtin,List.map_toArray,List.map_cons,List.map_nil,hρ _ _ hs,hρ _ _ hx,hr];exact⟨(a',cap'),rfl,hk,hw'⟩
end
end Gx
namespace Gx
open Go Go.RowKit
def ub1(s:List UInt8)(i:Nat):Nat:=(s.getD i 0).toNat
def ub2(s:List UInt8)(i:Nat):Nat:=ub1 s i+ub1 s (i+1)*256
def ub4(s:List UInt8)(i:Nat):Nat:=ub2 s i+ub2 s (i+2)*65536
theorem Qjt(s:List UInt8)(i:Nat):at1 s i=(ub1 s i:Int):=rfl
theorem Qc1(s:List UInt8)(i:Nat):at2 s i=(ub2 s i:Int):=by simp only[at2,ub2,Qjt];omega
theorem Qgk(s:List UInt8)(i:Nat):at4 s i=(ub4 s i:Int):=by simp only[at4,ub4,Qc1];omega
theorem YG(s:List UInt8)(i:Nat):ub1 s i<256:=UInt8.toNat_lt _
theorem Qc9(s:List UInt8)(i:Nat):ub2 s i<65536:=by have:=YG s i;have:=YG s (i+1);unfold ub2;omega
theorem Qmq(s:List UInt8)(i:Nat):ub4 s i<4294967296:=by have:=Qc9 s i;have:=Qc9 s (i+2);unfold ub4;omega
theorem Ql7(s:List UInt8)(k i:Nat):ub1 (s.drop k) i=ub1 s (k+i):=by grind[ub1]
def Q7(n:Nat):Nat:=(n+7)/8*8
theorem Yr(n:Nat):n<=Q7 n/\Q7 n<n+8:=by unfold Q7;omega
def Qz(s:List UInt8)(i n:Nat):List UInt8:=(s.drop i).take n
theorem XJ{s:List UInt8}{i n:Nat}(h:i+n<=s.length):(Qz s i n).length=n:=by simp only[Qz,List.length_take,List.length_drop];omega
theorem QeY(s:List UInt8)(k i n:Nat):Qz (s.drop k) i n=Qz s (k+i) n:=by simp only[Qz,List.drop_drop]
theorem Qac{s:List UInt8}{i n j:Nat}(h:j<n):(Qz s i n)[j]?=s[i+j]?:=by simp only[Qz,List.getElem?_take,h,if_true,List.getElem?_drop]
theorem XT(s:List UInt8)(i n m:Nat):Qz s i (n+m)=Qz s i n++Qz s (i+n) m:=by
 simp only[Qz,List.take_add,List.drop_drop]
def zer(l:List UInt8):Bool:=l.all λb=>decide (b=0)
theorem Qbb(l:List UInt8):zer l=true ↔ l=List.replicate l.length 0:=by
 simp only[zer,List.all_eq_true,decide_eq_true_eq];constructor
 ·intro h;exact List.eq_replicate_iff.2 ⟨rfl,h⟩
 grind
theorem Qdk(n:Nat):zer (List.replicate n 0)=true:=by rw[Qbb];simp
def TEnt.sz(x:TEnt):Nat:=8+x.key.length+x.val.length
def YD(x:TEnt)(c:Int):List UInt8:=le2 (Q7 x.sz:Nat)++[by8 x.key.length,by8 x.val.length]++le4 c++x.key++x.val++List.replicate (Q7 x.sz-x.sz) 0
def Qbt(c:Int):List UInt8:=le2 8++[0,0]++le4 c
theorem Qec(x:TEnt)(c:Int):(YD x c).length=Q7 x.sz:=by
 have:=Yr x.sz;have h:x.sz=8+x.key.length+x.val.length:=rfl
 grind[YD,le2,le4]
theorem QbM(c:Int):(Qbt c).length=8:=rfl
theorem QlE(s:List UInt8)(i:Nat):by8 (ub1 s i:Int)=s.getD i 0:=by
 have:=YG s i;unfold by8;rw[show((ub1 s i:Int)%256).toNat=(s.getD i 0).toNat by unfold ub1 at *;omega];simp
theorem Qvf(s:List UInt8)(i:Nat):le2 (ub2 s i:Int)=[s.getD i 0,s.getD (i+1) 0]:=by grind[YG,le2,QdZ,ub2,ub1,QlE]
theorem QvJ(s:List UInt8)(i:Nat):le4 (ub4 s i:Int)=[s.getD i 0,s.getD (i+1) 0,s.getD (i+2) 0,s.getD (i+3) 0]:=by
 have h1:=YG s i;have h2:=YG s (i+1);have h3:=YG s (i+2);have h4:=YG s (i+3);have e:ub4 s i=ub1 s i+ub1 s (i+1)*256+(ub1 s (i+2)+ub1 s (i+3)*256)*65536:=rfl;simp only[le4];rw[QdZ (m:=(ub4 s i:Int)) (n:=(ub1 s i:Int)) om,QdZ (m:=(ub4 s i:Int)/256) (n:=(ub1 s (i+1):Int)) om,QdZ (m:=(ub4 s i:Int)/65536) (n:=(ub1 s (i+2):Int)) om,QdZ (m:=(ub4 s i:Int)/16777216) (n:=(ub1 s (i+3):Int)) om];simp only[QlE]
theorem Qdl{s:List UInt8}{i n:Nat}(h:i<s.length):Qz s i (n+1)=s.getD i 0::Qz s (i+1) n:=by
 simp only[Qz];rw[List.drop_eq_getElem_cons h,List.take_succ_cons,List.getD_eq_getElem?_getD,List.getElem?_eq_getElem h];rfl
theorem Qdp(s:List UInt8)(i:Nat):Qz s i 0=[]:=by simp[Qz]
theorem Qhe{s:List UInt8}{i:Nat}(h:i+2<=s.length):Qz s i 2=le2 (ub2 s i:Int):=by grind[Qvf,Qdl,Qdp]
theorem Qii{s:List UInt8}{i:Nat}(h:i+4<=s.length):Qz s i 4=le4 (ub4 s i:Int):=by grind[QvJ,Qdl,Qdp]
theorem Qne{a b:Int}(h:by8 a=by8 b):a%256=b%256:=by grind[Q9]
theorem Qti{a b:Int}(h:le2 a=le2 b):a%65536=b%65536:=by grind[le2,Qne]
theorem QsJ{a b:Int}(h:le4 a=le4 b):a%4294967296=b%4294967296:=by grind[le4,Qne]
def XD(s:List UInt8)(p:Nat):TEnt:=⟨Qz s (p+8) (ub1 s (p+2)),Qz s (p+8+ub1 s (p+2)) (ub1 s (p+3))⟩
def XM(s:List UInt8)(p:Nat):Nat:=8+ub1 s (p+2)+ub1 s (p+3)
def Yy(x:TEnt)(c:Nat):Bool:=decide (1<=x.key.length/\x.key.length<=40/\x.val.length<=64/\x.key.length+x.val.length<=88/\c<=120)
def Z7(s:List UInt8)(p:Nat):Bool:=decide (p+8<=s.length/\ub2 s p=Q7 (XM s p)/\p+ub2 s p<=s.length)&&(zer (Qz s (p+XM s p) (ub2 s p-XM s p))&&Yy (XD s p) (ub4 s (p+4)))
theorem Qes{s:List UInt8}{p:Nat}(h:p+XM s p<=s.length):(XD s p).sz=XM s p/\(XD s p).key.length=ub1 s (p+2)/\(XD s p).val.length=ub1 s (p+3):=by grind[XM,XD,ub1,XJ,TEnt.sz]
theorem Qso{s:List UInt8}{p:Nat}(h:p+XM s p<=s.length):Qz s p (XM s p)=le2 (ub2 s p:Int)++[by8 (ub1 s (p+2):Int),by8 (ub1 s (p+3):Int)]++le4 (ub4 s (p+4):Int)++(XD s p).key++(XD s p).val:=by
 have h9:XM s p=2+(1+(1+(4+(ub1 s (p+2)+ub1 s (p+3))))):=by unfold XM;omega
 unfold XM at h;rw[h9,XT,Qhe om,XT,show(1:Nat)=0+1 from rfl,Qdl om,Qdp,XT,show(1:Nat)=0+1 from rfl,Qdl om,Qdp,XT,Qii om,XT]
 grind[QlE,XD]
theorem Qmm{s:List UInt8}{p:Nat}(hn:p+ub2 s p<=s.length)(ht:XM s p<=ub2 s p):(YD (XD s p) (ub4 s (p+4):Int)=Qz s p (ub2 s p)) ↔ (ub2 s p=Q7 (XM s p)/\zer (Qz s (p+XM s p) (ub2 s p-XM s p))=true):=by
 obtain⟨e1,e2,e3⟩:=Qes (s:=s) (p:=p) om;have hh:=Qso (s:=s) (p:=p) om;have hlt:=Qc9 s p;have hk:=YG s (p+2);have hv:=YG s (p+3);have hp:=Yr (XM s p);have hs:XM s p=8+ub1 s (p+2)+ub1 s (p+3):=rfl;have hsplit:Qz s p (ub2 s p)=Qz s p (XM s p)++Qz s (p+XM s p) (ub2 s p-XM s p):=by rw[<-XT];congr 1;omega
 have hlen:(Qz s (p+XM s p) (ub2 s p-XM s p)).length=ub2 s p-XM s p:=XJ om;have hE:YD (XD s p) (ub4 s (p+4):Int)=le2 (Q7 (XM s p):Nat)++([by8 (ub1 s (p+2):Int),by8 (ub1 s (p+3):Int)]++le4 (ub4 s (p+4):Int)++(XD s p).key++(XD s p).val++List.replicate (Q7 (XM s p)-XM s p) 0):=by grind[YD]
 have hS:Qz s p (ub2 s p)=le2 (ub2 s p:Nat)++([by8 (ub1 s (p+2):Int),by8 (ub1 s (p+3):Int)]++le4 (ub4 s (p+4):Int)++(XD s p).key++(XD s p).val++Qz s (p+XM s p) (ub2 s p-XM s p)):=by grind
 constructor
 ·intro h;rw[hE,hS]at h;obtain⟨h1,h2⟩:=List.append_inj h rfl;have h3:=Qti h1;have h4:ub2 s p=Q7 (XM s p):=by omega
  refine⟨h4,?_⟩;have h5:=List.append_cancel_left h2;rw[<-h5];exact Qdk _
 grind[Qbb]
theorem Qmc{s:List UInt8}{p:Nat}(h8:p+8<=s.length)(hn:p+ub2 s p<=s.length)(ht:XM s p<=ub2 s p):(Qbt (ub4 s (p+4):Int)=Qz s p (ub2 s p)) ↔ (ub2 s p=8/\ub2 s (p+2)=0):=by
 have hs:XM s p=8+ub1 s (p+2)+ub1 s (p+3):=rfl;have hd:ub2 s (p+2)=ub1 s (p+2)+ub1 s (p+3)*256:=rfl
 have h4:Qz s p 8=le2 (ub2 s p:Int)++(le2 (ub2 s (p+2):Int)++le4 (ub4 s (p+4):Int)):=by
  rw[show 8=2+(2+4)from rfl,XT,Qhe om,XT,Qhe om,Qii om]
 constructor
 ·grind[QbM,XJ]
 ·rintro⟨h1,h2⟩;rw[h1,h4,h1,h2];rfl
structure RdS where
 es:List TEnt
 cs:List Int
 p:Nat
def rdE(s:List UInt8)(p0:Nat):Nat->Option RdS
 | 0=>some ⟨[],[],p0⟩
 | k+1=>match rdE s p0 k with
  | none=>none
  | some r=>if Z7 s r.p then some ⟨r.es++[XD s r.p],r.cs++[(ub4 s (r.p+4):Int)],r.p+ub2 s r.p⟩else none
def ZK(s:List UInt8)(p:Nat):Bool:=decide (p+8<=s.length/\ub2 s p=8/\ub2 s (p+2)=0/\ub4 s (p+4)<=120)
def noz(l:List Int):Bool:=l.all λc=>decide (c≠0)
def Qd7(l:List Int):Bool:=l.all λc=>decide (c=0)
def rdN(s:List UInt8)(p0 k:Nat):Option (Nd×Nat):=match rdE s p0 k with
 | none=>none
 | some r=>if ZK s r.p then(if noz (r.cs++[(ub4 s (r.p+4):Int)])then some (⟨true,r.es,r.cs++[(ub4 s (r.p+4):Int)]⟩,r.p+8)else if Qd7 (r.cs++[(ub4 s (r.p+4):Int)])then some (⟨true,r.es,[]⟩,r.p+8)else none)else none
theorem QqX{s:List UInt8}{p0 k:Nat}(h:rdE s p0 k=none):∀j,k<=j->rdE s p0 j=none:=by
 intro j hj
 induction j<;>grind[rdE]
theorem Qvv{s:List UInt8}{p0 k j:Nat}{r:RdS}(h:rdE s p0 k=some r)(hs:Z7 s r.p=false)(hj:k<j):rdE s p0 j=none:=
 QqX (k:=k+1) (by simp only[rdE,h,hs];rfl) j hj
theorem QcW{s:List UInt8}{p0 k:Nat}{r:RdS}(h:rdE s p0 k=some r)(hs:Z7 s r.p=true):rdE s p0 (k+1)=some ⟨r.es++[XD s r.p],r.cs++[(ub4 s (r.p+4):Int)],r.p+ub2 s r.p⟩:=by grind[rdE]
theorem ZL{s:List UInt8}{p:Nat}:Z7 s p=true ↔ (p+8<=s.length/\ub2 s p=Q7 (XM s p)/\p+ub2 s p<=s.length)/\zer (Qz s (p+XM s p) (ub2 s p-XM s p))=true/\Yy (XD s p) (ub4 s (p+4))=true:=by grind[Z7]
theorem Qcj{s:List UInt8}{p0:Nat}(h0:p0<=s.length):∀{k:Nat}{r:RdS},rdE s p0 k=some r->r.es.length=k/\r.cs.length=k/\p0<=r.p/\r.p<=s.length/\r.p<=p0+96*k/\(∀x∈r.es,Yy x 0=true)/\∀c∈r.cs,0<=c/\c<=120
 | 0,r,h=>by
  injection h with h
  grind
 | k+1,r,h=>by
  cases hk:rdE s p0 k with
  | none=>simp only[rdE,hk]at h;cases h
  | some q=>
   obtain⟨h1,h2,h3,h4,h5,h6,h7⟩:=Qcj h0 hk;cases hs:Z7 s q.p with
   | false=>simp only[rdE,hk,hs]at h;cases h
   | true=>
    rw[QcW hk hs]at h;injection h with h
    subst h;obtain⟨⟨g1,g2,g3⟩,g4,g5⟩:=ZL.1 hs
    grind[Yr,XM,Qes,Yy,ub1,Q7]
def Xw(cs:List Int)(i:Nat):Int:=if cs.length=0 then 0 else cs.getD i 0
def Xi(n:Nd):Nat->List UInt8
 | 0=>[]
 | k+1=>Xi n k++YD (nth n.es k) (Xw n.cs k)
def Xy(n:Nd):List UInt8:=Xi n n.es.length++Qbt (Xw n.cs n.es.length)
theorem Qim{s:List UInt8}{p0:Nat}(h0:p0<=s.length){n:Nd}:∀{k:Nat}{r:RdS},rdE s p0 k=some r->k<=n.es.length->(∀i,i<k->nth n.es i=nth r.es i/\Xw n.cs i=r.cs.getD i 0)->Xi n k=Qz s p0 (r.p-p0)
 | 0,r,h,_,_=>by
  injection h with h
  subst h;simp[Xi,Qz]
 | k+1,r,h,hk,hn=>by
  cases hq:rdE s p0 k with
  | none=>simp only[rdE,hq]at h;cases h
  | some q=>
   obtain⟨h1,h2,h3,h4,_⟩:=Qcj h0 hq;cases hs:Z7 s q.p with
   | false=>simp only[rdE,hq,hs]at h;cases h
   | true=>
    rw[QcW hq hs]at h;injection h with h
    subst h;obtain⟨⟨g1,g2,g3⟩,g4,g5⟩:=ZL.1 hs;have hp:=Yr (XM s q.p)
    have ih:=Qim h0 (n:=n) hq om (λi hi=>by
     obtain⟨a1,a2⟩:=hn i om;rw[a1,a2];constructor
     ·unfold nth;rw[List.getD_eq_getElem?_getD,List.getElem?_append_left om,<-List.getD_eq_getElem?_getD]
     ·rw[List.getD_eq_getElem?_getD,List.getElem?_append_left om,<-List.getD_eq_getElem?_getD])
    obtain⟨a1,a2⟩:=hn k om;have ub1':nth (q.es++[XD s q.p]) k=XD s q.p:=by grind[nth]
    have ub2':(q.cs++[(ub4 s (q.p+4):Int)]).getD k 0=(ub4 s (q.p+4):Int):=by grind
    rw[Xi,ih,a1,a2,ub1',ub2',(Qmm g3 om).2 ⟨g2,g4⟩];simp only[];rw[show q.p+ub2 s q.p-p0=(q.p-p0)+ub2 s q.p by omega,XT,show p0+(q.p-p0)=q.p by omega]
theorem QeN{s:List UInt8}{p0 k:Nat}(h0:p0<=s.length){n:Nd}{e:Nat}(h:rdN s p0 k=some (n,e)):Xy n=Qz s p0 (e-p0)/\p0+8<=e/\e<=s.length/\e<=p0+96*k+8/\n.us=true/\n.es.length=k/\(n.cs.length=0\/n.cs.length=k+1)/\(∀x∈n.es,Yy x 0=true)/\∀c∈n.cs,1<=c/\c<=120:=by
 unfold rdN at h;cases hq:rdE s p0 k with
 | none=>rw[hq]at h;cases h
 | some r=>
  rw[hq]at h;simp only[]at h;obtain⟨h1,h2,h3,h4,h5,h6,h7⟩:=Qcj h0 hq;split at h
  ·rename_i he;simp only[ZK,decide_eq_true_eq]at he;obtain⟨g1,g2,g3,g4⟩:=he;have hb2:ub2 s (r.p+2)=ub1 s (r.p+2)+ub1 s (r.p+3)*256:=rfl;have hsz:XM s r.p=8+ub1 s (r.p+2)+ub1 s (r.p+3):=rfl;have hend:=(Qmc (s:=s) (p:=r.p) g1 om om).2 ⟨g2,g3⟩;rw[g2]at hend
   have hfin:Qz s p0 (r.p+8-p0)=Qz s p0 (r.p-p0)++Qz s r.p 8:=by
    rw[show r.p+8-p0=(r.p-p0)+8 by omega,XT,show p0+(r.p-p0)=r.p by omega]
   split at h
   ·rename_i hz;injection h with h
    injection h with e1 e2
    subst e1 e2
    grind[Xw,ub4,Xy,Qim,hi,noz]
   ·split at h
    ·rename_i hz;injection h with h
     injection h with e1 e2
     subst e1 e2;refine⟨?_,om,om,om,rfl,h1,.inl rfl,h6,by simp⟩
     have hall:∀i,i<=k->(r.cs++[(ub4 s (r.p+4):Int)]).getD i 0=0:=λi hi=>by
      simp only[Qd7,List.all_eq_true,decide_eq_true_eq]at hz;have hl:i<(r.cs++[(ub4 s (r.p+4):Int)]).length:=by simp;omega
      have:=hz _ (List.getElem_mem hl);rw[List.getD_eq_getElem?_getD,List.getElem?_eq_getElem hl];exact this
     have hlast:=hall k (Nat.le_refl _);rw[List.getD_eq_getElem?_getD,List.getElem?_append_right om,h2,Nat.sub_self]at hlast;have hlast:(ub4 s (r.p+4):Int)=0:=hlast;unfold Xy;simp only[]
     rw[h1,Qim h0 (n:=⟨true,r.es,[]⟩) hq (Nat.le_of_eq h1.symm) (λi hi=>⟨rfl,by
      have:=hall i om;rw[List.getD_eq_getElem?_getD,List.getElem?_append_left om,<-List.getD_eq_getElem?_getD]at this;rw[this];rfl⟩),hfin,<-hend,hlast]
     rfl
    ·cases h
  ·cases h
theorem Qde{s:List UInt8}{i n j m:Nat}(h:j+m<=n):Qz (Qz s i n) j m=Qz s (i+j) m:=by
 simp only[Qz,List.drop_take,List.take_take,List.drop_drop]
 grind
theorem QpT{s:List UInt8}{p n j:Nat}(h:j<n):ub1 (Qz s p n) j=ub1 s (p+j):=by grind[ub1,Qac]
theorem Qgy{s:List UInt8}{p n j:Nat}(h:j+1<n):ub2 (Qz s p n) j=ub2 s (p+j):=by grind[ub2,QpT]
theorem Qlv{s:List UInt8}{p n j:Nat}(h:j+3<n):ub4 (Qz s p n) j=ub4 s (p+j):=by grind[ub4,Qgy]
theorem QwE(x:TEnt)(c:Int)(hs:x.sz<60000)(hk:x.key.length<256)(hv:x.val.length<256)(hc:0<=c/\c<4294967296):ub2 (YD x c) 0=Q7 x.sz/\ub1 (YD x c) 2=x.key.length/\ub1 (YD x c) 3=x.val.length/\(ub4 (YD x c) 4:Int)=c:=by
 have hp:=Yr x.sz;have e0:ub1 (YD x c) 0=(by8 (Q7 x.sz:Nat)).toNat:=rfl;have e1:ub1 (YD x c) 1=(by8 ((Q7 x.sz:Nat)/256:Int)).toNat:=rfl;have e2:ub1 (YD x c) 2=(by8 (x.key.length:Int)).toNat:=rfl;have e3:ub1 (YD x c) 3=(by8 (x.val.length:Int)).toNat:=rfl;have e4:ub1 (YD x c) 4=(by8 c).toNat:=rfl;have e5:ub1 (YD x c) 5=(by8 (c/256)).toNat:=rfl;have e6:ub1 (YD x c) 6=(by8 (c/65536)).toNat:=rfl;have e7:ub1 (YD x c) 7=(by8 (c/16777216)).toNat:=rfl;have f0:=Q9 (Q7 x.sz:Nat);have f1:=Q9 ((Q7 x.sz:Nat)/256:Int);have f2:=Q9 (x.key.length:Int);have f3:=Q9 (x.val.length:Int);have f4:=Q9 c;have f5:=Q9 (c/256);have f6:=Q9 (c/65536);have f7:=Q9 (c/16777216);refine⟨?_,?_,?_,?_⟩
 ·grind[ub2]
 ·rw[e2];omega
 ·rw[e3];omega
 ·unfold ub4 ub2;simp only[Nat.reduceAdd];rw[e4,e5,e6,e7];omega
theorem Ql2{A B C:List UInt8}{i n:Nat}(hi:A.length=i)(hn:B.length=n):Qz (A++(B++C)) i n=B:=by grind[Qz,hi]
theorem Qsj(x:TEnt)(c:Int):Qz (YD x c) 8 x.key.length=x.key:=by grind[YD,le2,Q7,by8,le4,Ql2]
theorem Qsf(x:TEnt)(c:Int):Qz (YD x c) (8+x.key.length) x.val.length=x.val:=by grind[YD,le2,Q7,by8,le4,Qz]
theorem QpP(x:TEnt)(c:Int):Qz (YD x c) x.sz (Q7 x.sz-x.sz)=List.replicate (Q7 x.sz-x.sz) 0:=by
 have:YD x c=(le2 (Q7 x.sz:Nat)++[by8 x.key.length,by8 x.val.length]++le4 c++x.key++x.val)++(List.replicate (Q7 x.sz-x.sz) 0++[]):=by simp only[YD,List.append_nil]
 grind[Ql2,TEnt.sz,le2,le4]
theorem QtO{s:List UInt8}{p:Nat}{x:TEnt}{c:Int}(hw:Qz s p (Q7 x.sz)=YD x c)(hl:p+Q7 x.sz<=s.length)(hk:Yy x c.toNat=true)(hc:0<=c):Z7 s p=true/\XD s p=x/\(ub4 s (p+4):Int)=c/\ub2 s p=Q7 x.sz:=by
 have hkk:=hk;simp only[Yy,decide_eq_true_eq]at hk;have hsz:x.sz=8+x.key.length+x.val.length:=rfl;have hp:=Yr x.sz;obtain⟨a0,a2,a3,a4⟩:=QwE x c om om om om;rw[<-hw,Qgy om,Nat.add_zero]at a0;rw[<-hw,QpT om]at a2 a3;rw[<-hw,Qlv om]at a4
 have e:XD s p=x:=by
  have k1:=Qsj x c;have k2:=Qsf x c;rw[<-hw,Qde om]at k1 k2;unfold XD;rw[a2,a3,k1,show p+8+x.key.length=p+(8+x.key.length) by omega,k2]
 grind[XM,ZL,QpP,Qde,Qdk,ub4]
theorem QuM{s:List UInt8}{p:Nat}{c:Int}(hw:Qz s p 8=Qbt c)(hl:p+8<=s.length)(hc:0<=c/\c<=120):ZK s p=true/\(ub4 s (p+4):Int)=c:=by
 have f4:=Q9 c;have f5:=Q9 (c/256);have f6:=Q9 (c/65536);have f7:=Q9 (c/16777216)
 have e0:ub2 (Qbt c) 0=8:=by
  show(by8 8).toNat+(by8 (8/256)).toNat*256=8;decide
 have e2:ub2 (Qbt c) 2=0:=by
  show(0:UInt8).toNat+(0:UInt8).toNat*256=0;decide
 have e4:ub4 (Qbt c) 4=(by8 c).toNat+(by8 (c/256)).toNat*256+((by8 (c/65536)).toNat+(by8 (c/16777216)).toNat*256)*65536:=by
  have g0:ub1 (Qbt c) 4=(by8 c).toNat:=rfl;have g1:ub1 (Qbt c) 5=(by8 (c/256)).toNat:=rfl;have g2:ub1 (Qbt c) 6=(by8 (c/65536)).toNat:=rfl;have g3:ub1 (Qbt c) 7=(by8 (c/16777216)).toNat:=rfl
  grind[ub4,ub2]
 grind[Qgy,Qlv,ub4,ZK]
structure NdW(n:Nd):Prop where
 us:n.us=true
 es:∀x∈n.es,Yy x 0=true
 cl:n.cs.length=0\/n.cs.length=n.es.length+1
 cs:∀c∈n.cs,1<=c/\c<=120
theorem NdW.kid{n:Nd}(h:NdW n){i:Nat}(hi:i<=n.es.length):0<=Xw n.cs i/\Xw n.cs i<=120/\(n.cs.length=0->Xw n.cs i=0)/\(n.cs.length≠0->Xw n.cs i=n.cs.getD i 0/\Xw n.cs i≠0):=by
 unfold Xw
 by_cases h0:n.cs.length=0
 ·grind
 ·rw[if_neg h0];have hl:i<n.cs.length:=by have:=h.cl;omega
  have h1:=h.cs _ (List.getElem_mem hl)
  grind
theorem Qgi(n:Nd):∀k j,(Xi n k).length<=(Xi n (k+j)).length
 | k,0=>Nat.le_refl _
 | k,j+1=>by
  have:=Qgi n k j
  grind[Xi]
theorem QhF(n:Nd):∀k j,Qz (Xi n (k+j)) 0 (Xi n k).length=Xi n k
 | k,0=>by simp[Qz]
 | k,j+1=>by
  have ih:=QhF n k j;have hl:=Qgi n k j;show Qz (Xi n (k+j)++_) 0 _=_;unfold Qz at ih ⊢;rw[List.drop_zero]at ih ⊢;rw[List.take_append_of_le_length hl];exact ih
theorem QkD{s:List UInt8}{p0:Nat}{n:Nd}(hn:NdW n)(hl:p0+(Xi n n.es.length).length<=s.length)(hw:Qz s p0 (Xi n n.es.length).length=Xi n n.es.length):∀k,k<=n.es.length->rdE s p0 k=some ⟨n.es.take k,(List.range k).map (Xw n.cs),p0+(Xi n k).length⟩
 | 0,_=>by simp[rdE,Xi]
 | k+1,hk=>by
  have ih:=QkD hn hl hw k om;have hx:=hn.es _ (List.getElem_mem (show k<n.es.length by omega));have hxe:nth n.es k=n.es[k]:=Q2 (by rw[List.getElem?_eq_getElem (show k<n.es.length by omega)]);obtain⟨c1,c2,_,_⟩:=hn.kid (i:=k) om;have hle:=Qgi n (k+1) (n.es.length-(k+1));rw[show k+1+(n.es.length-(k+1))=n.es.length by omega]at hle;have hlk:(Xi n (k+1)).length=(Xi n k).length+Q7 (nth n.es k).sz:=by grind[Xi,Qec]
  have hpre:=QhF n (k+1) (n.es.length-(k+1));rw[show k+1+(n.es.length-(k+1))=n.es.length by omega,<-hw,Qde om,Nat.add_zero]at hpre
  have hwin:Qz s (p0+(Xi n k).length) (Q7 (nth n.es k).sz)=YD (nth n.es k) (Xw n.cs k):=by
   rw[hlk,XT]at hpre;have h2:Qz s p0 (Xi n k).length++Qz s (p0+(Xi n k).length) (Q7 (nth n.es k).sz)=Xi n k++YD (nth n.es k) (Xw n.cs k):=hpre;exact(List.append_inj h2 (XJ om)).2
  have hK:Yy (nth n.es k) (Xw n.cs k).toNat=true:=by grind[Yy]
  obtain⟨g1,g2,g3,g4⟩:=QtO hwin om hK c1;rw[QcW ih g1];congr 1;have t1:n.es.take (k+1)=n.es.take k++[nth n.es k]:=by simp_all
  simp only[g2,g3,g4];rw[t1,List.range_succ,List.map_append,hlk,Nat.add_assoc];rfl
theorem Qi7{s:List UInt8}{p0:Nat}{n:Nd}(hn:NdW n)(hl:p0+(Xy n).length<=s.length)(hw:Qz s p0 (Xy n).length=Xy n):rdN s p0 n.es.length=some (n,p0+(Xy n).length):=by
 have hcl:(Xy n).length=(Xi n n.es.length).length+8:=by unfold Xy;rw[List.length_append,QbM]
 have hw2:=hw;rw[hcl,XT]at hw2;unfold Xy at hw2;obtain⟨w1,w2⟩:=List.append_inj hw2 (XJ om);have hE:=QkD hn om w1 n.es.length (Nat.le_refl _);obtain⟨c1,c2,c3,c4⟩:=hn.kid (Nat.le_refl n.es.length);obtain⟨g1,g2⟩:=QuM w2 om ⟨c1,c2⟩;have hch:(List.range n.es.length).map (Xw n.cs)++[Xw n.cs n.es.length]=(List.range (n.es.length+1)).map (Xw n.cs):=by rw[List.range_succ,List.map_append];rfl
 unfold rdN;rw[hE];simp only[g1,if_true,g2,hch,List.take_length,hcl]
 by_cases h0:n.cs.length=0
 ·have hz:∀i,i<=n.es.length->Xw n.cs i=0:=λi hi=>(hn.kid hi).2.2.1 h0;have hnz:noz ((List.range (n.es.length+1)).map (Xw n.cs))=false:=by grind[noz,Xw]
  have haz:Qd7 ((List.range (n.es.length+1)).map (Xw n.cs))=true:=by grind[Qd7,hi]
  rw[hnz,haz];simp only[Bool.false_eq_true,if_false,if_true,Option.some.injEq,Prod.mk.injEq];refine⟨?_,om⟩;obtain⟨us,es,cs⟩:=n;have hcs:cs=[]:=List.eq_nil_of_length_eq_zero h0;have hu:=hn.us
  grind
 ·have hnz:noz ((List.range (n.es.length+1)).map (Xw n.cs))=true:=by
   simp only[noz,List.all_eq_true,decide_eq_true_eq,List.mem_map,List.mem_range];rintro c ⟨i,hi,rfl⟩;exact((hn.kid (i:=i) om).2.2.2 h0).2
  rw[hnz];simp only[if_true,Option.some.injEq,Prod.mk.injEq];refine⟨?_,om⟩;have hlc:n.cs.length=n.es.length+1:=by have:=hn.cl;omega
  have hcs:(List.range (n.es.length+1)).map (Xw n.cs)=n.cs:=by
   apply List.ext_getElem?;intro i;rcases Nat.lt_or_ge i (n.es.length+1)with hi|hi
   ·rw[List.getElem?_map,List.getElem?_range hi];simp only[Option.map_some];rw[((hn.kid (i:=i) om).2.2.2 h0).1,List.getD_eq_getElem?_getD,List.getElem?_eq_getElem (show i<n.cs.length by omega)];rfl
   grind
  rw[hcs];have hu:=hn.us;obtain⟨us,es,cs⟩:=n
  grind
def Xd(s:List UInt8)(at':Nat)(l:List UInt8):List UInt8:=s.take at'++l++s.drop (at'+l.length)
theorem Yg{s l:List UInt8}{a:Nat}(h:a+l.length<=s.length):(Xd s a l).length=s.length:=by grind[Xd]
theorem Zi{s l:List UInt8}{a:Nat}(h:a+l.length<=s.length)(j:Nat):(Xd s a l)[j]?=if j<a then s[j]? else if j<a+l.length then l[j-a]? else s[j]?:=by grind[Xd]
theorem Qci{s l:List UInt8}{a i n:Nat}(h:a+l.length<=s.length)(hd:i+n<=a\/a+l.length<=i):Qz (Xd s a l) i n=Qz s i n:=by
 apply List.ext_getElem?
 grind[Qac,Zi,Qz]
def tlA(i:Nat):Nat:=64*i+62
def prI(s:List UInt8)(u:Int):Nat->List UInt8
 | 0=>Xd s 40 (le2 u)
 | i+1=>Xd (Xd (prI s u i) (42+2*i) (Qz (prI s u i) (tlA i) 2)) (tlA i) (le2 u)
def Qcm(s:List UInt8)(u:Int):List UInt8:=prI s u 8
def opI(s:List UInt8):Nat->List UInt8
 | 0=>s
 | i+1=>Xd (opI s i) (tlA i) (Qz (opI s i) (42+2*i) 2)
def QbE(s:List UInt8)(i:Nat):Bool:=decide (ub2 s 40=0\/ub2 s (tlA i)≠ub2 s 40)
def X2(s:List UInt8):Bool:=(List.range 8).any (QbE s)
def Xa(s:List UInt8):List UInt8:=Xd (opI s 8) 40 (List.replicate 18 0)
theorem Qej{s:List UInt8}{u:Int}(h:s.length=512):∀i,i<=8->(prI s u i).length=512
 | 0,_=>by
  show(Xd s 40 (le2 u)).length=_
  grind[Yg,le2]
 | i+1,hi=>by
  have ih:=Qej (u:=u) h i om;have h2:(Qz (prI s u i) (tlA i) 2).length=2:=XJ (by unfold tlA;omega);show(Xd (Xd _ _ _) _ (le2 u)).length=_
  grind[Yg,le2,tlA]
theorem Qaz{s:List UInt8}(h:s.length=512):∀i,i<=8->(opI s i).length=512
 | 0,_=>h
 | i+1,hi=>by
  have ih:=Qaz h i om
  grind[Qz,opI,XJ,Xd,Yg,tlA]
theorem QmB{s:List UInt8}{u:Int}(h:s.length=512):∀i,i<=8->∀j,(prI s u i)[j]?=if j<40 then s[j]? else if j<42 then(le2 u)[j-40]? else if j<42+2*i then s[tlA ((j-42)/2)+(j-42)%2]? else if j<64*i/\62<=j%64 then(le2 u)[j%64-62]? else s[j]?
 | 0,_,j=>by
  have hle:(le2 u).length=2:=rfl;show(Xd s 40 (le2 u))[j]?=_
  grind[Zi]
 | i+1,hi,j=>by
  have hl:=Qej (u:=u) h i om;have ih:=QmB (u:=u) h i om;have h2:(Qz (prI s u i) (tlA i) 2).length=2:=XJ (by unfold tlA;omega);have h3:(Xd (prI s u i) (42+2*i) (Qz (prI s u i) (tlA i) 2)).length=512:=by rw[Yg (by rw[h2,hl];omega),hl]
  show(Xd (Xd _ _ _) _ (le2 u))[j]?=_;rw[Zi (by rw[h3];simp only[le2,List.length_cons,List.length_nil,tlA];omega),Zi (by rw[h2,hl];omega),h2];have hle:(le2 u).length=2:=rfl;rw[hle]
  have e1:∀k,(Qz (prI s u i) (tlA i) 2)[k]?=if k<2 then s[tlA i+k]? else none:=λk=>by
   by_cases hk:k<2
   ·rw[if_pos hk,Qac hk,ih];unfold tlA;rw[if_neg om]
    by_cases hi0:64*i+62+k<42
    ·omega
    ·rw[if_neg hi0];rw[if_neg om,if_neg om]
   ·rw[if_neg hk,List.getElem?_eq_none (by rw[h2];omega)]
  rw[e1,ih];unfold tlA
  repeat' split
  all_goals first|rfl|(exfalso;omega)|(congr 1;omega)
theorem Qp9{s:List UInt8}{i j:Nat}(h:i=j):s[i]?=s[j]?:=by rw[h]
theorem Qmz{s:List UInt8}(h:s.length=512):∀i,i<=8->∀j,(opI s i)[j]?=if j<64*i/\62<=j%64 then s[42+2*(j/64)+(j%64-62)]? else s[j]?
 | 0,_,j=>by
  rw[if_neg om];rfl
 | i+1,hi,j=>by
  have hl:=Qaz h i om;have ih:=Qmz h i om;have h2:(Qz (opI s i) (42+2*i) 2).length=2:=XJ om;show(Xd _ _ _)[j]?=_;rw[Zi (by rw[h2,hl];unfold tlA;omega),h2];unfold tlA
  by_cases c1:64*i+62<=j/\j<64*i+64
  ·rw[if_neg om,if_pos om,if_pos om,Qac om,ih,if_neg om];congr 1;omega
  ·have e:(if j<64*i+62 then(opI s i)[j]? else if j<64*i+62+2 then(Qz (opI s i) (42+2*i) 2)[j-(64*i+62)]? else(opI s i)[j]?)=(opI s i)[j]?:=by
    split
    ·rfl
    ·rw[if_neg om]
   refine e.trans ?_;rw[ih]
   by_cases d:j<64*i/\62<=j%64
   ·rw[if_pos d,if_pos om]
   ·rw[if_neg d,if_neg om]
theorem Y6{s:List UInt8}(h:s.length=512):(Xa s).length=512:=by
 unfold Xa;rw[Yg (by rw[Qaz h 8 om];simp),Qaz h 8 om]
theorem QbQ{s:List UInt8}(h:s.length=512)(j:Nat):(Xa s)[j]?=if 40<=j/\j<58 then some 0 else if j<512/\62<=j%64 then s[42+2*(j/64)+(j%64-62)]? else s[j]?:=by
 unfold Xa;rw[Zi (by rw[Qaz h 8 om];simp),Qmz h 8 om,List.length_replicate]
 by_cases c:40<=j/\j<58
 ·rw[if_pos c,if_neg om,if_pos om,List.getElem?_replicate,if_pos om]
 ·rw[if_neg c];split
  ·rfl
  ·rw[if_neg om]
theorem QbS{s:List UInt8}{u:Int}(h:s.length=512):(Qcm s u).length=512:=Qej h 8 om
theorem Qaa{s:List UInt8}{u:Int}(h:s.length=512)(j:Nat):(Qcm s u)[j]?=if j<40 then s[j]? else if j<42 then(le2 u)[j-40]? else if j<58 then s[tlA ((j-42)/2)+(j-42)%2]? else if j<512/\62<=j%64 then(le2 u)[j%64-62]? else s[j]?:=QmB h 8 om j
theorem QrV{s t:List UInt8}{i j:Nat}(h:s[i]?=t[j]?):ub1 s i=ub1 t j:=by simp only[ub1,List.getD_eq_getElem?_getD,h]
theorem Qq8{s t:List UInt8}{i j:Nat}(h:s[i]?=t[j]?)(h2:s[i+1]?=t[j+1]?):ub2 s i=ub2 t j:=by simp only[ub2,QrV h,QrV h2]
theorem Qrp{u:Int}(h:0<=u/\u<65536):(ub2 (le2 u) 0:Int)=u:=by
 have e0:ub1 (le2 u) 0=(by8 u).toNat:=rfl;have e1:ub1 (le2 u) 1=(by8 (u/256)).toNat:=rfl;have f0:=Q9 u;have f1:=Q9 (u/256);unfold ub2;rw[e0,e1];omega
theorem QnD{s:List UInt8}{u:Int}(h:s.length=512)(hu:0<=u/\u<65536):(ub2 (Qcm s u) 40:Int)=u:=by
 rw[Qq8 (t:=le2 u) (j:=0) (by rw[Qaa h,if_neg om,if_pos om]) (by rw[Qaa h,if_neg om,if_pos om])];exact Qrp hu
theorem Qoo{s:List UInt8}{u:Int}(h:s.length=512)(hu:0<=u/\u<65536){i:Nat}(hi:i<8):(ub2 (Qcm s u) (tlA i):Int)=u:=by
 rw[Qq8 (t:=le2 u) (j:=0) (by unfold tlA;rw[Qaa h,if_neg om,if_neg om,if_neg om,if_pos om];congr 1;omega) (by unfold tlA;rw[Qaa h,if_neg om,if_neg om,if_neg om,if_pos om];congr 1;omega)];exact Qrp hu
theorem Qoq{s:List UInt8}{u:Int}(h:s.length=512)(hu:1<=u/\u<65536):X2 (Qcm s u)=false:=by
 cases hb:X2 (Qcm s u)with
 | false=>rfl
 | true=>
  simp only[X2,List.any_eq_true,List.mem_range,QbE,decide_eq_true_eq]at hb;obtain⟨i,hi,hh⟩:=hb;have h1:=QnD h (u:=u) om;have h2:=Qoo h (u:=u) om hi;omega
theorem QrX{s:List UInt8}{i n:Nat}(h:zer (Qz s i n)=true)(hl:i+n<=s.length){j:Nat}(h1:i<=j)(h2:j<i+n):s[j]?=some 0:=by
 have h3:s[j]?=(Qz s i n)[j-i]?:=by rw[Qac om];congr 1;omega
 rw[Qbb,XJ hl]at h;rw[h3,h,List.getElem?_replicate,if_pos om]
theorem QhU{s:List UInt8}{u:Int}(h:s.length=512)(hz:zer (Qz s 40 18)=true):Xa (Qcm s u)=s:=by
 have hl:=QbS (u:=u) h;apply List.ext_getElem?;intro j;rw[QbQ hl]
 by_cases c:40<=j/\j<58
 ·rw[if_pos c,QrX hz om c.1 om]
 ·rw[if_neg c]
  by_cases c2:j<512/\62<=j%64
  ·rw[if_pos c2,Qaa h,if_neg om,if_neg om,if_pos om];exact Qp9 (by unfold tlA;omega)
  ·rw[if_neg c2,Qaa h]
   by_cases d1:j<40
   ·rw[if_pos d1]
   ·rw[if_neg d1,if_neg om,if_neg om,if_neg om]
theorem Qgr{s:List UInt8}:X2 s=false ↔ ub2 s 40≠0/\∀i,i<8->ub2 s (tlA i)=ub2 s 40:=by
 constructor
 ·intro h
  have h2:∀i,i<8->¬(ub2 s 40=0\/ub2 s (tlA i)≠ub2 s 40):=by
   intro i hi hb;have:X2 s=true:=List.any_eq_true.2 ⟨i,List.mem_range.2 hi,decide_eq_true hb⟩;rw[this]at h;cases h
  have:=h2 0 om;exact⟨om,λi hi=>by have:=h2 i hi;omega⟩
 ·rintro⟨h1,h2⟩;cases hb:X2 s with
  | false=>rfl
  | true=>
   simp only[X2,List.any_eq_true,List.mem_range,QbE,decide_eq_true_eq]at hb;obtain⟨i,hi,hh⟩:=hb;have:=h2 i hi;omega
theorem Qkr{s:List UInt8}{i j:Nat}(h:ub2 s i=ub2 s j):ub1 s i=ub1 s j/\ub1 s (i+1)=ub1 s (j+1):=by
 have h1:=YG s i;have h2:=YG s (i+1);have h3:=YG s j;have h4:=YG s (j+1);unfold ub2 at h;omega
theorem Qlu{s t:List UInt8}{i j:Nat}(hi:i<s.length)(hj:j<t.length)(h:ub1 s i=ub1 t j):s[i]?=t[j]?:=by
 simp only[ub1,List.getD_eq_getElem?_getD,List.getElem?_eq_getElem hi,List.getElem?_eq_getElem hj,Option.getD_some]at h;rw[List.getElem?_eq_getElem hi,List.getElem?_eq_getElem hj];exact congrArg _ (UInt8.toNat_inj.1 h)
theorem Qm9{s:List UInt8}{i j:Nat}(hi:i+1<s.length)(hj:j<2):(le2 (ub2 s i:Int))[j]?=s[i+j]?:=by
 rw[<-Qhe om,Qac hj]
theorem Qol{s:List UInt8}(h:s.length=512)(ht:X2 s=false):Qcm (Xa s) (ub2 s 40:Int)=s:=by
 have hl:=Y6 h;obtain⟨h1,h2⟩:=Qgr.1 ht;apply List.ext_getElem?;intro j;rw[Qaa hl]
 by_cases c1:j<40
 ·rw[if_pos c1,QbQ h,if_neg om,if_neg om]
 ·rw[if_neg c1]
  by_cases c2:j<42
  ·rw[if_pos c2,Qm9 om om];exact Qp9 om
  ·rw[if_neg c2]
   by_cases c3:j<58
   ·rw[if_pos c3];unfold tlA;rw[QbQ h,if_neg om,if_pos om];exact Qp9 om
   ·rw[if_neg c3]
    by_cases c4:j<512/\62<=j%64
    ·rw[if_pos c4,Qm9 om om];have h3:=Qkr (h2 (j/64) om);unfold tlA at h3
     by_cases c5:j%64=62
     ·rw[c5];exact Qlu om om (by rw[show j=64*(j/64)+62 by omega];exact h3.1.symm)
     ·rw[show j%64-62=1 by omega];exact Qlu om om (by rw[show j=64*(j/64)+62+1 by omega];exact h3.2.symm)
    ·rw[if_neg c4,QbQ h,if_neg om,if_neg c4]
theorem Qls{s:List UInt8}(h:s.length=512):zer (Qz (Xa s) 40 18)=true:=by
 have hl:=Y6 h;rw[Qbb,XJ om];apply List.ext_getElem?;intro j;rcases Nat.lt_or_ge j 18 with hj|hj
 ·rw[Qac hj,QbQ h,if_pos om,List.getElem?_replicate,if_pos hj]
 ·rw[List.getElem?_eq_none (by rw[XJ om];omega),List.getElem?_eq_none (by simp;omega)]
def Qen:List UInt8:=[73,78,68,88]
def hdB(num lsn:Int)(count:Nat):List UInt8:=Qen++List.replicate 4 0++le4 lsn++le4 num++le2 count++List.replicate 46 0
def Qah(n:Nd)(num lsn:Int):List UInt8:=hdB num lsn n.es.length++Xy n++List.replicate (448-(Xy n).length) 0
def Qak(n:Nd)(num lsn usn:Int):List UInt8:=Qcm (Qah n num lsn) usn
theorem Qb4(num lsn:Int)(c:Nat):(hdB num lsn c).length=64:=rfl
theorem QaJ{n:Nd}{num lsn:Int}(h:(Xy n).length<=448):(Qah n num lsn).length=512:=by
 unfold Qah;rw[List.length_append,List.length_append,Qb4,List.length_replicate];omega
theorem Qo0{n:Nd}{num lsn:Int}:Qz (Qah n num lsn) 64 (Xy n).length=Xy n:=by
 unfold Qah Qz;rw[List.append_assoc,show(64:Nat)=(hdB num lsn n.es.length).length from rfl,List.drop_left,List.take_left]
theorem QmP{n:Nd}{num lsn:Int}:Qz (Qah n num lsn) 0 64=hdB num lsn n.es.length:=by
 unfold Qah Qz;rw[List.append_assoc,List.drop_zero,show(64:Nat)=(hdB num lsn n.es.length).length from rfl,List.take_left]
theorem Qr0{n:Nd}{num lsn:Int}:(Qah n num lsn).drop (64+(Xy n).length)=List.replicate (448-(Xy n).length) 0:=by
 unfold Qah;rw[show 64+(Xy n).length=(hdB num lsn n.es.length++Xy n).length by rw[List.length_append];rfl,List.drop_left]
theorem Qdv{n:Nd}{num lsn:Int}:zer (Qz (Qah n num lsn) 40 18)=true:=by
 have h:Qz (Qz (Qah n num lsn) 0 64) 40 18=Qz (hdB num lsn n.es.length) 40 18:=by rw[QmP]
 rw[Qde om,Nat.zero_add]at h;rw[h];rfl
def QgH(s:List UInt8)(num:Int):Bool:=decide (s.take 4=Qen)&&(zer (Qz s 4 4)&&(decide (ub4 s 8<=2147483647)&&(decide ((ub4 s 12:Int)=num)&&(zer (Qz s 18 22)&&zer (Qz s 58 6)))))
theorem Qrj{s:List UInt8}{num:Int}{c:Nat}(h:64<=s.length)(hc:c=ub2 s 16)(hn:0<=num/\num<4294967296)(hz:zer (Qz s 40 18)=true)(hlsn:ub4 s 8<=2147483647):hdB num (ub4 s 8:Int) c=Qz s 0 64 ↔ QgH s num=true:=by
 subst hc
 have e:Qz s 0 64=s.take 4++Qz s 4 4++le4 (ub4 s 8:Int)++le4 (ub4 s 12:Int)++le2 (ub2 s 16:Int)++(Qz s 18 22++(Qz s 40 18++Qz s 58 6)):=by
  rw[show 64=4+(4+(4+(4+(2+(22+(18+6))))))from rfl,XT,XT,XT,XT,XT,XT,XT];simp only[Nat.zero_add,Nat.reduceAdd];rw[Qii (i:=8) om,Qii (i:=12) om,Qhe (i:=16) om,show Qz s 0 4=s.take 4 by simp[Qz]];simp only[List.append_assoc]
 have z18:=(Qbb _).1 hz;rw[XJ om]at z18;have er:List.replicate 46 (0:UInt8)=List.replicate 22 0++(List.replicate 18 0++List.replicate 6 0):=rfl;have l4:(s.take 4).length=4:=by simp only[List.length_take];omega
 have l44:(Qz s 4 4).length=4:=XJ om;constructor
 ·intro hh;rw[e]at hh;unfold hdB at hh;obtain⟨hh,f6⟩:=List.append_inj hh (by simp only[List.length_append,l4,l44];rfl);obtain⟨hh,f5⟩:=List.append_inj hh (by simp only[List.length_append,l4,l44];rfl);obtain⟨hh,f4⟩:=List.append_inj hh (by simp only[List.length_append,l4,l44];rfl);obtain⟨hh,f3⟩:=List.append_inj hh (by simp only[List.length_append,l4,l44];rfl);obtain⟨f1,f2⟩:=List.append_inj hh (by rw[l4];rfl);rw[er]at f6;obtain⟨g1,f6⟩:=List.append_inj f6 (by rw[XJ om];rfl);obtain⟨g2,g3⟩:=List.append_inj f6 (by rw[XJ om];rfl);have f4':=QsJ f4;have hb:=Qmq s 12;simp only[QgH,Bool.and_eq_true,decide_eq_true_eq];refine⟨f1.symm,?_,hlsn,om,?_,?_⟩
  ·rw[<-f2];rfl
  ·rw[<-g1];rfl
  ·rw[<-g3];rfl
 ·intro hh;simp only[QgH,Bool.and_eq_true,decide_eq_true_eq]at hh;obtain⟨f1,f2,_,f4,f5,f6⟩:=hh;rw[Qbb,XJ om]at f2 f5 f6;rw[e,f1,f2,f4,f5,z18,f6];rfl
def rdB(s:List UInt8):Option (Nd×Nat):=if 1<=ub2 s 16/\ub2 s 16<=4 then rdN s 64 (ub2 s 16)else none
def Qk2:Nd:=⟨false,[],[]⟩
structure NdR where
 n:Nd
 lsn:Int
 usn:Int
 e:Int
def ndE(e:Int):NdR:=⟨Qk2,0,0,e⟩
def XN(b:List UInt8)(num:Int):NdR:=
 if b.length=512 then
  if 1<=num/\num<=120 then
   if X2 b then ndE 31
   else match rdB (Xa b)with
    | some (n,last)=>if QgH (Xa b) num&&zer ((Xa b).drop last)then⟨n,(ub4 (Xa b) 8:Int),(ub2 b 40:Int),0⟩else ndE 3
    | none=>ndE 3
  else ndE 2
 else ndE 10
theorem Qba{s:List UInt8}{n:Nd}{last:Nat}(hl:s.length=512)(h:rdB s=some (n,last)):Xy n=Qz s 64 (last-64)/\72<=last/\last<=512/\n.es.length=ub2 s 16/\(1<=ub2 s 16/\ub2 s 16<=4)/\NdW n:=by
 unfold rdB at h;split at h
 ·rename_i hc;obtain⟨h1,h2,h3,h4,h5,h6,h7,h8,h9⟩:=QeN om h;exact⟨h1,om,om,h6,hc,⟨h5,h8,om,h9⟩⟩
 ·cases h
theorem Qkf{s:List UInt8}{n:Nd}{last:Nat}(hl:s.length=512)(h:rdB s=some (n,last)):(Xy n).length=last-64:=by
 obtain⟨h1,h2,h3,_⟩:=Qba hl h;rw[h1,XJ om]
theorem Ql6{b:List UInt8}{num:Int}{n:Nd}{last:Nat}(hl:b.length=512)(ht:X2 b=false)(hn:0<=num/\num<4294967296)(h:rdB (Xa b)=some (n,last))(hlsn:ub4 (Xa b) 8<=2147483647) :
  Qak n num (ub4 (Xa b) 8:Int) (ub2 b 40:Int)=b ↔ (QgH (Xa b) num&&zer ((Xa b).drop last))=true:=by
 have ho:=Y6 hl;obtain⟨h1,h2,h3,h4,h5,h6⟩:=Qba ho h;have hc:=Qkf ho h;have hz:=Qls hl;have hu:=Qc9 b 40;have hN:(Qah n num (ub4 (Xa b) 8:Int)).length=512:=QaJ om
 have hiff:Qak n num (ub4 (Xa b) 8:Int) (ub2 b 40:Int)=b ↔ Qah n num (ub4 (Xa b) 8:Int)=Xa b:=by
  constructor
  ·intro hh;have:=congrArg Xa hh;unfold Qak at this
   rwa[QhU hN Qdv]at this
  ·intro hh;unfold Qak;rw[hh];exact Qol hl ht
 rw[hiff]
 have hs:Xa b=Qz (Xa b) 0 64++Xy n++(Xa b).drop last:=by
  rw[h1]
  have e1:Qz (Xa b) 0 64++Qz (Xa b) 64 (last-64)=(Xa b).take last:=by
   have:=XT (Xa b) 0 64 (last-64);rw[Nat.zero_add]at this;rw[<-this,show 64+(last-64)=last by omega];simp[Qz]
  rw[e1,List.take_append_drop]
 have hd:=Qrj (s:=Xa b) (num:=num) (c:=n.es.length) om h4 hn hz hlsn;have l64:(Qz (Xa b) 0 64).length=64:=XJ om;have hdl:((Xa b).drop last).length=448-(Xy n).length:=by rw[List.length_drop,ho,hc];omega
 constructor
 ·intro hh;rw[hs]at hh;have hh':hdB num (ub4 (Qz (Xa b) 0 64++Xy n++(Xa b).drop last) 8:Int) n.es.length++Xy n++List.replicate (448-(Xy n).length) 0=Qz (Xa b) 0 64++Xy n++(Xa b).drop last:=hh;rw[<-hs]at hh';have hh2:hdB num (ub4 (Xa b) 8:Int) n.es.length++Xy n++List.replicate (448-(Xy n).length) 0=Qz (Xa b) 0 64++Xy n++(Xa b).drop last:=by rw[hh',<-hs]
  obtain⟨f1,f2⟩:=List.append_inj hh2 (by rw[List.length_append,List.length_append,l64];rfl);have f3:=List.append_cancel_right f1;rw[Bool.and_eq_true];refine⟨hd.1 f3,?_⟩;rw[<-f2];exact Qdk _
 ·intro hh;rw[Bool.and_eq_true]at hh;have f1:=hd.2 hh.1;have f2:=(Qbb _).1 hh.2;rw[hdl]at f2;unfold Qah;rw[f1,<-f2,<-hs]
theorem QkT{n:Nd}{num lsn usn:Int}(hn:NdW n)(h1:1<=n.es.length/\n.es.length<=4)(hc:(Xy n).length<=448)(hnum:1<=num/\num<=120)(hlsn:0<=lsn/\lsn<=2147483647)(hu:1<=usn/\usn<=65535):XN (Qak n num lsn usn) num=⟨n,lsn,usn,0⟩:=by
 have hN:=QaJ (n:=n) (num:=num) (lsn:=lsn) hc;have hL:(Qak n num lsn usn).length=512:=QbS hN;have hT:X2 (Qak n num lsn usn)=false:=Qoq hN om;have hO:Xa (Qak n num lsn usn)=Qah n num lsn:=QhU hN Qdv;have h40:(ub2 (Qak n num lsn usn) 40:Int)=usn:=QnD hN om;have hh:=QmP (n:=n) (num:=num) (lsn:=lsn)
 have e16:ub2 (Qah n num lsn) 16=n.es.length:=by
  rw[show(16:Nat)=0+16 from rfl,<-Qgy (show 16+1<64 by omega),hh];have f0:=Q9 (n.es.length:Int);have f1:=Q9 ((n.es.length:Int)/256);have a0:ub1 (hdB num lsn n.es.length) 16=(by8 (n.es.length:Int)).toNat:=rfl;have a1:ub1 (hdB num lsn n.es.length) 17=(by8 ((n.es.length:Int)/256)).toNat:=rfl;unfold ub2;rw[a0,a1];omega
 have e8:(ub4 (Qah n num lsn) 8:Int)=lsn:=by
  rw[show(8:Nat)=0+8 from rfl,<-Qlv (show 8+3<64 by omega),hh];have f4:=Q9 lsn;have f5:=Q9 (lsn/256);have f6:=Q9 (lsn/65536);have f7:=Q9 (lsn/16777216);have e:ub4 (hdB num lsn n.es.length) 8=(by8 lsn).toNat+(by8 (lsn/256)).toNat*256+((by8 (lsn/65536)).toNat+(by8 (lsn/16777216)).toNat*256)*65536:=rfl;rw[e];omega
 have hR:rdB (Qah n num lsn)=some (n,64+(Xy n).length):=by
  unfold rdB;rw[e16,if_pos h1];exact Qi7 hn om Qo0
 have hH:QgH (Qah n num lsn) num=true:=by
  refine(Qrj (c:=n.es.length) om e16.symm om Qdv om).1 ?_;rw[e8,hh]
 unfold XN;rw[if_pos hL,if_pos hnum,hT,hO,hR];simp only[Bool.false_eq_true,if_false,hH,Qr0,Qdk,Bool.and_self,if_true,e8,h40]
end Gx
