/- Contracts of the program's functions, proved by walking them with the rules of the Gx texts; without conditions beyond those that each contract names. -/
import Derived.WalkKit
import Derived.Deep.Draws
import Derived.TacticsIn
import Derived.OrdersIn
import Derived.RangeFuncLeaves
import Derived.Lib.Strings
import Derived.Laws.BytesArg
import Derived.Laws.IdiomStrings
import Derived.Deep.Quiet
import Derived.Laws.StructEq
import Derived.ChangeKeysEq
import Derived.Laws.Externs
import Derived.Lib.Overlaps
import Derived.Carry
import Derived.Laws.Small
import Derived.Lib.Bytealg
import Derived.Lib.Builder
import Derived.Laws.Pointers
import Derived.RangeFuncRecord
import Derived.Test.YtldegbfcaelpdaaGreatDoorProg
import Derived.KernelRfl
import Derived.ProofKit
import Derived.OpenShut
import Derived.Lib.UnsafeStr
import Derived.LaidEqlPtr
import Derived.Shelf.Strings.Builder1
import Derived.Shelf.Strings.Builder2
import Derived.Shelf.Strings.Trim
import Derived.Shelf.Small.Utf8
import Derived.Shelf.Small.Strs
import Derived.Shelf.Strings.BuilderF
import Derived.Shelf.Strings.BuilderK
import Derived.Shelf.Strings.Builder2Cap
import Derived.Shelf.Strings.Search1
import Derived.Shelf.Strings.Prefix
import Derived.Shelf.Unicode.Decode
import Derived.Shelf.Strings.Runes
import Derived.Shelf.Strings.AsciiSet
import Derived.Shelf.Bits.Mul64
import Derived.Shelf.Strings.Repeat
import Derived.Shelf.Unicode.DecodeSlow
import Derived.Shelf.Unicode.DecodeAny
import Derived.Shelf.Unicode.DecodeLast
import Derived.Shelf.Slices.Turned
import Derived.Shelf.Slices.Reverse
import Derived.Ground.Names2Prog
import Derived.Shelf.Slices.Clone
import Derived.Shelf.Slices.Cells
import Derived.Ground.SlgnProg
import Derived.Shelf.SlicesE.Reverse
import Derived.Shelf.SlicesE.Clone
import Derived.Test.YtldegbfcaelpdaaGreatDoorTie
import Derived.Test.YtldegbfcaelpdaaGreatDoorCards
import Derived.SevenTiedAt
import Derived.LaidMore
import Derived.Lay
import Derived.Stop.Joined
import Derived.Test.YtldegbfcaelpdaaGreatDoorP1
set_option linter.unusedSimpArgs false
set_option maxHeartbeats 1000000
set_option linter.unusedVariables false
set_option linter.unusedSectionVars false
set_option linter.unnecessarySimpa false
namespace Go.Proofs
open Go Go.RowKit Gx
attribute [local irreducible] Go.Calls Gx.S Gx.O Gx.D Gx.OpP Gx.OpQ Gx.OpH
set_option maxRecDepth 20000
theorem QcC:QC Tryz.prog 113=true:=by kernel_rfl
theorem c29(w:World)(a b:Option Addr)(c d:Nat)(l m:List Int)(hs:Rw inV 1 w [] a l)(ht:Rw inV 1 w [] b m)(hl:l.length<=100000)(hm:m.length<=100000):CR 29 #[.slice a l.length c,.slice b m.length d] w (.bool (decide (l=m))):=by
 refine eN2 Tryz.func29 Tryz.ntmps29 ?_
 refine Qb9 ?_
 refine sCd rfl (λh1=>?_) λh1=>?_
 ·have hn9:l≠m:=λe=>by have hq:=h1;rw[e]at hq;simp at hq
  refine aU4 ?_
  exact rV (h:=by rw[decide_eq_false hn9];rfl)
 have hlm:l.length=m.length:=by have hq:=h1;omega
 refine aU7 ?_
 refine Qp (α:=Nat) [4,5,11,12,13,14,15,16,17,18,19,20,21,22,23,24,25] (λk=>[(5,.int .i64 (k:Int))]) (λ_=>HS w [] []) (λk=>k<=l.length/\∀j,j<k->nth l j=nth m j) (λk=>l.length-k) 0 ⟨Nat.zero_le _,λj h=>absurd h (Nat.not_lt_zero j)⟩ aSx (λw h=>h.ent aEt) (λk hx=>?_)
 obtain⟨hk1,hk3⟩:=hx
 refine aU8 ?_
 refine sCd rfl (λh2=>?_) λh2=>?_
 ·have hk:k<l.length:=by omega
  have hk2:k<m.length:=om
  refine aU4 ?_
  refine Qq [] mixed ?_
  refine dP 0 ?_
  refine dP 1 ?_
  refine dV 2 rfl (Qa rfl rfl rfl QU (k) om om (Rw.some hs om)) (dQ 3 [] rfl (Qb rfl rfl Q3 ((hs.rdj 0 om rfl))) (dP 4 ?_))
  refine dP 5 ?_
  refine dV 6 rfl (Qa rfl rfl rfl QU (k) om om (Rw.some ht om)) (dQ 7 [] rfl (Qb rfl rfl Q3 ((ht.rdj 0 om rfl))) (dP 8 ?_))
  refine dNi ?_
  refine sCd rfl (λh3=>?_) λh3=>?_
  ·have hn9:l≠m:=λe=>by have hq:=h3;rw[e]at hq;simp at hq
   refine aU4 ?_
   exact rV (h:=by rw[decide_eq_false hn9];rfl)
  have he9:nth l k=nth m k:=by have hq:=h3;exact hq
  refine aT5 ?_
  refine aU2 ?_
  exact sBk (k+1) om ⟨om,λj hj=>(Nat.lt_or_ge j k).elim (hk3 j) (λh9=>by obtain rfl:j=k:=om;exact he9)⟩
 have hl9:l=m:=Qfu hlm λj hj=>hk3 j om
 refine Qk rfl ?_
 refine aU4 ?_
 exact rV (h:=by rw[decide_eq_true hl9];rfl)
theorem c66(w:World)(j:Nat)(mo rm:Int)(a:Option Addr)(cap:Nat)(L:List LNd)(i:Nat)(key:List UInt8)(hj:j<=3)(hi:i<L.length)(hs:Nt w [] a L)(hl:L.length<=1000)(hel:(nth L i).es.length<=1000)(hK:∀y∈(nth L i).es,QE (j:Int) y.key=true/\y.key.length<=1000000)(hk:QE (j:Int) key=true)(hkl:key.length<=1000000):CR 66 #[.agg #[.int .i64 (j:Int),.int .i64 mo,.int .i64 rm,.slice a L.length cap],.int .i64 (i:Int),.string (bs key)] w (.tuple #[.int .i64 ((plc (j:Int) (nth L i).es key):Int),.bool (fnd (j:Int) (nth L i).es key)]):=by
 refine eN3 Tryz.func66 Tryz.ntmps66 ?_
 refine aU2 ?_
 refine oBx λb1 _=>?_
 refine aU8 ?_
 refine o_p (Qa rfl rfl rfl Q2 (i) om om (Rw.some hs.1 om)) rfl (aU ?_)
 refine o_q (Qb rfl rfl Qao ((hs.1.rdj 1 hi rfl))) rfl (aU8 ?_)
 refine Qp (α:=Nat) [9,16,17,18,19,20,21,22,23,24,25,26,27,28,29,30,31,32,33] (λk=>[(9,.int .i64 (k:Int))]) (λ_=>HS w [] [.blk b1 24 4 [.int .i64 (j:Int),.int .i64 mo,.int .i64 rm,.slice a L.length cap]]) (λk=>k<=(nth L i).es.length/\∀q,q<k->QI (j:Int) (nth (nth L i).es q).key key<0) (λk=>(nth L i).es.length-k) 0 ⟨Nat.zero_le _,λj h=>absurd h (Nat.not_lt_zero j)⟩ aSx (λw h=>h.ent aEt) (λk hx=>?_)
 obtain⟨hk1,hk3⟩:=hx
 refine aU2 ?_
 refine Q7 (α:=Bool) [16,17,18,19,20,21,22,23,24,25,26,27,28,29,30,31] (λx=>[(31,.bool x)]) (λ_=>HS w [] [.blk b1 24 4 [.int .i64 (j:Int),.int .i64 mo,.int .i64 rm,.slice a L.length cap]]) (λx=>x=true ↔ (k<(nth L i).es.length/\QI (j:Int) (nth (nth L i).es k).key key<0)) ?_ ?_
 ·skip
  refine Qq [] mixed ?_
  refine dP 0 ?_
  refine dP 1 ?_
  refine dV 2 rfl (Qx rfl rfl Tryz.underlying85) (dP 3 ?_)
  refine dP 4 ?_
  apply Xg 20
  ·exact rfl
  ·intro hg2
   have hs3:=hg2;try simp only[dT]at hs3
   refine dFo 5 20 hg2 ?_
   refine dQo 6 20 [] hg2 rfl rfl rfl (XY rfl rfl Q3 aPk rfl) ?_
   refine dPo 7 20 hg2 ?_
   refine dPo 8 20 hg2 ?_
   refine dVo 9 20 hg2 rfl rfl rfl (Qa rfl rfl rfl Xi (k) om om (Rw.some (hs.es hi) om)) ?_
   refine dFo 10 20 hg2 ?_
   refine dQo 11 20 [] hg2 rfl rfl rfl (Qb rfl rfl X5 (((hs.es hi).rdj 0 om rfl))) ?_
   refine dPo 12 20 hg2 ?_
   refine dQo 13 20 [] hg2 rfl rfl rfl (Qe rfl QcC rfl (λw1 h1=>Qjb w1 j (nth (nth L i).es k).key key hj (hK _ (QA om)).1 hk (hK _ (QA om)).2 hkl)) ?_
   refine dPo 14 20 hg2 ?_
   refine dV 15 rfl (QZ rfl rfl hg2 rfl) (dNi ?_)
   exact Qf (decide (QI (j:Int) (nth (nth L i).es k).key key<0)) (by rw[decide_eq_true_eq];omega) aSx (λw h=>h.ent aEt)
  intro hg4
  have hs5:=hg4;try simp only[dN]at hs5
  refine dOf 5 20 hg4 ?_
  refine dOf 6 20 hg4 ?_
  refine dOf 7 20 hg4 ?_
  refine dOf 8 20 hg4 ?_
  refine dOf 9 20 hg4 ?_
  refine dOf 10 20 hg4 ?_
  refine dOf 11 20 hg4 ?_
  refine dOf 12 20 hg4 ?_
  refine dOf 13 20 hg4 ?_
  refine dOf 14 20 hg4 ?_
  refine dV 15 rfl (QN rfl rfl hg4 rfl) (dNi ?_)
  exact Qf false (by constructor<;>intro h9<;>first|(cases h9;done)|omega) aSx (λw h=>h.ent aEt)
 intro x hx
 refine sCd rfl (λh6=>?_) λh6=>?_
 ·obtain⟨hk5,hk6⟩:=hx.1 (by assumption)
  refine aT5 ?_
  refine aU3 ?_
  exact sBk (k+1) om ⟨om,λq hq=>(Nat.lt_or_ge q k).elim (hk3 q) (λh9=>by obtain rfl:q=k:=om;exact hk6)⟩
 have hno:¬(k<(nth L i).es.length/\QI (j:Int) (nth (nth L i).es k).key key<0):=λh9=>by have h8:=hx.2 h9;simp_all
 have hpk:(plc (j:Int) (nth L i).es key)=k:=Qoa hk1 hk3 hno
 refine Qk rfl ?_
 refine aU ?_
 refine Qq [] mixed ?_
 refine dP 0 ?_
 refine dP 1 ?_
 refine dP 2 ?_
 refine dV 3 rfl (Qx rfl rfl Tryz.underlying85) (dP 4 ?_)
 refine dP 5 ?_
 apply Xg 39
 ·exact rfl
 ·intro hg7
  have hs8:=hg7;try simp only[dT]at hs8
  refine dFo 6 39 hg7 ?_
  refine dQo 7 39 [] hg7 rfl rfl rfl (XY rfl rfl Q3 aPk rfl) ?_
  refine dPo 8 39 hg7 ?_
  refine dPo 9 39 hg7 ?_
  refine dVo 10 39 hg7 rfl rfl rfl (Qa rfl rfl rfl Xi (k) om om (Rw.some (hs.es hi) om)) ?_
  refine dFo 11 39 hg7 ?_
  refine dQo 12 39 [] hg7 rfl rfl rfl (Qb rfl rfl X5 (((hs.es hi).rdj 0 om rfl))) ?_
  refine dPo 13 39 hg7 ?_
  refine dQo 14 39 [] hg7 rfl rfl rfl (Qe rfl QcC rfl (λw1 h1=>Qjb w1 j (nth (nth L i).es k).key key hj (hK _ (QA om)).1 hk (hK _ (QA om)).2 hkl)) ?_
  refine dPo 15 39 hg7 ?_
  refine dV 16 rfl (QZ rfl rfl hg7 rfl) (dP 17 ?_)
  refine dP 18 ?_
  refine dNi ?_
  exact Qg (rs:=[.tmp 6,.tmp 7]) rfl (.tmp rfl (.tmp rfl (.nil))) (λw' h'=>⟨by simp only[Qw,fnd];rw[hpk];first|(rw[decide_eq_true (show k<(nth L i).es.length by omega)];rfl)|(rw[decide_eq_false (show¬k<(nth L i).es.length by omega)];rfl),h'.below⟩)
 intro hg9
 have hs10:=hg9;try simp only[dN]at hs10
 refine dOf 6 39 hg9 ?_
 refine dOf 7 39 hg9 ?_
 refine dOf 8 39 hg9 ?_
 refine dOf 9 39 hg9 ?_
 refine dOf 10 39 hg9 ?_
 refine dOf 11 39 hg9 ?_
 refine dOf 12 39 hg9 ?_
 refine dOf 13 39 hg9 ?_
 refine dOf 14 39 hg9 ?_
 refine dOf 15 39 hg9 ?_
 refine dV 16 rfl (QN rfl rfl hg9 rfl) (dP 17 ?_)
 refine dP 18 ?_
 refine dNi ?_
 exact Qg (rs:=[.tmp 6,.tmp 7]) rfl (.tmp rfl (.tmp rfl (.nil))) (λw' h'=>⟨by simp only[Qw,fnd];rw[hpk];first|(rw[decide_eq_true (show k<(nth L i).es.length by omega)];rfl)|(rw[decide_eq_false (show¬k<(nth L i).es.length by omega)];rfl),h'.below⟩)
instance:TFn Tryz.prog 66:=⟨by kernel_rfl⟩
theorem c65(w:World)(j:Nat)(mo rm:Int)(a:Option Addr)(cap:Nat)(L:List LNd)(key:List UInt8)(hj:j<=3)(h0:0<L.length)(hB:Bd (pln L))(hT:TOk (j:Int) (pln L))(hs:Nt w [] a L)(hk:QE (j:Int) key=true)(hkl:key.length<=1000000):CE 65 #[.agg #[.int .i64 (j:Int),.int .i64 mo,.int .i64 rm,.slice a L.length cap],.string (bs key)] w [] (λg:Option Addr×Nat=>.tuple #[.slice g.1 (Qu (j:Int) (pln L) key).1.length g.2,.bool (Qu (j:Int) (pln L) key).2.2]) (λg=>True) λg=>[.own (.slice g.1 ((Qu (j:Int) (pln L) key).1).length g.2) 3 1 ((Qu (j:Int) (pln L) key).1).length (((Qu (j:Int) (pln L) key).1).map λi:Nat=>Value.int .i64 (i:Int))]:=by
 have hK:∀i,i<L.length->∀y∈(nth L i).es,QE (j:Int) y.key=true/\y.key.length<=1000000:=λi hi y hy=>Qa4 hT i (by rw[Qd];exact hi) y (by rw[QB hi];exact hy)
 refine eN2 Tryz.func65 Tryz.ntmps65 ?_
 refine aU2 ?_
 refine oBx λb1 _=>?_
 refine aU9 ?_
 refine o_h (Qc (cs:=[_]) rfl rfl QU YX rfl rfl rfl) rfl (λb2 _=>aU3 ?_)
 refine Qp (α:=(Option Addr×Nat)×List Nat×Nat×Nat) [4,5,6,7,8,9,11,12,13,14,15,16,17,18,19,20,21,22,23,24,25,26,27,28,29,30,31,32,33,34,35,36,37,38,39,40,41,42,43] (λx=>[(7,.slice x.1.1 (x.2.1++[x.2.2.1]).length x.1.2),(6,.int .i64 (x.2.2.1:Int))]) (λx=>HS w [] [.own (.slice x.1.1 (x.2.1++[x.2.2.1]).length x.1.2) 3 1 (x.2.1++[x.2.2.1]).length ((x.2.1++[x.2.2.1]).map λi:Nat=>Value.int .i64 (i:Int)),.blk b1 24 4 [.int .i64 (j:Int),.int .i64 mo,.int .i64 rm,.slice a L.length cap]]) (λx=>x.2.2.1<L.length/\x.2.1.length+x.2.2.2=L.length/\Gx.Way (pln L) (x.2.2.1::x.2.1.reverse)/\(Qu (j:Int) (pln L) key)=(x.2.1++(Zp (j:Int) (pln L) key x.2.2.2 x.2.2.1).1,(Zp (j:Int) (pln L) key x.2.2.2 x.2.2.1).2)) (λx=>x.2.2.2) ((some ⟨b2,0,none⟩,1),[],0,L.length) ⟨h0,by simp,rfl,by rw[Qu,Qd];rfl⟩ aSx (λw h=>(HS.own_shut (t:=3) (sz:=1) (n:=1) (cap:=1) (h.pick (A:=.blk b2 3 (1*1) [.int .i64 0]) aPk) rfl (by decide) (by decide)).ent aEt) (λ⟨⟨ga,gc⟩,P,i,f⟩hx=>?_)
 dsimp only
 obtain⟨hi,hlen,hway,hpath⟩:=hx
 simp only[]at hi hlen hway hpath
 have hwl:=XD hT (by rw[Qd];exact h0) hway
 simp only[List.length_cons,List.length_reverse,Qd]at hwl
 obtain⟨f,rfl⟩:∃f9,f=f9+1:=⟨f-1,om⟩
 have hni:=QB hi
 have hle:=hB.len
 rw[Qd]at hle
 have hes9:=hB.es i (by rw[Qd];exact hi)
 have hcs9:=hB.cs i (by rw[Qd];exact hi)
 rw[hni]at hes9 hcs9
 have hPl:(P++[i]).length=P.length+1:=by simp
 refine aU6 ?_
 refine oCq rfl (λw1 h1=>c66 w1 j mo rm a cap L i key hj hi (hs.later h1.nil) om hes9 (hK i hi) hk hkl) (Y0 ?_)
 refine oOr 9 19 28 rfl
  (λhg3 _=>by
   refine aU7 ?_
   refine o_p (Qa rfl rfl rfl Q2 (i) om om (Rw.some hs.1 om)) rfl (aU3 ?_)
   refine o_q (Qb rfl rfl Ze ((hs.1.rdj 2 hi rfl))) rfl (aU4 ?_)
   exact oJf 9 28)
  (λhg5 _=>by
   refine aU8 ?_
   exact oJt 9 28) ?_
 refine aU ?_
 refine sCd rfl (λh7=>?_) λh7=>?_
 ·have hst:fnd (j:Int) (nth (pln L) i).es key=true\/(nth (pln L) i).cs.length=0:=by rw[hni];have hq:=h7;first|exact hq|(simp at hq;simpa[LNd.pl]using hq)
  refine aU7 ?_
  exact Qg (rs:=[.tmp 4,.tmp 5]) rfl (.tmp rfl (.tmp rfl (.nil))) (λw' h'=>⟨(ga,gc),by rw[hpath,Qa8 hst,hni];rfl,trivial,by rw[hpath,Qa8 hst];exact h'.ent aEt⟩)
 have hst:¬(fnd (j:Int) (nth (pln L) i).es key=true\/(nth (pln L) i).cs.length=0):=by rw[hni];have hq:=h7;first|exact hq|(simp at hq;simpa[LNd.pl]using hq)
 have hcl:(nth L i).cs.length=(nth L i).es.length+1:=by rcases hT.shape i (by rw[Qd];exact hi)with h9|h9;exact absurd (.inr h9) hst;rw[hni]at h9;exact h9
 have hple:=QbV (j:Int) key (nth L i).es
 have hpk:plc (j:Int) (nth L i).es key<(nth L i).cs.length:=om
 have hkid:=QaJ hT (by rw[Qd];exact hi) (i:=i) (k:=plc (j:Int) (nth L i).es key) (by rw[hni];exact hpk)
 rw[hni,Qd]at hkid
 simp only[LNd.pl]at hkid
 have hway2:=ZC hway (by rw[Qd];exact hi) (k:=plc (j:Int) (nth L i).es key) (by rw[hni];exact hpk) (by rw[hni];simp only[LNd.pl];omega)
 rw[hni]at hway2
 simp only[LNd.pl]at hway2
 refine aU6 ?_
 refine o_p (Qa rfl rfl rfl Q2 (i) om om (Rw.some hs.1 om)) rfl (aU ?_)
 refine o_q (Qb rfl rfl Ze ((hs.1.rdj 2 hi rfl))) rfl (aU ?_)
 refine o_p (Qa rfl rfl rfl QU (plc (j:Int) (nth L i).es key) om om (Rw.some (hs.cs hi) om)) rfl (o_q (Qb rfl rfl Q3 (((hs.cs hi).rdj 0 (i:=plc (j:Int) (nth L i).es key) hpk rfl))) rfl (aU5 ?_))
 refine o_h (Qc (cs:=[_]) rfl rfl QU YX rfl rfl rfl) rfl (λb8 _=>o_h (Qz [_] rfl rfl rfl QU Tryz.underlying65 YX rfl aPk (Q5 aPk) rfl (by intro u hu;simp only[List.mem_cons,List.mem_nil_iff,or_false]at hu;subst hu;rfl) om (by simp only[maxLen];omega)) rfl (λb9 _=>aU3 ?_))
 exact QH ((b9.1,b9.2),P++[i],((nth L i).cs.getD (plc (j:Int) (nth L i).es key) 0).toNat,f) (by(try simp only[]);omega) ⟨by simp only[];omega,by simp only[List.length_append,List.length_singleton];omega,by simp only[List.reverse_append,List.reverse_singleton,List.singleton_append];exact hway2,by simp only[];rw[hpath,QeT hst];simp[hni,LNd.pl]⟩ (by simp only[List.length_append (bs:=[((nth L i).cs.getD (plc (j:Int) (nth L i).es key) 0).toNat]),List.length_singleton];rw[Int.toNat_of_nonneg om];exact aSx) (λw h=>by have h2:=h;simp only[List.length_append (bs:=[((nth L i).cs.getD (plc (j:Int) (nth L i).es key) 0).toNat]),List.length_singleton,List.map_append (l₂:=[((nth L i).cs.getD (plc (j:Int) (nth L i).es key) 0).toNat]),List.map_cons,List.map_nil];rw[Int.toNat_of_nonneg om];exact h2.ent aEt)
end Go.Proofs
namespace Gx
open Go Go.RowKit
def QW(n:Nat)(S:List Int):List Value:=(List.range n).map λk=>Value.bool (decide (((k:Nat):Int)∈S))
theorem ZQ(n:Nat)(S:List Int):(QW n S).length=n:=by simp[QW]
theorem ZI{n k:Nat}{S:List Int}(h:k<n):(QW n S)[k]?=some (.bool (decide (((k:Nat):Int)∈S))):=by
 unfold QW;rw[List.getElem?_map,List.getElem?_range h];rfl
theorem QgU{n k:Nat}{S:List Int}(h:k<n):QK (QW n S) k [.bool true]=QW n (((k:Nat):Int)::S):=by
 apply List.ext_getElem?;intro i;show((QW n S).set k (.bool true))[i]?=_;rw[List.getElem?_set]
 by_cases hi:i<n
 ·rw[ZI hi]
  by_cases e:k=i
  ·subst e;rw[if_pos rfl,if_pos (by rw[ZQ];exact h),ZI h,decide_eq_true (List.mem_cons_self ..)]
  ·rw[if_neg e,ZI hi];congr 2;have hne:((i:Nat):Int)≠((k:Nat):Int):=by omega
   simp[List.mem_cons,hne]
 ·rw[if_neg om,List.getElem?_eq_none (by rw[ZQ];omega),List.getElem?_eq_none (by rw[ZQ];omega)]
theorem QjQ{n:Nat}{c:Int}{S:List Int}(h:c∈S):QW n (c::S)=QW n S:=by
 unfold QW;apply List.map_congr_left;intro k _;congr 1
 by_cases e:((k:Nat):Int)∈S
 ·rw[decide_eq_true e,decide_eq_true (List.mem_cons_of_mem _ e)]
 ·rw[decide_eq_false e,decide_eq_false (λh2=>by
   rcases List.mem_cons.1 h2 with h3|h3
   ·exact e (h3▸h)
   ·exact e h3)]
theorem Ql7{t:Tre}{i:Nat}{S:List Int}(h:¬(nth t.ns i).us=true):Xp t i S=if(0<i/\i+1<t.ns.length)/\(nth t.ns i).es.length+(nth t.ns i).cs.length=0 then(0,S)else(3,S):=by
 unfold Xp;simp only[];rw[if_neg h]
section
variable{t:Tre}{i:Nat}{S:List Int}{n:Nd}
theorem Qms(hn:nth t.ns i=n)(hu:n.us=true)(h:¬(n.es.length:Int)<=X4 t.mo t.rm i):Xp t i S=(16,S):=by
 subst hn;unfold Xp;simp only[];rw[if_pos hu,if_neg h]
theorem Qlw(hn:nth t.ns i=n)(hu:n.us=true)(h:(n.es.length:Int)<=X4 t.mo t.rm i)(h2:¬(n.cs.length=0\/n.cs.length=n.es.length+1)):Xp t i S=(10,S):=by
 subst hn;unfold Xp;simp only[];rw[if_pos hu,if_pos h,if_neg h2]
theorem Qmx(hn:nth t.ns i=n)(hu:n.us=true)(h:(n.es.length:Int)<=X4 t.mo t.rm i)(h2:n.cs.length=0\/n.cs.length=n.es.length+1)(h3:¬YP t.co n.es=0):Xp t i S=(YP t.co n.es,S):=by
 subst hn;unfold Xp;simp only[];rw[if_pos hu,if_pos h,if_pos h2,if_neg h3]
theorem QhZ(hn:nth t.ns i=n)(hu:n.us=true)(h:(n.es.length:Int)<=X4 t.mo t.rm i)(h2:n.cs.length=0\/n.cs.length=n.es.length+1)(h3:YP t.co n.es=0)(h4:¬(XA t.ns n.cs S).1=0):Xp t i S=XA t.ns n.cs S:=by
 subst hn;unfold Xp;simp only[];rw[if_pos hu,if_pos h,if_pos h2,if_pos h3,if_neg h4]
theorem QlZ(hn:nth t.ns i=n)(hu:n.us=true)(h:(n.es.length:Int)<=X4 t.mo t.rm i)(h2:n.cs.length=0\/n.cs.length=n.es.length+1)(h3:YP t.co n.es=0)(h4:(XA t.ns n.cs S).1=0):Xp t i S=(ZU t.co n.es,(XA t.ns n.cs S).2):=by
 subst hn;unfold Xp;simp only[];rw[if_pos hu,if_pos h,if_pos h2,if_pos h3,if_pos h4]
end
theorem eachF_at{es:List Int}{k:Nat}(hk:k<es.length)(h:∀j,j<k->es.getD j 0=0)(h2:es.getD k 0≠0):QM es 0=((k:Int),es.getD k 0):=by
 have key:∀i,i<=k->QM es 0=QM (es.drop i) i:=by
  intro i
  induction i with
  | zero=>intro _;rfl
  | succ i ih=>
   intro hi;rw[ih om,Xh om,if_pos (h i om)]
 rw[key k (Nat.le_refl _),Xh hk,if_neg h2]
theorem eachF_all{es:List Int}(h:∀j,j<es.length->es.getD j 0=0):QM es 0=(0,0):=by
 have key:∀i,i<=es.length->QM es 0=QM (es.drop i) i:=by
  intro i
  induction i with
  | zero=>intro _;rfl
  | succ i ih=>
   intro hi;rw[ih om,Xh om,if_pos (h i om)]
 rw[key _ (Nat.le_refl _),List.drop_length];rfl
theorem QjM{co:Int}{es:List TEnt}{k:Nat}(hk:k<es.length)(h1:∀q,q<k->Yj co (nth es q)=0)(h2:¬Yj co (nth es k)=0):YP co es=Yj co (nth es k):=by
 unfold YP;rw[eachF_at (es:=es.map (Yj co)) (k:=k) (by rw[List.length_map];exact hk) (λq hq=>by rw[QaU om];exact h1 q hq) (by rw[QaU hk];exact h2),QaU hk]
theorem Qk6{co:Int}{es:List TEnt}(h1:∀q,q<es.length->Yj co (nth es q)=0):YP co es=0:=by
 unfold YP;rw[eachF_all (λq hq=>by rw[List.length_map]at hq;rw[QaU hq];exact h1 q hq)]
theorem Qll{co:Int}{es:List TEnt}{k:Nat}(hk:k<es.length)(h1:∀q,q<k->ZO co es q=0)(h2:¬ZO co es k=0):ZU co es=ZO co es k:=by
 unfold ZU;rw[eachF_at (es:=(List.range es.length).map (ZO co es)) (k:=k) (by simpa using hk) (λq hq=>by rw[QaI om];exact h1 q hq) (by rw[QaI hk];exact h2),QaI hk]
theorem Qju{co:Int}{es:List TEnt}(h1:∀q,q<es.length->ZO co es q=0):ZU co es=0:=by
 unfold ZU;rw[eachF_all (λq hq=>by rw[List.length_map,List.length_range]at hq;rw[QaI hq];exact h1 q hq)]
end Gx
namespace Go.Proofs
open Go Go.RowKit Gx
attribute [local irreducible] Go.Calls Gx.S Gx.O Gx.D Gx.OpP Gx.OpQ Gx.OpH
set_option maxRecDepth 20000
theorem Qn9:QC Tryz.prog 151=true:=by kernel_rfl
theorem c106(w:World)(j:Nat)(mo rm:Int)(a:Option Addr)(cap:Nat)(L:List LNd)(i sb scap tot:Nat)(S:List Int)(hw:HS w (fps [.blk sb 4 tot (QW L.length S)]) [.blk sb 4 tot (QW L.length S)] w)(hs:Nt w (fps [.blk sb 4 tot (QW L.length S)]) a L)(hj:j<=3)(hi:i<L.length)(hl:L.length<=1000)(hel:(nth L i).es.length<=1000)(hcl:(nth L i).cs.length<=1000)(hK:∀x∈(nth L i).es,x.key.length<=1000000):CE 106 #[.agg #[.int .i64 (j:Int),.int .i64 mo,.int .i64 rm,.slice a L.length cap],.int .i64 (i:Int),.slice (some ⟨sb,0,none⟩) L.length scap] w (fps [.blk sb 4 tot (QW L.length S)]) (λg:Unit=>.int .i64 (Xp (⟨(j:Int),mo,rm,pln L⟩:Tre) i S).1) (λg=>True) λg=>[.blk sb 4 tot (QW L.length (Xp (⟨(j:Int),mo,rm,pln L⟩:Tre) i S).2)]:=by
 have hNI:=QB hi
 have hnl:(pln L).length=L.length:=Qd L
 refine eW3 Tryz.func106 Tryz.ntmps106 hw ?_
 refine aU2 ?_
 refine oBx λb1 _=>?_
 refine aU7 ?_
 refine o_p (Qa rfl rfl rfl Q2 (i) om om (Rw.some hs.1 om)) rfl (o_q (Qt _ rfl rfl Qaq rfl (Rw.rd hs.1 hi)) rfl (oAl (λb2 _=>?_) YS))
 refine aU9 ?_
 refine sCd rfl (λh3=>?_) λh3=>?_
 ·have hu9:¬(nth L i).us=true:=by have hq:=h3;simp[hq]
  have hun:=Ql7 (t:=(⟨(j:Int),mo,rm,pln L⟩:Tre)) (S:=S) (i:=i) (by rw[show((⟨(j:Int),mo,rm,pln L⟩:Tre)).ns=pln L from rfl,hNI];exact hu9)
  rw[show((⟨(j:Int),mo,rm,pln L⟩:Tre)).ns=pln L from rfl,hNI,hnl]at hun
  refine aU6 ?_
  refine oOr 7 24 31 rfl
   (λhg4 _=>by
    refine aT4 ?_
    refine aU8 ?_
    exact oJf 7 31)
   (λhg6 _=>by
    refine aU6 ?_
    exact oJt 7 31) ?_
  refine aU ?_
  refine oOr 5 32 37 rfl
   (λhg8 _=>by
    refine aU8 ?_
    exact oJf 5 37)
   (λhg10 _=>by
    refine aU4 ?_
    exact oJt 5 37) ?_
  refine aU ?_
  refine oOr 5 38 43 rfl
   (λhg12 _=>by
    refine aU8 ?_
    exact oJf 5 43)
   (λhg14 _=>by
    refine aU4 ?_
    exact oJt 5 43) ?_
  refine aU ?_
  refine sCd rfl (λh16=>?_) λh16=>?_
  ·have hn9:¬((0<i/\i+1<L.length)/\(nth L i).es.length+(nth L i).cs.length=0):=by have hq:=h16;omega
   have hun2:(Xp (⟨(j:Int),mo,rm,pln L⟩:Tre) i S)=(3,S):=by rw[hun];exact if_neg hn9
   refine aU4 ?_
   exact rT rfl rfl (λw' h'=>⟨(),by rw[hun2];rfl,trivial,by rw[hun2];exact h'.ent aEt⟩)
  have hn9:(0<i/\i+1<L.length)/\(nth L i).es.length+(nth L i).cs.length=0:=by have hq:=h16;omega
  have hun2:(Xp (⟨(j:Int),mo,rm,pln L⟩:Tre) i S)=(0,S):=by rw[hun];exact if_pos hn9
  refine aU5 ?_
  exact rT rfl rfl (λw' h'=>⟨(),by rw[hun2];rfl,trivial,by rw[hun2];exact h'.ent aEt⟩)
 have hu9:(nth L i).us=true:=by have hq:=h3;simpa using hq
 refine Qb9 ?_
 refine Qi (L':=[(2,_),(3,_),(6,_),(7,_),(8,_),(47,_)]) aSx (λ_ h=>h) ?_
 refine Xn (α:=Unit) [8,48,49] (λ_=>[(8,.int .i64 (X4 mo rm i))]) (λ_=>True) ?_ ?_
 ·skip
  refine sCd rfl (λh17=>?_) λh17=>?_
  ·have hi0:i=0:=by have hq:=h17;omega
   refine aU5 ?_
   exact Qf () trivial (by rw[show X4 mo rm i=rm from if_pos hi0];exact aSx) (λw h=>h)
  have hi0:¬i=0:=by have hq:=h17;omega
  refine aU ?_
  exact Qf () trivial (by rw[show X4 mo rm i=mo from if_neg hi0];exact aSx) (λw h=>h)
 intro _ _
 refine aU9 ?_
 refine sCd rfl (λh18=>?_) λh18=>?_
 ·have h16:(Xp (⟨(j:Int),mo,rm,pln L⟩:Tre) i S)=(16,S):=Qms (t:=(⟨(j:Int),mo,rm,pln L⟩:Tre)) hNI hu9 (by show¬((nth L i).es.length:Int)<=X4 mo rm i;have hq:=h18;omega)
  refine aU4 ?_
  exact rT rfl rfl (λw' h'=>⟨(),by rw[h16];rfl,trivial,by rw[h16];exact h'.ent aEt⟩)
 have hM9:((nth L i).es.length:Int)<=X4 mo rm i:=by have hq:=h18;omega
 refine aU9 ?_
 refine QJ 9 59 68 rfl
  (λhg19 _=>by
   refine aT14 ?_
   refine aU2 ?_
   exact oJt 9 68)
  (λhg21 _=>by
   refine aU8 ?_
   exact oJf 9 68) ?_
 refine aU ?_
 refine sCd rfl (λh23=>?_) λh23=>?_
 ·have h10:(Xp (⟨(j:Int),mo,rm,pln L⟩:Tre) i S)=(10,S):=Qlw (t:=(⟨(j:Int),mo,rm,pln L⟩:Tre)) hNI hu9 hM9 (by show¬((nth L i).cs.length=0\/(nth L i).cs.length=(nth L i).es.length+1);have hq:=h23;omega)
  refine aU4 ?_
  exact rT rfl rfl (λw' h'=>⟨(),by rw[h10];rfl,trivial,by rw[h10];exact h'.ent aEt⟩)
 have hS9:(nth L i).cs.length=0\/(nth L i).cs.length=(nth L i).es.length+1:=by have hq:=h23;omega
 refine aU7 ?_
 refine Qi (L':=[(2,_),(3,_),(6,_),(7,_),(9,_)]) aSx (λ_ h=>h) ?_
 refine Qp (α:=Nat) [6,9,10,69,70,71,72,73,74,75,76,77,78,79,80,81,82,83,84,85,86] (λk=>[(9,.int .i64 (k:Int))]) (λ_=>HS w (fps [.blk sb 4 tot (QW L.length S)]) [.blk sb 4 tot (QW L.length S),.blk b1 24 4 [.int .i64 (j:Int),.int .i64 mo,.int .i64 rm,.slice a L.length cap],.blk b2 87 3 (LNd.vals (nth L i))]) (λk=>k<=(nth L i).es.length/\∀q,q<k->Yj (j:Int) (nth (nth L i).es q)=0) (λk=>(nth L i).es.length-k) 0 ⟨Nat.zero_le _,λj h=>absurd h (Nat.not_lt_zero j)⟩ aSx (λw h=>h.ent aEt) (λk hx=>?_)
 obtain⟨hk1,hk3⟩:=hx
 refine aU9 ?_
 refine sCd rfl (λh24=>?_) λh24=>?_
 ·have hk5:k<(nth L i).es.length:=by omega
  refine aU4 ?_
  refine Qq [] mixed ?_
  refine dFa 0 ?_
  refine dLd 1 [] ?_
  refine dFa 2 ?_
  refine dLd 3 [] ?_
  refine dP 4 ?_
  refine dV 5 rfl (Qa rfl rfl rfl Xi (k) om om (Rw.some (hs.es hi) om)) (dQ 6 [] rfl (Qt _ rfl rfl YF rfl (Rw.rd (hs.es hi) hk5)) (dQ 7 [] rfl (Qe rfl Qn9 rfl (λw1 h1=>c151 w1 j (nth (nth L i).es k) hj (hK _ (QA hk5)))) (dP 8 ?_)))
  refine dNi ?_
  refine aU5 ?_
  refine sCd rfl (λh25=>?_) λh25=>?_
  ·have hz6:¬Yj (j:Int) (nth (nth L i).es k)=0:=h25
   have hEb:=QjM hk5 hk3 hz6
   have hEe:(Xp (⟨(j:Int),mo,rm,pln L⟩:Tre) i S)=(Yj (j:Int) (nth (nth L i).es k),S):=by rw[<-hEb];exact Qmx (t:=(⟨(j:Int),mo,rm,pln L⟩:Tre)) hNI hu9 hM9 hS9 (by show¬YP (j:Int) (nth L i).es=0;rw[hEb];exact hz6)
   refine aU5 ?_
   exact rT rfl rfl (λw' h'=>⟨(),by rw[hEe];rfl,trivial,by rw[hEe];exact h'.ent aEt⟩)
  have hz6:Yj (j:Int) (nth (nth L i).es k)=0:=by have hq:=h25;omega
  refine aT5 ?_
  refine aU2 ?_
  exact sBk (k+1) om ⟨om,λq hq=>(Nat.lt_or_ge q k).elim (hk3 q) (λh9=>by obtain rfl:q=k:=om;exact hz6)⟩
 have hEn:∀q,q<(nth L i).es.length->Yj (j:Int) (nth (nth L i).es q)=0:=λq hq=>hk3 q om
 have hE0:YP (j:Int) (nth L i).es=0:=Qk6 hEn
 refine Qk rfl ?_
 refine aU6 ?_
 refine Qp (α:=Nat×List Int) [6,11,12,87,88,89,90,91,92,93,94,95,96,97,98,99,100,101,102,103,104,105,106,107,108,109,110,111,112,113,114,115,116,117,118,119,120,121] (λy=>[(11,.int .i64 (y.1:Int))]) (λy=>HS w (fps [.blk sb 4 tot (QW L.length S)]) [.blk sb 4 tot (QW L.length y.2),.blk b1 24 4 [.int .i64 (j:Int),.int .i64 mo,.int .i64 rm,.slice a L.length cap],.blk b2 87 3 (LNd.vals (nth L i))]) (λy=>y.1<=(nth L i).cs.length/\(XA (pln L) (nth L i).cs S)=XA (pln L) ((nth L i).cs.drop y.1) y.2) (λy=>(nth L i).cs.length-y.1) (0,S) ⟨Nat.zero_le _,rfl⟩ aSx (λw h=>h.ent aEt) (λ⟨k,Sk⟩hx=>?_)
 dsimp only
 obtain⟨hk1,hk3⟩:=hx
 simp only[]at hk1 hk3
 refine aU9 ?_
 refine sCd rfl (λh26=>?_) λh26=>?_
 ·have hk5:k<(nth L i).cs.length:=by omega
  have hkd9:nth (nth L i).cs k=((nth L i).cs.getD k 0):=rfl
  have hst:=Qa2 hk5
  rw[hst,Z7]at hk3
  refine aU8 ?_
  refine o_p (Qa rfl rfl rfl QU (k) om om (Rw.some (hs.cs hi) om)) rfl (o_q (Qb rfl rfl Q3 (((hs.cs hi).rdj 0 hk5 rfl))) rfl (Qn (show _=Value.int .i64 ((nth L i).cs.getD k 0)from rfl) (aT10 ?_)))
  refine oCq rfl (λw1 h1=>c56 w1 _ _ _) (aU2 ?_)
  refine oOr 8 106 114 rfl
   (λhg27 _=>by
    refine aU7 ?_
    refine o_p (Qa rfl rfl rfl Q2 (((nth L i).cs.getD k 0).toNat) om om (Rw.some hs.1 om)) rfl (aU3 ?_)
    refine o_q (Qb rfl rfl QeN ((hs.1.rdj 0 (i:=((nth L i).cs.getD k 0).toNat) om rfl))) rfl (aU2 ?_)
    exact oJf 8 114)
   (λhg29 _=>by
    refine aU7 ?_
    exact oJt 8 114) ?_
  refine aU ?_
  refine sCd rfl (λh31=>?_) λh31=>?_
  ·have hko:¬Qby (pln L) ((nth L i).cs.getD k 0):=by rintro⟨h91,h92⟩;rw[hnl]at h91;rw[QB om]at h92;have hq:=h31;exact hq.elim (λhq=>om) (λhq=>by rw[show(nth L ((nth L i).cs.getD k 0).toNat).pl.us=(nth L ((nth L i).cs.getD k 0).toNat).us from rfl,hq]at h92;cases h92)
   have hk6e:(Xp (⟨(j:Int),mo,rm,pln L⟩:Tre) i S)=(6,Sk):=by have h8:QaN (pln L) ((nth L i).cs.getD k 0) Sk=6:=if_neg hko;have h7:Qb8 (pln L) ((nth L i).cs.getD k 0) Sk=Sk:=if_neg hko;rw[h8,h7,if_neg (by decide)]at hk3;rw[<-hk3];exact QhZ (t:=(⟨(j:Int),mo,rm,pln L⟩:Tre)) hNI hu9 hM9 hS9 hE0 (by show¬(XA (pln L) (nth L i).cs S).1=0;rw[hk3];show¬(6:Int)=0;decide)
   refine aU ?_
   refine Qi (L':=[(2,_),(3,_),(7,_),(9,_),(11,_),(12,_),(69,_),(70,_),(71,_),(72,_),(73,_)]) aSx (λ_ h=>h) ?_
   refine aU3 ?_
   exact rT rfl rfl (λw' h'=>⟨(),by rw[hk6e];rfl,trivial,by rw[hk6e];exact h'.ent aEt⟩)
  have hko:Qby (pln L) ((nth L i).cs.getD k 0):=by have hq:=h31;refine⟨by rw[hnl];exact hq.1,?_⟩;rw[QB om];exact hq.2
  have hko1:=hko.1
  rw[hnl]at hko1
  have hcv2:((nth L i).cs.getD k 0).toNat<L.length:=om
  have hcc:((((nth L i).cs.getD k 0).toNat:Nat):Int)=((nth L i).cs.getD k 0):=Int.toNat_of_nonneg om
  have h7:Qb8 (pln L) ((nth L i).cs.getD k 0) Sk=((nth L i).cs.getD k 0)::Sk:=if_pos hko
  rw[h7]at hk3
  have hsv:=QgU (n:=L.length) (S:=Sk) hcv2
  rw[hcc]at hsv
  refine aU3 ?_
  refine Qi (L':=[(2,_),(3,_),(7,_),(9,_),(11,_),(12,_),(69,_),(70,_),(71,_),(72,_),(73,_)]) aSx (λ_ h=>h) ?_
  refine aU3 ?_
  refine o_p (Qa rfl rfl rfl QbY (((nth L i).cs.getD k 0).toNat) om om rfl) rfl (Qn (show _=Value.pointer (some ⟨sb,((nth L i).cs.getD k 0).toNat,none⟩)from by rw[Nat.zero_add,Nat.mul_one]) (o_q (Qv rfl rfl QeN (λw h=>h.rd_blk (Mc:=[]) aPk (ZI hcv2) (by simp))) rfl (aU ?_)))
  refine sCd rfl (λh32=>?_) λh32=>?_
  ·have hmem:((nth L i).cs.getD k 0)∈Sk:=by have hq:=h32;rw[hcc]at hq;exact hq
   have h8:QaN (pln L) ((nth L i).cs.getD k 0) Sk=23:=by rw[QaN,if_pos hko,if_pos hmem]
   rw[h8,if_neg (by decide)]at hk3
   have hk23:(Xp (⟨(j:Int),mo,rm,pln L⟩:Tre) i S)=(23,((nth L i).cs.getD k 0)::Sk):=by rw[<-hk3];exact QhZ (t:=(⟨(j:Int),mo,rm,pln L⟩:Tre)) hNI hu9 hM9 hS9 hE0 (by show¬(XA (pln L) (nth L i).cs S).1=0;rw[hk3];show¬(23:Int)=0;decide)
   refine aU4 ?_
   exact rT rfl rfl (λw' h'=>⟨(),by rw[hk23];rfl,trivial,by rw[hk23,QjQ hmem];exact h'.ent aEt⟩)
  have hmem:¬((nth L i).cs.getD k 0)∈Sk:=by have hq:=h32;rw[hcc]at hq;exact hq
  have h8:QaN (pln L) ((nth L i).cs.getD k 0) Sk=0:=by rw[QaN,if_pos hko,if_neg hmem]
  rw[h8,if_pos rfl]at hk3
  have hk9:=hk3
  refine aU4 ?_
  refine o_p (Qa rfl rfl rfl QbY (((nth L i).cs.getD k 0).toNat) om om rfl) rfl (Qn (show _=Value.pointer (some ⟨sb,((nth L i).cs.getD k 0).toNat,none⟩)from by rw[Nat.zero_add,Nat.mul_one]) (Qf0 (Y2 rfl rfl rfl QeN rfl aPt (by rw[ZQ];show _+1<=_;omega) rfl) (λ_ _=>aT5 ?_)))
  refine aU2 ?_
  exact QH (k+1,((nth L i).cs.getD k 0)::Sk) (by(try simp only[]);omega) ⟨by(try simp only[]);omega,hk9⟩ aSx (λw h=>by have h2:=h;rw[show QK (QW L.length Sk) ((nth L i).cs.getD k 0).toNat (Value.cells (.bool true)).toList=QW L.length (((nth L i).cs.getD k 0)::Sk)from hsv]at h2;exact h2.ent aEt)
 have hdr9:(nth L i).cs.drop k=[]:=List.drop_of_length_le om
 rw[hdr9]at hk3
 have hK0:(XA (pln L) (nth L i).cs S).1=0:=by rw[hk3];rfl
 have hK2:(XA (pln L) (nth L i).cs S).2=Sk:=by rw[hk3];rfl
 have hOr:(Xp (⟨(j:Int),mo,rm,pln L⟩:Tre) i S)=(ZU (j:Int) (nth L i).es,(XA (pln L) (nth L i).cs S).2):=by have h9:=QlZ (t:=(⟨(j:Int),mo,rm,pln L⟩:Tre)) (i:=i) (S:=S) (n:=(nth L i).pl) hNI hu9 hM9 hS9 hE0 hK0;exact h9
 refine Qk rfl ?_
 refine aU6 ?_
 refine Qp (α:=Nat) [6,13,122,123,124,125,126,127,128,129,130,131,132,133,134,135,136,137,138,139,140,141,142,143,144,145] (λk=>[(13,.int .i64 (k:Int))]) (λ_=>HS w (fps [.blk sb 4 tot (QW L.length S)]) [.blk sb 4 tot (QW L.length (XA (pln L) (nth L i).cs S).2),.blk b1 24 4 [.int .i64 (j:Int),.int .i64 mo,.int .i64 rm,.slice a L.length cap],.blk b2 87 3 (LNd.vals (nth L i))]) (λk=>1<=k/\∀q,q<k->ZO (j:Int) (nth L i).es q=0) (λk=>(nth L i).es.length-k) 1 ⟨Nat.le_refl _,λq h=>if_pos (.inl om)⟩ aSx (λw h=>by rw[hK2];exact h.ent aEt) (λk hx=>?_)
 obtain⟨hk1,hk3b⟩:=hx
 refine aU9 ?_
 refine sCd rfl (λh33=>?_) λh33=>?_
 ·have hk5:k<(nth L i).es.length:=by omega
  have hk6:k-1<(nth L i).es.length:=om
  refine aU4 ?_
  refine Qq [] mixed ?_
  refine dFa 0 ?_
  refine dLd 1 [] ?_
  refine dFa 2 ?_
  refine dLd 3 [] ?_
  refine dP 4 ?_
  refine dP 5 ?_
  try refine dWr ?_
  refine dV 6 rfl (Qa rfl rfl rfl Xi (k-1) om om (Rw.some (hs.es hi) om)) (dFa 7 ?_)
  refine dQ 8 [] rfl (Qb rfl rfl X5 (((hs.es hi).rdj 0 hk6 rfl))) (dFa 9 ?_)
  refine dLd 10 [] ?_
  refine dP 11 ?_
  refine dV 12 rfl (Qa rfl rfl rfl Xi (k) om om (Rw.some (hs.es hi) om)) (dFa 13 ?_)
  refine dQ 14 [] rfl (Qb rfl rfl X5 (((hs.es hi).rdj 0 hk5 rfl))) (dQ 15 [] rfl (Qe rfl QcC rfl (λw1 h1=>Qjb w1 j (nth (nth L i).es (k-1)).key (nth (nth L i).es k).key hj (Qav (hEn _ hk6)) (Qav (hEn _ hk5)) (hK _ (QA hk6)) (hK _ (QA hk5)))) (dP 16 ?_))
  refine dNi ?_
  refine sCd rfl (λh34=>?_) λh34=>?_
  ·have hz11:¬ZO (j:Int) (nth L i).es k=0:=by unfold ZO;rw[if_neg (by have hq:=h34;omega)];decide
   have hOb:=Qll hk5 hk3b hz11
   have hOv:ZO (j:Int) (nth L i).es k=9:=if_neg (by have hq:=h34;omega)
   refine aU ?_
   refine Qi (L':=[(2,_),(3,_),(7,_),(9,_),(11,_),(13,_),(69,_),(70,_),(71,_),(72,_),(73,_),(87,_),(88,_),(89,_),(90,_),(91,_)]) aSx (λ_ h=>h) ?_
   refine aU3 ?_
   exact rT rfl rfl (λw' h'=>⟨(),by rw[hOr,hOb,hOv];rfl,trivial,by rw[hOr];exact h'.ent aEt⟩)
  have hz11:ZO (j:Int) (nth L i).es k=0:=if_pos (.inr (by have hq:=h34;omega))
  refine aU2 ?_
  refine Qi (L':=[(2,_),(3,_),(7,_),(9,_),(11,_),(13,_),(69,_),(70,_),(71,_),(72,_),(73,_),(87,_),(88,_),(89,_),(90,_),(91,_)]) aSx (λ_ h=>h) ?_
  refine aT3 ?_
  refine aU2 ?_
  exact sBk (k+1) om ⟨om,λq hq=>(Nat.lt_or_ge q k).elim (hk3b q) (λh9=>by obtain rfl:q=k:=om;exact hz11)⟩
 have hO0:ZU (j:Int) (nth L i).es=0:=Qju (λq hq=>hk3b q om)
 refine Qk rfl ?_
 refine aU4 ?_
 exact rT rfl rfl (λw' h'=>⟨(),by rw[hOr,hO0];rfl,trivial,by rw[hOr];exact h'.ent aEt⟩)
end Go.Proofs
namespace Gx
open Go Go.RowKit
def mkS(vs:List Vis)(S:List Int):List Int:=(vs.map λv=>((v.i:Nat):Int)).reverse++S
theorem Qmh(A B:List Vis)(S:List Int):mkS (A++B) S=mkS B (mkS A S):=by simp[mkS]
theorem QlM{vs:List Vis}{c:Int}:c∈mkS vs [] ↔ ∃v∈vs,((v.i:Nat):Int)=c:=by simp[mkS]
end Gx
namespace Go.Proofs
open Go Go.RowKit Gx
attribute [local irreducible] Go.Calls Gx.S Gx.O Gx.D Gx.OpP Gx.OpQ Gx.OpH
set_option maxRecDepth 20000
theorem Qjl:QC Tryz.prog 107=true:=by kernel_rfl
def MkC(j:Nat)(mo rm:Int)(a:Option Addr)(cap:Nat)(L:List LNd)(sb scap tot:Nat)(f:Nat):Prop:=∀(w:World)(S:List Int)(v:Vis)(P:List Nat),(HS w (fps [.blk sb 4 tot (QW L.length S)]) [.blk sb 4 tot (QW L.length S)] w)->(Nt w (fps [.blk sb 4 tot (QW L.length S)]) a L)->(TOk (j:Int) (pln L))->(Bd (pln L))->(0<L.length)->(Gx.Way (pln L) (v.i::P))->P.length+f=L.length->Calls Tryz.prog 107 #[.agg #[.int .i64 (j:Int),.int .i64 mo,.int .i64 rm,.slice a L.length cap],.int .i64 (v.i:Int),.slice (some ⟨sb,0,none⟩) L.length scap] w λen w'=>∃g:Unit,en=.returned (.tuple #[])/\True/\HS w (fps [.blk sb 4 tot (QW L.length S)]) [.blk sb 4 tot (QW L.length (mkS (vis (pln L) f v) S))] w'
theorem QoL(w:World)(j:Nat)(mo rm:Int)(a:Option Addr)(cap:Nat)(L:List LNd)(sb scap tot:Nat)(S:List Int)(v:Vis)(P:List Nat)(f:Nat)(hw:HS w (fps [.blk sb 4 tot (QW L.length S)]) [.blk sb 4 tot (QW L.length S)] w)(hs:Nt w (fps [.blk sb 4 tot (QW L.length S)]) a L)(hT:TOk (j:Int) (pln L))(hB:Bd (pln L))(h0:0<L.length)(hway:Gx.Way (pln L) (v.i::P))(hf:P.length+(f+1)=L.length)(ih:MkC j mo rm a cap L sb scap tot f):CE 107 #[.agg #[.int .i64 (j:Int),.int .i64 mo,.int .i64 rm,.slice a L.length cap],.int .i64 (v.i:Int),.slice (some ⟨sb,0,none⟩) L.length scap] w (fps [.blk sb 4 tot (QW L.length S)]) (λg:Unit=>.tuple #[]) (λg=>True) λg=>[.blk sb 4 tot (QW L.length (mkS (vis (pln L) (f+1) v) S))]:=by
 have hi0:=ZE hT (by rw[Qd];exact h0) hway v.i (List.mem_cons_self ..)
 have hi:v.i<L.length:=by rw[Qd]at hi0;exact hi0
 have hn:=QB hi
 have hle:=hB.len
 rw[Qd]at hle
 have hcl:=hB.cs v.i hi0
 rw[hn]at hcl
 simp only[LNd.pl]at hcl
 refine eW3 Tryz.func107 Tryz.ntmps107 hw ?_
 refine aU2 ?_
 refine oBx λb1 _=>?_
 refine aU5 ?_
 refine o_p (Qa rfl rfl rfl QbY (v.i) om om rfl) rfl (Qn (show _=Value.pointer (some ⟨sb,v.i,none⟩)from by rw[Nat.zero_add,Nat.mul_one]) (Qf0 (Y2 rfl rfl rfl QeN rfl aPt (by rw[ZQ];show _+1<=_;omega) rfl) (λ_ _=>aU6 ?_)))
 refine Qp (α:=Nat) [6,10,11,12,13,14,15,16,17,18,19,20,21,22,23,24,25,26,27,28,29,30,31,32] (λk=>[(6,.int .i64 (k:Int))]) (λk=>HS w (fps [.blk sb 4 tot (QW L.length S)]) [.blk sb 4 tot (QW L.length (mkS (ZX (pln L) f v k) S)),.blk b1 24 4 [.int .i64 (j:Int),.int .i64 mo,.int .i64 rm,.slice a L.length cap]]) (λk=>k<=(nth L v.i).cs.length) (λk=>(nth L v.i).cs.length-k) 0 (Nat.zero_le _) aSx (λw h=>by have h2:=h;rw[show QK (QW L.length S) v.i (Value.cells (.bool true)).toList=QW L.length (((v.i:Nat):Int)::S)from QgU hi]at h2;exact h2.ent aEt) (λk hk1=>?_)
 refine aU7 ?_
 refine o_p (Qa rfl rfl rfl Q2 (v.i) om om (Rw.some hs.1 om)) rfl (aU ?_)
 refine o_q (Qb rfl rfl Ze ((hs.1.rdj 2 hi rfl))) rfl (aU3 ?_)
 refine sCd rfl (λh2=>?_) λh2=>?_
 ·have hkl:k<(nth L v.i).cs.length:=by omega
  have hkid:=QaJ hT hi0 (k:=k) (by rw[hn];exact hkl)
  rw[hn,Qd]at hkid
  simp only[LNd.pl]at hkid
  have hway2:=ZC hway hi0 (k:=k) (by rw[hn];exact hkl) (by rw[hn];simp only[LNd.pl];omega)
  refine aU3 ?_
  refine Qq [11] mixed ?_
  refine dLn 0 [[]] ?_
  refine dFa 1 ?_
  refine dLd 2 [[9,8,6,5,4]] ?_
  refine dP 3 ?_
  refine dV 4 rfl (Qa rfl rfl rfl Q2 (v.i) om om (Rw.some hs.1 om)) (dFa 5 ?_)
  refine dQ 6 [[9,8]] rfl (Qb rfl rfl Ze ((hs.1.rdj 2 hi rfl))) (dP 7 ?_)
  refine dV 8 rfl (Qa rfl rfl rfl QU (k) om om (Rw.some (hs.cs hi) om)) (dQ 9 [[]] rfl (Qb rfl rfl Q3 (((hs.cs hi).rdj 0 (i:=k) hkl rfl))) (Qy (show _=Value.int .i64 ((Xl (pln L) v k).i:Int)from by rw[Xl,hn];exact congrArg (Value.int .i64) (Int.toNat_of_nonneg (show 0<=(nth L v.i).cs.getD k 0 by omega)).symm) (dP 10 ?_)))
  refine dH 11 rfl (Q1 (Cs:=[.blk sb 4 tot (QW L.length (mkS (ZX (pln L) f v k) S))]) rfl Qjl rfl aPs (λw1 h1 hf9=>ih w1 (mkS (ZX (pln L) f v k) S) (Xl (pln L) v k) (v.i::P) hf9 ((hs.keep h1).mono (QS aPs)) hT hB h0 hway2 (by simp only[List.length_cons];omega))) (λ_ _=>dTu [] ?_)
  refine dNi ?_
  refine aT4 ?_
  refine aU2 ?_
  exact QH (k+1) om om aSx (λw h=>by rw[Xu,Qmh];exact h.ent aEt)
 obtain rfl:k=(nth L v.i).cs.length:=om
 refine Qk rfl ?_
 exact QcM rfl (λw' h'=>⟨(),rfl,trivial,by rw[YA,hn];exact h'.ent aEt⟩)
theorem c107(j:Nat)(mo rm:Int)(a:Option Addr)(cap:Nat)(L:List LNd)(sb scap tot:Nat):∀f,MkC j mo rm a cap L sb scap tot f
  | 0=>λw S v P hw hs hT hB h0 hway hf=>by
    have h1:=XD hT (by rw[Qd];exact h0) hway;rw[Qd,List.length_cons]at h1;omega
  | f+1=>λw S v P hw hs hT hB h0 hway hf=>QoL w j mo rm a cap L sb scap tot S v P f hw hs hT hB h0 hway hf (c107 j mo rm a cap L sb scap tot f)
end Go.Proofs
namespace Gx
open Go Go.RowKit
def StK(w:World)(p:Option Addr)(n:Nat)(o:Option (List UInt8)):Prop:=match o with
 | none=>n=0
 | some k=>n=1/\∃b off,p=some ⟨b,off,none⟩/\Rd w [] b off (.string (bs k))
theorem StK.later{w w':World}{As:List HA}{p:Option Addr}{n:Nat}{o:Option (List UInt8)}(h:StK w p n o)(hs:HS w [] As w'):StK w' p n o:=by
 cases o with
 | none=>exact h
 | some k=>
  obtain⟨h1,b,off,h2,h3⟩:=h;exact⟨h1,b,off,h2,h3.next hs⟩
theorem StK.of_pos{w:World}{p:Option Addr}{n:Nat}{o:Option (List UInt8)}(h:StK w p n o)(hn:0<n):∃k b off,o=some k/\n=1/\p=some ⟨b,off,none⟩/\Rd w [] b off (.string (bs k)):=by
 cases o with
 | none=>
  have:n=0:=h;omega
 | some k=>
  obtain⟨h1,b,off,h2,h3⟩:=h;exact⟨k,b,off,rfl,h1,h2,h3⟩
theorem StK.of_no{w:World}{p:Option Addr}{n:Nat}{o:Option (List UInt8)}(h:StK w p n o)(hn:¬0<n):o=none:=by
 cases o with
 | none=>rfl
 | some k=>
  obtain⟨h1,_⟩:=h;omega
theorem StK.new{w:World}{b:Nat}{k:List UInt8}(h:Rd w [] b 0 (.string (bs k))):StK w (some ⟨b,0,none⟩) 1 (some k):=⟨rfl,b,0,rfl,h⟩
theorem Qdd{es:List TEnt}{k:Nat}{lo:Option (List UInt8)}(h:0<k):loK es k lo=some (nth es (k-1)).key:=if_pos h
theorem QfB{es:List TEnt}{k:Nat}{lo:Option (List UInt8)}(h:¬0<k):loK es k lo=lo:=if_neg h
theorem Qda{es:List TEnt}{k:Nat}{hi:Option (List UInt8)}(h:k<es.length):hiK es k hi=some (nth es k).key:=if_pos h
theorem QfF{es:List TEnt}{k:Nat}{hi:Option (List UInt8)}(h:¬k<es.length):hiK es k hi=hi:=if_neg h
theorem XG{t:Tre}{deep:Int}:∀(A B:List Vis),XC t deep (A++B)=if(XC t deep A).2=0 then XC t deep B else XC t deep A
 | [],B=>rfl
 | v::A,B=>by
  rw[List.cons_append,XC,XC]
  by_cases h:Qbu t deep v=0
  ·rw[if_pos h,if_pos h];exact XG A B
  ·rw[if_neg h,if_neg h,if_neg h]
theorem Qmq{t:Tre}{v:Vis}{N R:Nd}(hN:nth t.ns v.i=N)(hR:nth t.ns 0=R)(h1:R.cs.length=0\/R.cs.length=R.es.length+1)(h2:∀c∈R.cs,1<=c):YT t v=true ↔ (v.i≠0/\(N.es.length:Int)<t.mo/2)\/(((R.es.length=0/\R.cs.length=1)/\R.cs.getD 0 0=(v.i:Int))/\(N.es.length:Int)<=t.rm):=by
 subst hN hR;unfold YT;simp only[Bool.and_eq_true,Bool.or_eq_true,decide_eq_true_eq];constructor
 ·rintro⟨h3,h4|⟨⟨h4,h5⟩,h6⟩⟩
  ·exact .inl ⟨om,h4⟩
  ·refine .inr ⟨⟨⟨h4,?_⟩,?_⟩,h6⟩
   ·rcases h1 with h1|h1
    ·rw[List.eq_nil_of_length_eq_zero h1]at h5;cases h5
    ·omega
   ·have hl:(nth t.ns 0).cs.length=1:=by
     rcases h1 with h1|h1
     ·rw[List.eq_nil_of_length_eq_zero h1]at h5;cases h5
     ·omega
    obtain⟨c,hc⟩:=List.length_eq_one_iff.1 hl;rw[hc]at h5 ⊢;exact(List.mem_singleton.1 h5).symm
 ·rintro(⟨h3,h4⟩|⟨⟨⟨h4,h5⟩,h6⟩,h7⟩)
  ·exact⟨om,.inl h4⟩
  ·obtain⟨c,hc⟩:=List.length_eq_one_iff.1 h5;have h8:=h2 c (by rw[hc];exact List.mem_singleton.2 rfl);rw[hc]at h6 ⊢;have h9:c=(v.i:Int):=h6;exact⟨om,.inr ⟨⟨h4,List.mem_singleton.2 h9.symm⟩,h7⟩⟩
theorem Qg3{t:Tre}{deep:Int}{v:Vis}(h:YT t v=true):Qbu t deep v=14:=by rw[Qah,if_pos h]
theorem Qkc{t:Tre}{deep:Int}{v:Vis}(h:¬YT t v=true)(h2:YE t v=true):Qbu t deep v=9:=by rw[Qah,if_neg h,if_pos h2]
theorem QlU{t:Tre}{deep:Int}{v:Vis}(h:¬YT t v=true)(h2:¬YE t v=true)(h3:(nth t.ns v.i).cs.length=0/\v.d≠deep+1):Qbu t deep v=22:=by rw[Qah,if_neg h,if_neg h2,if_pos h3]
theorem QlK{t:Tre}{deep:Int}{v:Vis}(h:¬YT t v=true)(h2:¬YE t v=true)(h3:¬((nth t.ns v.i).cs.length=0/\v.d≠deep+1)):Qbu t deep v=0:=by rw[Qah,if_neg h,if_neg h2,if_neg h3]
theorem QkZ{t:Tre}{v:Vis}{N:Nd}{k:Nat}(hN:nth t.ns v.i=N)(hk:k<N.es.length)(h:YU t v (nth N.es k)=true):YE t v=true:=by
 subst hN;exact List.any_eq_true.2 ⟨_,QA hk,h⟩
theorem QlS{t:Tre}{v:Vis}{N:Nd}(hN:nth t.ns v.i=N)(h:∀q,q<N.es.length->¬YU t v (nth N.es q)=true):¬YE t v=true:=λh2=>by
 subst hN;obtain⟨x,hx,h3⟩:=List.any_eq_true.1 h2;obtain⟨q,hq,e⟩:=List.getElem_of_mem hx;have e2:nth (nth t.ns v.i).es q=x:=Xr (by rw[List.getElem?_eq_getElem hq,e]);exact h q hq (by rw[e2];exact h3)
theorem Qce{t:Tre}{v:Vis}{x:TEnt}:YU t v x=true ↔ (∃b,v.lo=some b/\0<=QI t.co b x.key)\/(∃b,v.hi=some b/\0<=QI t.co x.key b):=by
 unfold YU;cases v.lo<;>cases v.hi<;>simp
section
variable{t:Tre}{v:Vis}{x:TEnt}{kl kh:List UInt8}
theorem QoS(h1:v.lo=some kl)(h:0<=QI t.co kl x.key):(true=true ↔ YU t v x=true):=⟨λ_=>Qce.2 (.inl ⟨kl,h1,h⟩),λ_=>rfl⟩
theorem Qow(h1:v.lo=some kl)(h:¬0<=QI t.co kl x.key)(h2:v.hi=some kh):(decide (QI t.co x.key kh>=0)=true ↔ YU t v x=true):=by
 rw[decide_eq_true_eq,Qce,h1,h2];constructor
 ·exactλh9=>.inr ⟨kh,rfl,h9⟩
 ·rintro(⟨b,hb,h9⟩|⟨b,hb,h9⟩)
  ·cases hb;exact absurd h9 h
  ·cases hb;exact h9
theorem QoM(h1:v.lo=some kl)(h:¬0<=QI t.co kl x.key)(h2:v.hi=none):(false=true ↔ YU t v x=true):=by
 rw[Qce,h1,h2];constructor
 ·exactλh9=>(nomatch h9)
 ·rintro(⟨b,hb,h9⟩|⟨b,hb,h9⟩)
  ·cases hb;exact absurd h9 h
  ·cases hb
theorem QoJ(h1:v.lo=none)(h2:v.hi=some kh):(decide (QI t.co x.key kh>=0)=true ↔ YU t v x=true):=by
 rw[decide_eq_true_eq,Qce,h1,h2];constructor
 ·exactλh9=>.inr ⟨kh,rfl,h9⟩
 ·rintro(⟨b,hb,h9⟩|⟨b,hb,h9⟩)
  ·cases hb
  ·cases hb;exact h9
theorem QoO(h1:v.lo=none)(h2:v.hi=none):(false=true ↔ YU t v x=true):=by
 rw[Qce,h1,h2];constructor
 ·exactλh9=>(nomatch h9)
 ·rintro(⟨b,hb,h9⟩|⟨b,hb,h9⟩)<;>cases hb
end
theorem Qb0{t:Tre}{deep:Int}{f:Nat}{v:Vis}(h:¬Qbu t deep v=0):XC t deep (vis t.ns (f+1) v)=((v.i:Int),Qbu t deep v):=by
 rw[vis,XC,if_neg h]
theorem Qoh{t:Tre}{deep:Int}{f:Nat}{v:Vis}(h:Qbu t deep v=0):(XC t deep (ZX t.ns f v 0)).2=0:=by
 rw[Qhq,XC,if_pos h];rfl
end Gx
namespace Go.Proofs
open Go Go.RowKit Gx
attribute [local irreducible] Go.Calls Gx.S Gx.O Gx.D Gx.OpP Gx.OpQ Gx.OpH
set_option maxRecDepth 20000
theorem QcG:tsl Tryz.prog 224=some (9,1,16):=by kernel_rfl
theorem Qj1:Q8 Tryz.prog 9=some [.string (bs [])]:=by kernel_rfl
theorem Qeg:QC Tryz.prog 108=true:=by kernel_rfl
instance:TFn Tryz.prog 108:=⟨Qeg⟩
def PlC(j:Nat)(mo rm:Int)(a:Option Addr)(cap:Nat)(L:List LNd)(deep:Int)(f:Nat):Prop:=∀(w:World)(v:Vis)(P:List Nat)(lv:Int)(pa qa:Option Addr)(pn pc qn qc:Nat),(Nt w [] a L)->(j<=3)->((0<=mo/\mo<=1000)/\(0<=deep/\deep<=1000))->(TOk (j:Int) (pln L))->(Bd (pln L))->(0<L.length)->(Gx.Way (pln L) (v.i::P))->(v.d=(P.length:Int)+1)->(lv=deep+1-v.d)->(KOk (j:Int) v.lo)->(KOk (j:Int) v.hi)->(StK w pa pn v.lo)->(StK w qa qn v.hi)->P.length+f=L.length->Calls Tryz.prog 108 #[.agg #[.int .i64 (j:Int),.int .i64 mo,.int .i64 rm,.slice a L.length cap],.int .i64 (v.i:Int),.int .i64 lv,.slice pa pn pc,.slice qa qn qc] w λen w'=>en=.returned (.tuple #[.int .i64 (XC (⟨(j:Int),mo,rm,pln L⟩:Tre) deep (vis (pln L) f v)).1,.int .i64 (XC (⟨(j:Int),mo,rm,pln L⟩:Tre) deep (vis (pln L) f v)).2])/\Below w.heap.size w w'
theorem Qot(w:World)(j:Nat)(mo rm:Int)(a:Option Addr)(cap:Nat)(L:List LNd)(deep:Int)(v:Vis)(P:List Nat)(lv:Int)(pa qa:Option Addr)(pn pc qn qc:Nat)(f:Nat)(hs:Nt w [] a L)(hj:j<=3)(hmo:(0<=mo/\mo<=1000)/\(0<=deep/\deep<=1000))(hT:TOk (j:Int) (pln L))(hB:Bd (pln L))(h0:0<L.length)(hway:Gx.Way (pln L) (v.i::P))(hd:v.d=(P.length:Int)+1)(hlv:lv=deep+1-v.d)(hko:KOk (j:Int) v.lo)(hkp:KOk (j:Int) v.hi)(hlo:StK w pa pn v.lo)(hhi:StK w qa qn v.hi)(hf:P.length+(f+1)=L.length)(ih:PlC j mo rm a cap L deep f):CR 108 #[.agg #[.int .i64 (j:Int),.int .i64 mo,.int .i64 rm,.slice a L.length cap],.int .i64 (v.i:Int),.int .i64 lv,.slice pa pn pc,.slice qa qn qc] w (.tuple #[.int .i64 (XC (⟨(j:Int),mo,rm,pln L⟩:Tre) deep (vis (pln L) (f+1) v)).1,.int .i64 (XC (⟨(j:Int),mo,rm,pln L⟩:Tre) deep (vis (pln L) (f+1) v)).2]):=by
 have hi0:=ZE hT (by rw[Qd];exact h0) hway v.i (List.mem_cons_self ..)
 have hi:v.i<L.length:=by rw[Qd]at hi0;exact hi0
 have hn:=QB hi
 have hn0:=QB h0
 have hle:=hB.len
 rw[Qd]at hle
 have hwl:=XD hT (by rw[Qd];exact h0) hway
 rw[Qd,List.length_cons]at hwl
 have hcl:=hB.cs v.i hi0
 have hel:=hB.es v.i hi0
 rw[hn]at hcl hel
 simp only[LNd.pl]at hcl hel
 have hsh:=hT.shape v.i hi0
 rw[hn]at hsh
 simp only[LNd.pl]at hsh
 have hgi:=Qmq (t:=(⟨(j:Int),mo,rm,pln L⟩:Tre)) (v:=v) hn hn0 (hn0▸hT.shape 0 (by rw[Qd];exact h0)) (λc hc=>(hT.kid 0 (by rw[Qd];exact h0) c (by rw[hn0];exact hc)).1.1)
 simp only[LNd.pl]at hgi
 have hE9:=Qb3 hT hi0
 rw[hn]at hE9
 simp only[LNd.pl]at hE9
 refine eN5 Tryz.func108 Tryz.ntmps108 ?_
 refine aU2 ?_
 refine oBx λb1 _=>?_
 refine aU8 ?_
 refine o_p (Qa rfl rfl rfl Q2 (v.i) om om (Rw.some hs.1 om)) rfl (o_q (Qt _ rfl rfl Qaq rfl (Rw.rd hs.1 hi)) rfl (oAl (λb2 _=>?_) YS))
 refine aU8 ?_
 refine QJ 8 27 35 rfl
  (λhg3 _=>by
   refine Y0 ?_
   refine o_p (Y5 rfl rfl rfl om om om) rfl (aU2 ?_)
   exact oJt 8 35)
  (λhg5 _=>by
   refine aU7 ?_
   exact oJf 8 35) ?_
 refine aU ?_
 refine sCd rfl (λh7=>?_) λh7=>?_
 ·have hgp:YT (⟨(j:Int),mo,rm,pln L⟩:Tre) v=true:=hgi.2 (.inl (by have hq:=h7;omega))
  have hV:=Qg3 (deep:=deep) hgp
  refine aU6 ?_
  exact Qg (rs:=[.tmp 10,.tmp 11]) rfl (.tmp rfl (.tmp rfl (.nil))) (λw' h'=>⟨by rw[Qb0 (by rw[hV];decide),hV];rfl,h'.below⟩)
 have hng1:¬(v.i≠0/\((nth L v.i).es.length:Int)<mo/2):=by have hq:=h7;omega
 refine aU6 ?_
 refine o_p (Qa rfl rfl rfl Q2 (0) om om (Rw.some hs.1 om)) rfl (aU ?_)
 refine o_q (Qb rfl rfl Qao ((hs.1.rdj 1 h0 rfl))) rfl (aU3 ?_)
 refine QJ 8 44 52 rfl
  (λhg8 _=>by
   refine aU5 ?_
   refine o_p (Qa rfl rfl rfl Q2 (0) om om (Rw.some hs.1 om)) rfl (aU3 ?_)
   refine o_q (Qb rfl rfl Ze ((hs.1.rdj 2 h0 rfl))) rfl (aU4 ?_)
   exact oJt 8 52)
  (λhg10 _=>by
   refine aU7 ?_
   exact oJf 8 52) ?_
 refine aU ?_
 refine QJ 10 53 63 rfl
  (λhg12 _=>by
   refine aU5 ?_
   refine o_p (Qa rfl rfl rfl Q2 (0) om om (Rw.some hs.1 om)) rfl (aU3 ?_)
   refine o_q (Qb rfl rfl Ze ((hs.1.rdj 2 h0 rfl))) rfl (aU ?_)
   refine o_p (Qa rfl rfl rfl QU (0) om om (Rw.some (hs.cs h0) om)) rfl (aU ?_)
   refine o_q (Qb rfl rfl Q3 (((hs.cs h0).rdj 0 (i:=0) om rfl))) rfl (aU4 ?_)
   exact oJt 10 63)
  (λhg14 _=>by
   refine aU9 ?_
   exact oJf 10 63) ?_
 refine aU ?_
 refine QJ 7 64 71 rfl
  (λhg16 _=>by
   refine Zr ?_
   exact oJt 7 71)
  (λhg18 _=>by
   refine aU6 ?_
   exact oJf 7 71) ?_
 refine aU ?_
 refine sCd rfl (λh20=>?_) λh20=>?_
 ·have hgp:YT (⟨(j:Int),mo,rm,pln L⟩:Tre) v=true:=hgi.2 (.inr (by have hq:=h20;exact⟨⟨⟨om,om⟩,hq.1.2⟩,om⟩))
  have hV:=Qg3 (deep:=deep) hgp
  refine aU ?_
  refine Qi (L':=[(1,_),(2,_),(3,_),(4,_),(5,_),(10,_),(11,_),(12,_)]) aSx (λ_ h=>h) ?_
  refine aU5 ?_
  exact Qg (rs:=[.tmp 10,.tmp 11]) rfl (.tmp rfl (.tmp rfl (.nil))) (λw' h'=>⟨by rw[Qb0 (by rw[hV];decide),hV];rfl,h'.below⟩)
 have hgn:¬YT (⟨(j:Int),mo,rm,pln L⟩:Tre) v=true:=λh9=>(hgi.1 h9).elim hng1 (λh8=>by have hq:=h20;rcases hq with((hq|hq)|hq)|hq<;>first|omega|exact hq h8.1.2)
 refine aU3 ?_
 refine Qi (L':=[(1,_),(2,_),(3,_),(4,_),(5,_),(10,_),(11,_),(12,_)]) aSx (λ_ h=>h) ?_
 refine aU4 ?_
 refine Qp (α:=Nat) [10,11,13,14,73,74,75,76,77,78,79,80,81,82,83,84,85,86,87,88,89,90,91,92,93,94,95,96,97,98,99,100,101,102,103,104,105,106,107,108,109,110,111,112,113,114] (λk=>[(13,.int .i64 (k:Int))]) (λ_=>HS w [] [.blk b1 24 4 [.int .i64 (j:Int),.int .i64 mo,.int .i64 rm,.slice a L.length cap],.blk b2 87 3 (LNd.vals (nth L v.i))]) (λk=>k<=(nth L v.i).es.length/\∀q,q<k->¬YU (⟨(j:Int),mo,rm,pln L⟩:Tre) v (nth (nth L v.i).es q)=true) (λk=>(nth L v.i).es.length-k) 0 ⟨Nat.zero_le _,λq h=>absurd h (Nat.not_lt_zero q)⟩ aSx (λw h=>h.ent aEt) (λk hx9=>?_)
 obtain⟨hk1,hk3⟩:=hx9
 refine aU9 ?_
 refine sCd rfl (λh21=>?_) λh21=>?_
 ·have hk5:k<(nth L v.i).es.length:=by omega
  refine aU8 ?_
  refine o_p (Qa rfl rfl rfl Xi (k) om om (Rw.some (hs.es hi) om)) rfl (aU ?_)
  refine o_q (Qb rfl rfl X5 (((hs.es hi).rdj 0 hk5 rfl))) rfl (aU3 ?_)
  refine Qi (L':=[(1,_),(2,_),(3,_),(4,_),(5,_),(12,_),(13,_),(14,_)]) aSx (λ_ h=>h) ?_
  refine Xn (α:=Bool) [86,87,88,89,90,91,92,93,94,95,96,97,98,99,100,101,102,103,104,105,106,107,108,109,110,111,112,113] (λx=>[(113,.bool x)]) (λx=>x=true ↔ (YU (⟨(j:Int),mo,rm,pln L⟩:Tre) v (nth (nth L v.i).es k))=true) ?_ ?_
  ·skip
   refine Qq [] mixed ?_
   refine dP 0 ?_
   refine dV 1 rfl (Qx rfl rfl Tryz.underlying224) (dP 2 ?_)
   refine dP 3 ?_
   apply Xg 89
   ·exact rfl
   ·intro hg22
    have hs23:=hg22;try simp only[dT]at hs23
    refine dFo 4 89 hg22 ?_
    obtain⟨kl,bl,ol,hlo1,hlo2,hlo3,hlo4⟩:=hlo.of_pos om
    refine dQo 5 89 [] hg22 rfl rfl rfl (XY rfl rfl Q3 aPk rfl) ?_
    refine dPo 6 89 hg22 ?_
    refine dVo 7 89 hg22 rfl rfl rfl (Qa rfl rfl rfl QcG (0) om om hlo3) ?_
    refine dQo 8 89 [] hg22 rfl rfl rfl (Qb rfl rfl X5 (hlo4)) ?_
    refine dPo 9 89 hg22 ?_
    refine dQo 10 89 [] hg22 rfl rfl rfl (Qe rfl QcC rfl (λw1 h1=>Qjb w1 j kl (nth (nth L v.i).es k).key hj (hko _ hlo1).1 (hE9 _ (QA hk5)).1 (hko _ hlo1).2 (hE9 _ (QA hk5)).2)) ?_
    refine dPo 11 89 hg22 ?_
    refine dV 12 rfl (QZ rfl rfl hg22 rfl) (dP 13 ?_)
    apply Xg 99
    ·exact rfl
    ·intro hg24
     have hs25:=hg24;try simp only[dT]at hs25
     refine dOf 14 99 hg24 ?_
     refine dOf 15 99 hg24 ?_
     refine dOf 16 99 hg24 ?_
     refine dOf 17 99 hg24 ?_
     refine dOu 18 103 ?_
     refine dOu 19 103 ?_
     refine dOu 20 103 ?_
     refine dOu 21 103 ?_
     refine dOu 22 103 ?_
     refine dOu 23 103 ?_
     refine dOu 24 103 ?_
     refine dOu 25 103 ?_
     refine dOf 26 99 hg24 ?_
     refine dV 27 rfl (QZ rfl rfl hg24 rfl) (dNi ?_)
     exact Qf true (QoS hlo1 (by show 0<=QI (j:Int) kl _;omega)) aSx (λw h=>h.ent aEt)
    intro hg26
    have hs27:=hg26;try simp only[dN]at hs27
    refine dPo 14 99 hg26 ?_
    refine dVo 15 99 hg26 rfl rfl rfl (Qx rfl rfl Tryz.underlying224) ?_
    refine dPo 16 99 hg26 ?_
    refine dPo 17 99 hg26 ?_
    apply Xg 103
    ·exact rfl
    ·intro hg28
     have hs29:=hg28;try simp only[dT]at hs29
     refine dFo 18 103 hg28 ?_
     obtain⟨kh,bh,oh,hhi1,hhi2,hhi3,hhi4⟩:=hhi.of_pos om
     refine dQo 19 103 [] hg28 rfl rfl rfl (XY rfl rfl Q3 aPk rfl) ?_
     refine dPo 20 103 hg28 ?_
     refine dPo 21 103 hg28 ?_
     refine dVo 22 103 hg28 rfl rfl rfl (Qa rfl rfl rfl QcG (0) om om hhi3) ?_
     refine dQo 23 103 [] hg28 rfl rfl rfl (Qb rfl rfl X5 (hhi4)) ?_
     refine dQo 24 103 [] hg28 rfl rfl rfl (Qe rfl QcC rfl (λw1 h1=>Qjb w1 j (nth (nth L v.i).es k).key kh hj (hE9 _ (QA hk5)).1 (hkp _ hhi1).1 (hE9 _ (QA hk5)).2 (hkp _ hhi1).2)) ?_
     refine dPo 25 103 hg28 ?_
     refine dVo 26 99 hg26 rfl rfl rfl (QZ rfl rfl hg28 rfl) ?_
     refine dV 27 rfl (QN rfl rfl hg26 rfl) (dNi ?_)
     exact Qf (decide (QI (j:Int) (nth (nth L v.i).es k).key kh>=0)) (Qow (t:=(⟨(j:Int),mo,rm,pln L⟩:Tre)) hlo1 (by show¬0<=QI (j:Int) kl _;omega) hhi1) aSx (λw h=>h.ent aEt)
    intro hg30
    have hs31:=hg30;try simp only[dN]at hs31
    refine dOf 18 103 hg30 ?_
    refine dOf 19 103 hg30 ?_
    refine dOf 20 103 hg30 ?_
    refine dOf 21 103 hg30 ?_
    refine dOf 22 103 hg30 ?_
    refine dOf 23 103 hg30 ?_
    refine dOf 24 103 hg30 ?_
    refine dOf 25 103 hg30 ?_
    refine dVo 26 99 hg26 rfl rfl rfl (QN rfl rfl hg30 rfl) ?_
    refine dV 27 rfl (QN rfl rfl hg26 rfl) (dNi ?_)
    exact Qf false (QoM hlo1 (by show¬0<=QI (j:Int) kl _;omega) (hhi.of_no om)) aSx (λw h=>h.ent aEt)
   intro hg32
   have hs33:=hg32;try simp only[dN]at hs33
   refine dOf 4 89 hg32 ?_
   refine dOf 5 89 hg32 ?_
   refine dOf 6 89 hg32 ?_
   refine dOf 7 89 hg32 ?_
   refine dOf 8 89 hg32 ?_
   refine dOf 9 89 hg32 ?_
   refine dOf 10 89 hg32 ?_
   refine dOf 11 89 hg32 ?_
   refine dV 12 rfl (QN rfl rfl hg32 rfl) (dP 13 ?_)
   apply Xg 99
   ·exact rfl
   ·intro hg34
    have hs35:=hg34;skip
    refine dOf 14 99 hg34 ?_
    refine dOf 15 99 hg34 ?_
    refine dOf 16 99 hg34 ?_
    refine dOf 17 99 hg34 ?_
    refine dOu 18 103 ?_
    refine dOu 19 103 ?_
    refine dOu 20 103 ?_
    refine dOu 21 103 ?_
    refine dOu 22 103 ?_
    refine dOu 23 103 ?_
    refine dOu 24 103 ?_
    refine dOu 25 103 ?_
    refine dOf 26 99 hg34 ?_
    refine dV 27 rfl (QZ rfl rfl hg34 rfl) (dNi ?_)
    exact Qf true (by exfalso;simp_all;done) aSx (λw h=>h.ent aEt)
   intro hg36
   have hs37:=hg36;skip
   refine dPo 14 99 hg36 ?_
   refine dVo 15 99 hg36 rfl rfl rfl (Qx rfl rfl Tryz.underlying224) ?_
   refine dPo 16 99 hg36 ?_
   refine dPo 17 99 hg36 ?_
   apply Xg 103
   ·exact rfl
   ·intro hg38
    have hs39:=hg38;try simp only[dT]at hs39
    refine dFo 18 103 hg38 ?_
    obtain⟨kh,bh,oh,hhi1,hhi2,hhi3,hhi4⟩:=hhi.of_pos om
    refine dQo 19 103 [] hg38 rfl rfl rfl (XY rfl rfl Q3 aPk rfl) ?_
    refine dPo 20 103 hg38 ?_
    refine dPo 21 103 hg38 ?_
    refine dVo 22 103 hg38 rfl rfl rfl (Qa rfl rfl rfl QcG (0) om om hhi3) ?_
    refine dQo 23 103 [] hg38 rfl rfl rfl (Qb rfl rfl X5 (hhi4)) ?_
    refine dQo 24 103 [] hg38 rfl rfl rfl (Qe rfl QcC rfl (λw1 h1=>Qjb w1 j (nth (nth L v.i).es k).key kh hj (hE9 _ (QA hk5)).1 (hkp _ hhi1).1 (hE9 _ (QA hk5)).2 (hkp _ hhi1).2)) ?_
    refine dPo 25 103 hg38 ?_
    refine dVo 26 99 hg36 rfl rfl rfl (QZ rfl rfl hg38 rfl) ?_
    refine dV 27 rfl (QN rfl rfl hg36 rfl) (dNi ?_)
    exact Qf (decide (QI (j:Int) (nth (nth L v.i).es k).key kh>=0)) (QoJ (t:=(⟨(j:Int),mo,rm,pln L⟩:Tre)) (hlo.of_no om) hhi1) aSx (λw h=>h.ent aEt)
   intro hg40
   have hs41:=hg40;try simp only[dN]at hs41
   refine dOf 18 103 hg40 ?_
   refine dOf 19 103 hg40 ?_
   refine dOf 20 103 hg40 ?_
   refine dOf 21 103 hg40 ?_
   refine dOf 22 103 hg40 ?_
   refine dOf 23 103 hg40 ?_
   refine dOf 24 103 hg40 ?_
   refine dOf 25 103 hg40 ?_
   refine dVo 26 99 hg36 rfl rfl rfl (QN rfl rfl hg40 rfl) ?_
   refine dV 27 rfl (QN rfl rfl hg36 rfl) (dNi ?_)
   exact Qf false (QoO (hlo.of_no om) (hhi.of_no om)) aSx (λw h=>h.ent aEt)
  intro x hx
  refine sCd rfl (λh42=>?_) λh42=>?_
  ·have hV:=Qkc (deep:=deep) hgn (QkZ hn hk5 (hx.1 h42))
   refine aU6 ?_
   exact Qg (rs:=[.tmp 10,.tmp 11]) rfl (.tmp rfl (.tmp rfl (.nil))) (λw' h'=>⟨by rw[Qb0 (by rw[hV];decide),hV];rfl,h'.below⟩)
  have hz3:¬(YU (⟨(j:Int),mo,rm,pln L⟩:Tre) v (nth (nth L v.i).es k))=true:=λh9=>by have h8:=hx.2 h9;simp_all
  refine aT5 ?_
  refine aU2 ?_
  exact sBk (k+1) om ⟨om,λq hq=>(Nat.lt_or_ge q k).elim (hk3 q) (λh9=>by obtain rfl:q=k:=om;exact hz3)⟩
 have hon:¬YE (⟨(j:Int),mo,rm,pln L⟩:Tre) v=true:=QlS hn (λq hq=>hk3 q (by have hq9:=hq;simp only[LNd.pl]at hq9;omega))
 refine Qk rfl ?_
 refine aU8 ?_
 refine QJ 3 119 122 rfl
  (λhg43 _=>by
   refine aU4 ?_
   exact oJt 3 122)
  (λhg45 _=>by
   refine aU2 ?_
   exact oJf 3 122) ?_
 refine aU ?_
 refine sCd rfl (λh47=>?_) λh47=>?_
 ·have hV:=QlU (deep:=deep) hgn hon (by rw[show((⟨(j:Int),mo,rm,pln L⟩:Tre)).ns=pln L from rfl,hn];have hq:=h47;simp only[LNd.pl];omega)
  refine aU6 ?_
  exact Qg (rs:=[.tmp 10,.tmp 11]) rfl (.tmp rfl (.tmp rfl (.nil))) (λw' h'=>⟨by rw[Qb0 (by rw[hV];decide),hV];rfl,h'.below⟩)
 have hV0:=QlK (deep:=deep) hgn hon (by rw[show((⟨(j:Int),mo,rm,pln L⟩:Tre)).ns=pln L from rfl,hn];have hq:=h47;simp only[LNd.pl];omega)
 refine aU7 ?_
 refine Qi (L':=[(1,_),(2,_),(3,_),(4,_),(5,_),(12,_),(13,_),(15,_)]) aSx (λ_ h=>h) ?_
 refine Qp (α:=Nat) [10,11,15,16,17,18,19,124,125,126,127,128,129,130,131,132,133,134,135,136,137,138,139,140,141,142,143,144,145,146,147,148,149,150,151,152,153,154,155,156,157,158,159,160,161,162,163,164,165,166,167,168,169,170,171,172] (λk=>[(15,.int .i64 (k:Int))]) (λ_=>HS w [] [.blk b1 24 4 [.int .i64 (j:Int),.int .i64 mo,.int .i64 rm,.slice a L.length cap],.blk b2 87 3 (LNd.vals (nth L v.i))]) (λk=>k<=(nth L v.i).cs.length/\(XC (⟨(j:Int),mo,rm,pln L⟩:Tre) deep (ZX (pln L) f v k)).2=0) (λk=>(nth L v.i).cs.length-k) 0 ⟨Nat.zero_le _,Qoh hV0⟩ aSx (λw h=>h.ent aEt) (λk hx9=>?_)
 obtain⟨hk1,hk3⟩:=hx9
 refine aU9 ?_
 refine sCd rfl (λh48=>?_) λh48=>?_
 ·have hkl:k<(nth L v.i).cs.length:=by omega
  have hkid:=QaJ hT hi0 (k:=k) (by rw[hn];exact hkl)
  rw[hn,Qd]at hkid
  simp only[LNd.pl]at hkid
  have hway2:=ZC hway hi0 (k:=k) (by rw[hn];exact hkl) (by rw[hn];simp only[LNd.pl];omega)
  refine Qmj ?_
  refine sCd rfl (λh49=>?_) λh49=>?_
  ·have hk0:0<k:=by have hq:=h49;omega
   refine aT5 ?_
   refine o_p (Qa rfl rfl rfl Xi (k-1) om om (Rw.some (hs.es hi) om)) rfl (aU ?_)
   refine o_q (Qb rfl rfl X5 (((hs.es hi).rdj 0 (i:=k-1) om rfl))) rfl (o_h (Qc (cs:=[_]) rfl rfl QcG Qj1 rfl rfl rfl) rfl (λb50 _=>Y0 ?_))
   refine sCd rfl (λh51=>?_) λh51=>?_
   ·have hk9:k<(nth L v.i).es.length:=by have hq:=h51;omega
    refine Qi (L':=[(1,_),(2,_),(3,_),(4,_),(5,_),(12,_),(13,_),(15,_),(16,_),(17,_)]) aSx (λ_ h=>h) ?_
    refine aU4 ?_
    refine o_p (Qa rfl rfl rfl Xi (k) om om (Rw.some (hs.es hi) om)) rfl (aU ?_)
    refine o_q (Qb rfl rfl X5 (((hs.es hi).rdj 0 (i:=k) om rfl))) rfl (o_h (Qc (cs:=[_]) rfl rfl QcG Qj1 rfl rfl rfl) rfl (λb52 _=>aU3 ?_))
    refine Qq [] mixed ?_
    refine dLn 0 [] ?_
    refine dFa 1 ?_
    refine dLd 2 [] ?_
    refine dP 3 ?_
    refine dV 4 rfl (Qa rfl rfl rfl QU (k) om om (Rw.some (hs.cs hi) om)) (dQ 5 [] rfl (Qb rfl rfl Q3 (((hs.cs hi).rdj 0 (i:=k) hkl rfl))) (Qy (show _=Value.int .i64 ((Xl (pln L) v k).i:Int)from by rw[Xl,hn];exact congrArg (Value.int .i64) (Int.toNat_of_nonneg (show 0<=(nth L v.i).cs.getD k 0 by omega)).symm) (dP 6 ?_)))
    refine dP 7 ?_
    try refine dWr ?_
    refine dP 8 ?_
    refine dP 9 ?_
    refine dQ 10 [] rfl (Qe rfl Qeg rfl (λw1 h1=>ih w1 (Xl (pln L) v k) (v.i::P) (lv-1) _ _ _ _ _ _ (hs.later h1) hj hmo hT hB h0 hway2 (by simp only[Xl,List.length_cons];omega) (by simp only[Xl];omega) (Qdy hT hi0 (by rw[hn];show k<=(nth L v.i).es.length;omega) hko) (Qet hT hi0 hkp) (by show StK w1 _ _ (loK (nth (pln L) v.i).es k v.lo);rw[hn];show StK w1 _ _ (loK (nth L v.i).es k v.lo);first|(rw[Qdd hk0];exact StK.new (h1.rd_blk (Mc:=[]) aPk rfl (by simp)))|(rw[QfB hk0];exact hlo.later h1)) (by show StK w1 _ _ (hiK (nth (pln L) v.i).es k v.hi);rw[hn];show StK w1 _ _ (hiK (nth L v.i).es k v.hi);first|(rw[Qda hk9];exact StK.new (h1.rd_blk (Mc:=[]) aPk rfl (by simp)))|(rw[QfF hk9];exact hhi.later h1)) (by simp only[List.length_cons];omega))) (dP 11 ?_)
    refine dP 12 ?_
    refine dP 13 ?_
    refine dP 14 ?_
    refine dP 15 ?_
    refine dNi ?_
    refine aU ?_
    refine Qi (L':=[(1,_),(2,_),(3,_),(4,_),(5,_),(12,_),(13,_),(15,_),(18,_),(19,_)]) aSx (λ_ h=>h) ?_
    refine aU4 ?_
    refine sCd rfl (λh53=>?_) λh53=>?_
    ·have hbad:XC (⟨(j:Int),mo,rm,pln L⟩:Tre) deep (vis (pln L) (f+1) v)=XC (⟨(j:Int),mo,rm,pln L⟩:Tre) deep (vis (pln L) f (Xl (pln L) v k)):=by rw[YA,hn];obtain⟨B9,hB9⟩:=ZG (pln L) f v (show k+1<=(nth L v.i).pl.cs.length by show k+1<=(nth L v.i).cs.length;omega);rw[hB9,Xu,List.append_assoc,XG,if_pos hk3,XG,if_neg h53]
     refine aU7 ?_
     exact Qg (rs:=[.tmp 10,.tmp 11]) rfl (.tmp rfl (.tmp rfl (.nil))) (λw' h'=>⟨by rw[hbad];rfl,h'.below⟩)
    have hgood:(XC (⟨(j:Int),mo,rm,pln L⟩:Tre) deep (ZX (pln L) f v (k+1))).2=0:=by rw[Xu,XG,if_pos hk3];have hq:=h53;omega
    refine aT5 ?_
    refine aU2 ?_
    exact sBk (k+1) om ⟨om,hgood⟩
   have hk9:¬k<(nth L v.i).es.length:=by have hq:=h51;omega
   refine aU2 ?_
   refine Qi (L':=[(1,_),(2,_),(3,_),(4,_),(5,_),(12,_),(13,_),(15,_),(16,_),(17,_)]) aSx (λ_ h=>h) ?_
   refine Qq [] mixed ?_
   refine dLn 0 [] ?_
   refine dFa 1 ?_
   refine dLd 2 [] ?_
   refine dP 3 ?_
   refine dV 4 rfl (Qa rfl rfl rfl QU (k) om om (Rw.some (hs.cs hi) om)) (dQ 5 [] rfl (Qb rfl rfl Q3 (((hs.cs hi).rdj 0 (i:=k) hkl rfl))) (Qy (show _=Value.int .i64 ((Xl (pln L) v k).i:Int)from by rw[Xl,hn];exact congrArg (Value.int .i64) (Int.toNat_of_nonneg (show 0<=(nth L v.i).cs.getD k 0 by omega)).symm) (dP 6 ?_)))
   refine dP 7 ?_
   try refine dWr ?_
   refine dP 8 ?_
   refine dP 9 ?_
   refine dQ 10 [] rfl (Qe rfl Qeg rfl (λw1 h1=>ih w1 (Xl (pln L) v k) (v.i::P) (lv-1) _ _ _ _ _ _ (hs.later h1) hj hmo hT hB h0 hway2 (by simp only[Xl,List.length_cons];omega) (by simp only[Xl];omega) (Qdy hT hi0 (by rw[hn];show k<=(nth L v.i).es.length;omega) hko) (Qet hT hi0 hkp) (by show StK w1 _ _ (loK (nth (pln L) v.i).es k v.lo);rw[hn];show StK w1 _ _ (loK (nth L v.i).es k v.lo);first|(rw[Qdd hk0];exact StK.new (h1.rd_blk (Mc:=[]) aPk rfl (by simp)))|(rw[QfB hk0];exact hlo.later h1)) (by show StK w1 _ _ (hiK (nth (pln L) v.i).es k v.hi);rw[hn];show StK w1 _ _ (hiK (nth L v.i).es k v.hi);first|(rw[Qda hk9];exact StK.new (h1.rd_blk (Mc:=[]) aPk rfl (by simp)))|(rw[QfF hk9];exact hhi.later h1)) (by simp only[List.length_cons];omega))) (dP 11 ?_)
   refine dP 12 ?_
   refine dP 13 ?_
   refine dP 14 ?_
   refine dP 15 ?_
   refine dNi ?_
   refine aU5 ?_
   refine sCd rfl (λh54=>?_) λh54=>?_
   ·have hbad:XC (⟨(j:Int),mo,rm,pln L⟩:Tre) deep (vis (pln L) (f+1) v)=XC (⟨(j:Int),mo,rm,pln L⟩:Tre) deep (vis (pln L) f (Xl (pln L) v k)):=by rw[YA,hn];obtain⟨B9,hB9⟩:=ZG (pln L) f v (show k+1<=(nth L v.i).pl.cs.length by show k+1<=(nth L v.i).cs.length;omega);rw[hB9,Xu,List.append_assoc,XG,if_pos hk3,XG,if_neg h54]
    refine aU7 ?_
    exact Qg (rs:=[.tmp 10,.tmp 11]) rfl (.tmp rfl (.tmp rfl (.nil))) (λw' h'=>⟨by rw[hbad];rfl,h'.below⟩)
   have hgood:(XC (⟨(j:Int),mo,rm,pln L⟩:Tre) deep (ZX (pln L) f v (k+1))).2=0:=by rw[Xu,XG,if_pos hk3];have hq:=h54;omega
   refine aT5 ?_
   refine aU2 ?_
   exact sBk (k+1) om ⟨om,hgood⟩
  have hk0:¬0<k:=by have hq:=h49;omega
  refine YO ?_
  refine sCd rfl (λh55=>?_) λh55=>?_
  ·have hk9:k<(nth L v.i).es.length:=by have hq:=h55;omega
   refine aU4 ?_
   refine o_p (Qa rfl rfl rfl Xi (k) om om (Rw.some (hs.es hi) om)) rfl (aU ?_)
   refine o_q (Qb rfl rfl X5 (((hs.es hi).rdj 0 (i:=k) om rfl))) rfl (o_h (Qc (cs:=[_]) rfl rfl QcG Qj1 rfl rfl rfl) rfl (λb56 _=>aU3 ?_))
   refine Qi (L':=[(1,_),(2,_),(3,_),(4,_),(5,_),(12,_),(13,_),(15,_),(16,_),(17,_)]) aSx (λ_ h=>h) ?_
   refine Qq [] mixed ?_
   refine dLn 0 [] ?_
   refine dFa 1 ?_
   refine dLd 2 [] ?_
   refine dP 3 ?_
   refine dV 4 rfl (Qa rfl rfl rfl QU (k) om om (Rw.some (hs.cs hi) om)) (dQ 5 [] rfl (Qb rfl rfl Q3 (((hs.cs hi).rdj 0 (i:=k) hkl rfl))) (Qy (show _=Value.int .i64 ((Xl (pln L) v k).i:Int)from by rw[Xl,hn];exact congrArg (Value.int .i64) (Int.toNat_of_nonneg (show 0<=(nth L v.i).cs.getD k 0 by omega)).symm) (dP 6 ?_)))
   refine dP 7 ?_
   try refine dWr ?_
   refine dP 8 ?_
   refine dP 9 ?_
   refine dQ 10 [] rfl (Qe rfl Qeg rfl (λw1 h1=>ih w1 (Xl (pln L) v k) (v.i::P) (lv-1) _ _ _ _ _ _ (hs.later h1) hj hmo hT hB h0 hway2 (by simp only[Xl,List.length_cons];omega) (by simp only[Xl];omega) (Qdy hT hi0 (by rw[hn];show k<=(nth L v.i).es.length;omega) hko) (Qet hT hi0 hkp) (by show StK w1 _ _ (loK (nth (pln L) v.i).es k v.lo);rw[hn];show StK w1 _ _ (loK (nth L v.i).es k v.lo);first|(rw[Qdd hk0];exact StK.new (h1.rd_blk (Mc:=[]) aPk rfl (by simp)))|(rw[QfB hk0];exact hlo.later h1)) (by show StK w1 _ _ (hiK (nth (pln L) v.i).es k v.hi);rw[hn];show StK w1 _ _ (hiK (nth L v.i).es k v.hi);first|(rw[Qda hk9];exact StK.new (h1.rd_blk (Mc:=[]) aPk rfl (by simp)))|(rw[QfF hk9];exact hhi.later h1)) (by simp only[List.length_cons];omega))) (dP 11 ?_)
   refine dP 12 ?_
   refine dP 13 ?_
   refine dP 14 ?_
   refine dP 15 ?_
   refine dNi ?_
   refine aU5 ?_
   refine sCd rfl (λh57=>?_) λh57=>?_
   ·have hbad:XC (⟨(j:Int),mo,rm,pln L⟩:Tre) deep (vis (pln L) (f+1) v)=XC (⟨(j:Int),mo,rm,pln L⟩:Tre) deep (vis (pln L) f (Xl (pln L) v k)):=by rw[YA,hn];obtain⟨B9,hB9⟩:=ZG (pln L) f v (show k+1<=(nth L v.i).pl.cs.length by show k+1<=(nth L v.i).cs.length;omega);rw[hB9,Xu,List.append_assoc,XG,if_pos hk3,XG,if_neg h57]
    refine aU7 ?_
    exact Qg (rs:=[.tmp 10,.tmp 11]) rfl (.tmp rfl (.tmp rfl (.nil))) (λw' h'=>⟨by rw[hbad];rfl,h'.below⟩)
   have hgood:(XC (⟨(j:Int),mo,rm,pln L⟩:Tre) deep (ZX (pln L) f v (k+1))).2=0:=by rw[Xu,XG,if_pos hk3];have hq:=h57;omega
   refine aT5 ?_
   refine aU2 ?_
   exact sBk (k+1) om ⟨om,hgood⟩
  have hk9:¬k<(nth L v.i).es.length:=by have hq:=h55;omega
  refine aU2 ?_
  refine Qq [] mixed ?_
  refine dLn 0 [] ?_
  refine dFa 1 ?_
  refine dLd 2 [] ?_
  refine dP 3 ?_
  refine dV 4 rfl (Qa rfl rfl rfl QU (k) om om (Rw.some (hs.cs hi) om)) (dQ 5 [] rfl (Qb rfl rfl Q3 (((hs.cs hi).rdj 0 (i:=k) hkl rfl))) (Qy (show _=Value.int .i64 ((Xl (pln L) v k).i:Int)from by rw[Xl,hn];exact congrArg (Value.int .i64) (Int.toNat_of_nonneg (show 0<=(nth L v.i).cs.getD k 0 by omega)).symm) (dP 6 ?_)))
  refine dP 7 ?_
  try refine dWr ?_
  refine dP 8 ?_
  refine dP 9 ?_
  refine dQ 10 [] rfl (Qe rfl Qeg rfl (λw1 h1=>ih w1 (Xl (pln L) v k) (v.i::P) (lv-1) _ _ _ _ _ _ (hs.later h1) hj hmo hT hB h0 hway2 (by simp only[Xl,List.length_cons];omega) (by simp only[Xl];omega) (Qdy hT hi0 (by rw[hn];show k<=(nth L v.i).es.length;omega) hko) (Qet hT hi0 hkp) (by show StK w1 _ _ (loK (nth (pln L) v.i).es k v.lo);rw[hn];show StK w1 _ _ (loK (nth L v.i).es k v.lo);first|(rw[Qdd hk0];exact StK.new (h1.rd_blk (Mc:=[]) aPk rfl (by simp)))|(rw[QfB hk0];exact hlo.later h1)) (by show StK w1 _ _ (hiK (nth (pln L) v.i).es k v.hi);rw[hn];show StK w1 _ _ (hiK (nth L v.i).es k v.hi);first|(rw[Qda hk9];exact StK.new (h1.rd_blk (Mc:=[]) aPk rfl (by simp)))|(rw[QfF hk9];exact hhi.later h1)) (by simp only[List.length_cons];omega))) (dP 11 ?_)
  refine dP 12 ?_
  refine dP 13 ?_
  refine dP 14 ?_
  refine dP 15 ?_
  refine dNi ?_
  refine aU ?_
  refine Qi (L':=[(1,_),(2,_),(3,_),(4,_),(5,_),(12,_),(13,_),(15,_),(18,_),(19,_)]) aSx (λ_ h=>h) ?_
  refine aU4 ?_
  refine sCd rfl (λh58=>?_) λh58=>?_
  ·have hbad:XC (⟨(j:Int),mo,rm,pln L⟩:Tre) deep (vis (pln L) (f+1) v)=XC (⟨(j:Int),mo,rm,pln L⟩:Tre) deep (vis (pln L) f (Xl (pln L) v k)):=by rw[YA,hn];obtain⟨B9,hB9⟩:=ZG (pln L) f v (show k+1<=(nth L v.i).pl.cs.length by show k+1<=(nth L v.i).cs.length;omega);rw[hB9,Xu,List.append_assoc,XG,if_pos hk3,XG,if_neg h58]
   refine aU7 ?_
   exact Qg (rs:=[.tmp 10,.tmp 11]) rfl (.tmp rfl (.tmp rfl (.nil))) (λw' h'=>⟨by rw[hbad];rfl,h'.below⟩)
  have hgood:(XC (⟨(j:Int),mo,rm,pln L⟩:Tre) deep (ZX (pln L) f v (k+1))).2=0:=by rw[Xu,XG,if_pos hk3];have hq:=h58;omega
  refine aT5 ?_
  refine aU2 ?_
  exact sBk (k+1) om ⟨om,hgood⟩
 obtain rfl:k=(nth L v.i).cs.length:=om
 have hfin:XC (⟨(j:Int),mo,rm,pln L⟩:Tre) deep (vis (pln L) (f+1) v)=(0,0):=by rw[YA,hn];exact Qho hk3
 refine Qk rfl ?_
 refine aU5 ?_
 exact Qg (rs:=[.tmp 10,.tmp 11]) rfl (.tmp rfl (.tmp rfl (.nil))) (λw' h'=>⟨by rw[hfin];rfl,h'.below⟩)
theorem c108(j:Nat)(mo rm:Int)(a:Option Addr)(cap:Nat)(L:List LNd)(deep:Int):∀f,PlC j mo rm a cap L deep f
  | 0=>λw v P lv pa qa pn pc qn qc hs hj hmo hT hB h0 hway hd hlv hko hkp hlo hhi hf=>by
    have h1:=XD hT (by rw[Qd];exact h0) hway;rw[Qd,List.length_cons]at h1;omega
  | f+1=>λw v P lv pa qa pn pc qn qc hs hj hmo hT hB h0 hway hd hlv hko hkp hlo hhi hf=>Qot w j mo rm a cap L deep v P lv pa qa pn pc qn qc f hs hj hmo hT hB h0 hway hd hlv hko hkp hlo hhi hf (c108 j mo rm a cap L deep f)
end Go.Proofs
namespace Gx
open Go Go.RowKit
theorem Qoi{t:Tre}(h:¬QL t.co=0):Ql t=(0,QL t.co):=by rw[Qbc (by rw[if_neg h];exact h),if_neg h]
theorem QnI{t:Tre}(h:QL t.co=0)(h2:¬Yy t.mo t.rm=0):Ql t=(0,Yy t.mo t.rm):=by rw[Qbc (by rw[if_pos h];exact h2),if_pos h]
theorem Qon{t:Tre}(h:QL t.co=0)(h2:Yy t.mo t.rm=0)(h3:¬0<t.ns.length):Ql t=(0,10):=by
 have e:Yz t.ns.length=10:=if_neg h3;rw[QbX (by rw[if_pos h];exact h2) (by rw[e];decide),e]
theorem Qm5{t:Tre}(h:QL t.co=0)(h2:Yy t.mo t.rm=0)(h3:0<t.ns.length)(h4:¬t.ns.length<=120):Ql t=(0,8):=by
 have e:Yz t.ns.length=8:=by rw[Yz,if_pos h3,if_neg h4]
 rw[QbX (by rw[if_pos h];exact h2) (by rw[e];decide),e]
theorem QnS{t:Tre}(h:QL t.co=0)(h2:Yy t.mo t.rm=0)(h3:0<t.ns.length)(h4:t.ns.length<=120):Ql t=if(Xw t t.ns.length 0 []).2=0 then Qak t else Xw t t.ns.length 0 []:=QcB (by rw[if_pos h];exact h2) (by rw[Yz,if_pos h3,if_pos h4])
theorem Qf4(n:Nat):QbU [Value.bool false] n=QW n []:=by
 rw[QgZ];apply List.ext_getElem?;intro i
 by_cases hi:i<n
 ·rw[ZI hi,List.getElem?_replicate,if_pos hi];rfl
 ·rw[List.getElem?_eq_none (by rw[List.length_replicate];omega),List.getElem?_eq_none (by rw[ZQ];omega)]
theorem Qgn{vs:List Vis}{k:Nat}:((k:Nat):Int)∈mkS vs [] ↔ k∈vs.map Vis.i:=by
 rw[QlM,List.mem_map];constructor
 ·rintro⟨v,hv,h⟩;exact⟨v,hv,om⟩
 ·rintro⟨v,hv,h⟩;exact⟨v,hv,om⟩
theorem Qgb(ns:List Nd):∀(f i:Nat),0<=Yn ns f i/\Yn ns f i<=f
 | 0,i=>by rw[Yn];omega
 | f+1,i=>by
  rw[Yn];split
  ·omega
  ·have:=Qgb ns f ((nth ns i).cs.getD 0 0).toNat;omega
theorem QjR{ns:List Nd}{f i:Nat}(h:(nth ns i).cs.length=0):Yn ns f i=0:=by
 cases f with
 | zero=>rfl
 | succ f=>rw[Yn,if_pos h]
theorem Qi0{ns:List Nd}{f i:Nat}(h0:0<f)(h:¬(nth ns i).cs.length=0):Yn ns f i=Yn ns (f-1) ((nth ns i).cs.getD 0 0).toNat+1:=by
 obtain⟨g,rfl⟩:∃g,f=g+1:=⟨f-1,om⟩;rw[Yn,if_neg h];rfl
end Gx
namespace Go.Proofs
open Go Go.RowKit Gx
attribute [local irreducible] Go.Calls Gx.S Gx.O Gx.D Gx.OpP Gx.OpQ Gx.OpH
set_option maxRecDepth 20000
instance:TFn Tryz.prog 104:=⟨by kernel_rfl⟩
instance:TFn Tryz.prog 105:=⟨by kernel_rfl⟩
theorem QnY:QC Tryz.prog 106=true:=by kernel_rfl
instance:TFn Tryz.prog 57:=⟨by kernel_rfl⟩
theorem c57(w:World)(co mo rm:Int)(a:Option Addr)(cap:Nat)(L:List LNd)(hs:Nt w [] a L)(hB:Bd (pln L))(hkl:∀i,i<L.length->∀x∈(nth L i).es,x.key.length<=1000000):CR 57 #[.agg #[.int .i64 co,.int .i64 mo,.int .i64 rm,.slice a L.length cap]] w (.tuple #[.int .i64 (Ql (⟨co,mo,rm,pln L⟩:Tre)).1,.int .i64 (Ql (⟨co,mo,rm,pln L⟩:Tre)).2]):=by
 have hle:=hB.len
 rw[Qd]at hle
 have hes9:∀i,i<L.length->(nth L i).es.length<=1000:=λi hi=>by have h9:=hB.es i (by rw[Qd];exact hi);rw[QB hi]at h9;exact h9
 have hcs9:∀i,i<L.length->(nth L i).cs.length<=1000:=λi hi=>by have h9:=hB.cs i (by rw[Qd];exact hi);rw[QB hi]at h9;exact h9
 refine eN1 Tryz.func57 Tryz.ntmps57 ?_
 refine aU2 ?_
 refine oBx λb1 _=>?_
 refine aU8 ?_
 refine oCq rfl (λw1 h1=>c104 w1 _) (aU7 ?_)
 refine sCd rfl (λh2=>?_) λh2=>?_
 ·have hz:=Qoi (t:=(⟨co,mo,rm,pln L⟩:Tre)) h2
  refine aU6 ?_
  exact Qg (rs:=[.tmp 2,.tmp 3]) rfl (.tmp rfl (.tmp rfl (.nil))) (λw' h'=>⟨by rw[hz];rfl,h'.below⟩)
 have hc0:QL co=0:=by have hq:=h2;omega
 obtain⟨j,rfl,hj⟩:=Qa1 hc0
 refine aU8 ?_
 refine oCq rfl (λw1 h1=>c105 w1 _ _) (aU7 ?_)
 refine sCd rfl (λh3=>?_) λh3=>?_
 ·have hz:=QnI (t:=(⟨(j:Int),mo,rm,pln L⟩:Tre)) hc0 h3
  refine aU6 ?_
  exact Qg (rs:=[.tmp 2,.tmp 3]) rfl (.tmp rfl (.tmp rfl (.nil))) (λw' h'=>⟨by rw[hz];rfl,h'.below⟩)
 have hc1:Yy mo rm=0:=by have hq:=h3;omega
 have hsz2:(3<=mo/\mo<=8)/\(mo/2<=rm/\rm<=mo):=Qab hc1
 have hTL:((⟨(j:Int),mo,rm,pln L⟩:Tre)).ns.length=L.length:=Qd L
 refine aU9 ?_
 refine sCd rfl (λh4=>?_) λh4=>?_
 ·have hz:=Qon (t:=(⟨(j:Int),mo,rm,pln L⟩:Tre)) hc0 hc1 (by rw[hTL];have hq:=h4;omega)
  refine aU5 ?_
  exact Qg (rs:=[.tmp 2,.tmp 3]) rfl (.tmp rfl (.tmp rfl (.nil))) (λw' h'=>⟨by rw[hz];rfl,h'.below⟩)
 have h00:0<L.length:=by have hq:=h4;omega
 refine aU9 ?_
 refine sCd rfl (λh5=>?_) λh5=>?_
 ·have hz:=Qm5 (t:=(⟨(j:Int),mo,rm,pln L⟩:Tre)) hc0 hc1 (by rw[hTL];exact h00) (by rw[hTL];have hq:=h5;omega)
  refine aU5 ?_
  exact Qg (rs:=[.tmp 2,.tmp 3]) rfl (.tmp rfl (.tmp rfl (.nil))) (λw' h'=>⟨by rw[hz];rfl,h'.below⟩)
 have h120:L.length<=120:=by have hq:=h5;omega
 have hz:=QnS (t:=(⟨(j:Int),mo,rm,pln L⟩:Tre)) hc0 hc1 (by rw[hTL];exact h00) (by rw[hTL];exact h120)
 rw[hTL]at hz
 refine aU6 ?_
 refine o_h (Qhy (n:=L.length) rfl rfl rfl QbY Qm2 om om) rfl (λb6 _=>Yf (λw h=>(show HS _ _ [.blk b6 4 L.length (QW L.length []),.blk b1 24 4 [.int .i64 (j:Int),.int .i64 mo,.int .i64 rm,.slice a L.length cap]] w from by have h9:=h;rw[Nat.mul_one,Qf4]at h9;exact h9.ent aEt)) (aU4 ?_))
 refine Qi (L':=[(1,_),(2,_),(3,_),(6,_)]) aSx (λ_ h=>h) ?_
 refine aU4 ?_
 refine Qp (α:=Nat×List Int) [2,3,7,8,39,40,41,42,43,44,45,46,47,48,49,50,51,52,53] (λx=>[(7,.int .i64 (x.1:Int))]) (λx=>HS w [] [.blk b6 4 L.length (QW L.length x.2),.blk b1 24 4 [.int .i64 (j:Int),.int .i64 mo,.int .i64 rm,.slice a L.length cap]]) (λx=>x.1<=L.length/\(Xw (⟨(j:Int),mo,rm,pln L⟩:Tre) L.length 0 [])=Xw (⟨(j:Int),mo,rm,pln L⟩:Tre) (L.length-x.1) x.1 x.2) (λx=>L.length-x.1) (0,[]) ⟨Nat.zero_le _,rfl⟩ aSx (λw h=>h.ent aEt) (λ⟨k,S9⟩hx=>?_)
 dsimp only
 obtain⟨hk1,hk3⟩:=hx
 simp only[]at hk1 hk3
 refine aU9 ?_
 refine sCd rfl (λh7=>?_) λh7=>?_
 ·have hkl9:k<L.length:=by omega
  have hst:=Qds (t:=(⟨(j:Int),mo,rm,pln L⟩:Tre)) (k:=k) (seen:=S9) (by rw[hTL];exact hkl9)
  rw[hTL]at hst
  refine aU8 ?_
  refine o_h (Q1 (Cs:=[.blk b6 4 L.length (QW L.length S9)]) rfl QnY rfl aPs (λw1 h1 hf=>c106 w1 j mo rm a cap L k b6 L.length L.length S9 hf ((hs.keep h1).mono (QS aPs)) hj hkl9 om (hes9 _ hkl9) (hcs9 _ hkl9) (hkl _ hkl9))) rfl (λ_ _=>aU7 ?_)
  refine sCd rfl (λh8=>?_) λh8=>?_
  ·have hz3:(Xw (⟨(j:Int),mo,rm,pln L⟩:Tre) L.length 0 [])=((k:Int),(Xp (⟨(j:Int),mo,rm,pln L⟩:Tre) k S9).1):=by rw[hk3,hst,if_neg h8]
   rw[hz3,if_neg (show¬(((k:Int),(Xp (⟨(j:Int),mo,rm,pln L⟩:Tre) k S9).1):Int×Int).2=0 from h8)]at hz
   refine aU7 ?_
   exact Qg (rs:=[.tmp 2,.tmp 3]) rfl (.tmp rfl (.tmp rfl (.nil))) (λw' h'=>⟨by rw[hz];rfl,h'.below⟩)
  have hz3:Xw (⟨(j:Int),mo,rm,pln L⟩:Tre) (L.length-k) k S9=Xw (⟨(j:Int),mo,rm,pln L⟩:Tre) (L.length-(k+1)) (k+1) (Xp (⟨(j:Int),mo,rm,pln L⟩:Tre) k S9).2:=by rw[hst,if_pos (by have hq:=h8;omega)]
  refine aT5 ?_
  refine aU2 ?_
  exact sBk (k+1,(Xp (⟨(j:Int),mo,rm,pln L⟩:Tre) k S9).2) (by(try simp only[]);omega) ⟨by(try simp only[]);omega,by simp only[];rw[hk3,hz3]⟩
 have hnd:(Xw (⟨(j:Int),mo,rm,pln L⟩:Tre) L.length 0 [])=(0,0):=by rw[hk3,show L.length-k=0 by omega];rfl
 rw[hnd,if_pos rfl]at hz
 have hT:TOk (j:Int) (pln L):=Z2 (t:=(⟨(j:Int),mo,rm,pln L⟩:Tre)) (by show(Xw (⟨(j:Int),mo,rm,pln L⟩:Tre) (pln L).length 0 []).2=0;rw[Qd,hnd])
 have hvis:vis (pln L) L.length Zh=XX (pln L):=by unfold XX;rw[Qd]
 refine Qk rfl ?_
 refine aU5 ?_
 refine o_h (Qhy (n:=L.length) rfl rfl rfl QbY Qm2 om om) rfl (λb9 _=>Yf (λw h=>(show HS _ _ [.blk b9 4 L.length (QW L.length []),.blk b1 24 4 [.int .i64 (j:Int),.int .i64 mo,.int .i64 rm,.slice a L.length cap]] w from by have h9:=h;rw[Nat.mul_one,Qf4]at h9;exact h9.ent aEt)) (aU6 ?_))
 refine o_h (Q1 (Cs:=[.blk b9 4 L.length (QW L.length [])]) rfl Qjl rfl aPs (λw1 h1 hf=>c107 j mo rm a cap L b9 L.length L.length L.length w1 [] Zh [] hf ((hs.keep h1).mono (QS aPs)) hT hB h00 rfl (by simp))) rfl (λ_ _=>aU7 ?_)
 refine Qi (L':=[(1,_),(6,_),(7,_),(9,_),(10,_)]) aSx (λ_ h=>h) ?_
 refine Qp (α:=Nat) [2,3,10,61,62,63,64,65,66,67,68,69,70,71,72,73,74,75,76,77,78,79,80,81] (λk=>[(10,.int .i64 (k:Int))]) (λ_=>HS w [] [.blk b9 4 L.length (QW L.length (mkS (vis (pln L) L.length Zh) [])),.blk b1 24 4 [.int .i64 (j:Int),.int .i64 mo,.int .i64 rm,.slice a L.length cap]]) (λk=>k<=L.length/\Zq (pln L) ((XX (pln L)).map Vis.i) L.length 0=Zq (pln L) ((XX (pln L)).map Vis.i) (L.length-k) k) (λk=>L.length-k) 0 ⟨Nat.zero_le _,rfl⟩ aSx (λw h=>h.ent aEt) (λk hx=>?_)
 obtain⟨hk1,hk2⟩:=hx
 refine aU9 ?_
 refine sCd rfl (λh10=>?_) λh10=>?_
 ·have hkl9:k<L.length:=by omega
  have hst:=QeY (ns:=pln L) (below:=((XX (pln L)).map Vis.i)) (k:=k) (by rw[Qd];exact hkl9)
  rw[Qd,QB hkl9]at hst
  refine aU8 ?_
  refine o_p (Qa rfl rfl rfl Q2 (k) om om (Rw.some hs.1 om)) rfl (aU ?_)
  refine o_q (Qb rfl rfl QeN ((hs.1.rdj 0 hkl9 rfl))) rfl (aU ?_)
  refine QJ 6 74 80 rfl
   (λhg11 _=>by
    refine aU5 ?_
    refine o_p (Qa rfl rfl rfl QbY (k) om om rfl) rfl (Qn (show _=Value.pointer (some ⟨b9,k,none⟩)from by rw[Nat.zero_add,Nat.mul_one]) (aU ?_))
    refine o_q (Qv rfl rfl QeN (λw h=>h.rd_blk (Mc:=[]) aPk (ZI hkl9) (by simp))) rfl (aU2 ?_)
    exact oJt 6 80)
   (λhg13 _=>by
    refine aU5 ?_
    exact oJf 6 80) ?_
  refine aU ?_
  refine sCd rfl (λh15=>?_) λh15=>?_
  ·have hz7:(nth L k).pl.us=true/\k ∉ ((XX (pln L)).map Vis.i):=by have hq:=h15;rw[<-Qgn,<-hvis];simp only[LNd.pl];simpa using hq
   have hz8:=hz.trans (QbO (t:=(⟨(j:Int),mo,rm,pln L⟩:Tre)) (i:=k) (show Zq (pln L) _ (pln L).length 0=some k from by rw[Qd,hk2,hst,if_pos hz7]))
   refine aU6 ?_
   exact Qg (rs:=[.tmp 2,.tmp 3]) rfl (.tmp rfl (.tmp rfl (.nil))) (λw' h'=>⟨by rw[hz8];rfl,h'.below⟩)
  have hz7:¬((nth L k).pl.us=true/\k ∉ ((XX (pln L)).map Vis.i)):=by have hq:=h15;rw[<-Qgn,<-hvis];simp only[LNd.pl];intro h9;exact hq.elim (λh8=>by rw[h8]at h9;cases h9.1) (λh8=>h9.2 h8)
  refine aT5 ?_
  refine aU2 ?_
  exact sBk (k+1) om ⟨om,by rw[hk2,hst,if_neg hz7]⟩
 have hnone:Zq (pln L) ((XX (pln L)).map Vis.i) L.length 0=none:=by rw[hk2,show L.length-k=0 by omega];rfl
 have hz8:=hz.trans (QbQ (t:=(⟨(j:Int),mo,rm,pln L⟩:Tre)) (show Zq (pln L) _ (pln L).length 0=none from by rw[Qd];exact hnone))
 refine Qk rfl ?_
 refine YO ?_
 refine Qp (α:=Nat×Nat×List Nat) [11,12,82,83,84,85,86,87,88,89,90,91,92,93,94,95,96,97,98,99] (λy=>[(11,.int .i64 (y.1:Int)),(12,.int .i64 (y.2.1:Int))]) (λ_=>HS w [] [.blk b1 24 4 [.int .i64 (j:Int),.int .i64 mo,.int .i64 rm,.slice a L.length cap]]) (λy=>Gx.Way (pln L) (y.2.1::y.2.2)/\y.2.2.length=y.1/\Yn (pln L) L.length 0=(y.1:Int)+Yn (pln L) (L.length-y.1) y.2.1) (λy=>L.length-y.1) (0,0,[]) ⟨rfl,rfl,by simp⟩ aSx (λw h=>h.ent aEt) (λ⟨d,i,P⟩hx=>?_)
 dsimp only
 obtain⟨hway,hpl,hdp⟩:=hx
 simp only[]at hway hpl hdp
 have hil0:=ZE hT (by rw[Qd];exact h00) hway i (List.mem_cons_self ..)
 have hil:i<L.length:=by rw[Qd]at hil0;exact hil0
 have hnI:=QB hil
 have hwl:=XD hT (by rw[Qd];exact h00) hway
 rw[Qd,List.length_cons]at hwl
 have hcl:=hcs9 i hil
 refine aU6 ?_
 refine o_p (Qa rfl rfl rfl Q2 (i) om om (Rw.some hs.1 om)) rfl (aU ?_)
 refine o_q (Qb rfl rfl Ze ((hs.1.rdj 2 hil rfl))) rfl (aU3 ?_)
 refine sCd rfl (λh16=>?_) λh16=>?_
 ·have hcl0:0<(nth L i).cs.length:=by have hq:=h16;omega
  have hkid:=QaJ hT (by rw[Qd];exact hil) (i:=i) (k:=0) (by rw[hnI];exact hcl0)
  rw[hnI,Qd]at hkid
  simp only[LNd.pl]at hkid
  have hway2:=ZC hway (by rw[Qd];exact hil) (k:=0) (by rw[hnI];exact hcl0) (by rw[hnI];simp only[LNd.pl];omega)
  rw[hnI]at hway2
  have hwl2:=XD hT (by rw[Qd];exact h00) hway2
  rw[Qd,List.length_cons,List.length_cons]at hwl2
  have hdm:=Qi0 (ns:=pln L) (f:=L.length-d) (i:=i) om (by rw[hnI];show¬(nth L i).cs.length=0;omega)
  rw[hnI]at hdm
  refine aU7 ?_
  refine o_p (Qa rfl rfl rfl Q2 (i) om om (Rw.some hs.1 om)) rfl (aU ?_)
  refine o_q (Qb rfl rfl Ze ((hs.1.rdj 2 hil rfl))) rfl (o_p (Qa rfl rfl rfl QU (0) om om (Rw.some (hs.cs hil) om)) rfl (o_q (Qb rfl rfl Q3 (((hs.cs hil).rdj 0 (i:=0) om rfl))) rfl (Qn (show _=Value.int .i64 (((nth L i).cs.getD 0 0).toNat:Int)from congrArg (Value.int .i64) (Int.toNat_of_nonneg (show 0<=(nth L i).cs.getD 0 0 by omega)).symm) (aT6 ?_))))
  refine aU2 ?_
  exact sBk (d+1,((nth L i).cs.getD 0 0).toNat,i::P) (by(try simp only[]);omega) ⟨hway2,by simp[hpl],by simp only[]at *;rw[show L.length-(d+1)=L.length-d-1 by omega];have h9:(nth L i).pl.cs=(nth L i).cs:=rfl;rw[h9]at hdm;omega⟩
 have hde:=QjR (ns:=pln L) (f:=L.length-d) (i:=i) (by rw[hnI];show(nth L i).cs.length=0;have hq:=h16;omega)
 rw[hde,Int.add_zero]at hdp
 have hdl:=Qgb (pln L) L.length 0
 refine Qk rfl ?_
 refine aU4 ?_
 refine oCq rfl (λw1 h1=>c108 j mo rm a cap L (d:Int) L.length w1 Zh [] (d:Int) none none 0 0 0 0 (hs.later h1) hj om hT hB h00 rfl rfl (by show(d:Int)=d+1-1;omega) (λ_ h=>by cases h) (λ_ h=>by cases h) rfl rfl (by simp)) (aU5 ?_)
 exact Qg (rs:=[.tmp 2,.tmp 3]) rfl (.tmp rfl (.tmp rfl (.nil))) (λw' h'=>⟨by rw[hz8,show Yn ((⟨(j:Int),mo,rm,pln L⟩:Tre)).ns ((⟨(j:Int),mo,rm,pln L⟩:Tre)).ns.length 0=(d:Int)from by rw[hTL];exact hdp,show XX ((⟨(j:Int),mo,rm,pln L⟩:Tre)).ns=vis (pln L) L.length Zh from hvis.symm];rfl,h'.below⟩)
theorem c13(w:World)(co mo rm:Int)(a:Option Addr)(cap:Nat)(L:List LNd)(hs:Nt w [] a L)(hB:Bd (pln L))(hkl:∀i,i<L.length->∀x∈(nth L i).es,x.key.length<=1000000):CR 13 #[.agg #[.int .i64 co,.int .i64 mo,.int .i64 rm,.slice a L.length cap]] w (.int .i64 (Ql (⟨co,mo,rm,pln L⟩:Tre)).2):=by
 refine eN1 Tryz.func13 Tryz.ntmps13 ?_
 refine aU2 ?_
 refine oBx λb1 _=>?_
 refine aU5 ?_
 refine oCq rfl (λw1 h1=>c57 w1 co mo rm a cap L (hs.later h1) hB hkl) (Y0 ?_)
 exact rV
end Go.Proofs
namespace Gx
open Go Go.RowKit
def Qad(x:TEnt):Bool:=decide (x.key.length<=44/\x.val.length<=70)
def Z6(es:List TEnt):Bool:=es.all Qad
def QaD(n:Nd):Bool:=decide (n.es.length<=10/\n.cs.length<=11)&&Z6 n.es
def XL(ns:List Nd):Bool:=decide (ns.length<=122/\¬(60<ns.length/\ns.length<=120))&&ns.all QaD
theorem Qmy{n:Nd}(h1:n.es.length<=10)(h2:n.cs.length<=11)(h3:Z6 n.es=true):QaD n=true:=by
 rw[QaD,decide_eq_true (And.intro h1 h2),h3];rfl
theorem QlY{n:Nd}(h:(10<n.es.length\/11<n.cs.length)\/Z6 n.es=false):¬QaD n=true:=λh9=>by
 rw[QaD,Bool.and_eq_true,decide_eq_true_eq]at h9;rcases h with h|h
 ·omega
 ·rw[h]at h9;cases h9.2
theorem QiF{es:List TEnt}(h:∀q,q<es.length->Qad (nth es q)=true):Z6 es=true:=by
 refine List.all_eq_true.2 λx hx=>?_;obtain⟨q,hq,e⟩:=List.getElem_of_mem hx;have e2:nth es q=x:=Xr (by rw[List.getElem?_eq_getElem hq,e]);rw[<-e2];exact h q hq
theorem QiI{es:List TEnt}{k:Nat}(hk:k<es.length)(h:¬Qad (nth es k)=true):Z6 es=false:=by
 cases e:Z6 es
 ·rfl
 ·exact absurd (List.all_eq_true.1 e _ (QA hk)) h
theorem QlI{ns:List Nd}(h0:ns.length<=122/\¬(60<ns.length/\ns.length<=120))(h:∀q,q<ns.length->QaD (nth ns q)=true):XL ns=true:=by
 rw[XL,decide_eq_true h0,Bool.true_and];refine List.all_eq_true.2 λx hx=>?_;obtain⟨q,hq,e⟩:=List.getElem_of_mem hx;have e2:nth ns q=x:=Xr (by rw[List.getElem?_eq_getElem hq,e]);rw[<-e2];exact h q hq
theorem Qmt{ns:List Nd}{k:Nat}(hk:k<ns.length)(h:¬QaD (nth ns k)=true):XL ns=false:=by
 cases e:XL ns
 ·rfl
 ·rw[XL,Bool.and_eq_true]at e;exact absurd (List.all_eq_true.1 e.2 _ (QA hk)) h
theorem Ql4{ns:List Nd}(h:¬(ns.length<=122/\¬(60<ns.length/\ns.length<=120))):XL ns=false:=by
 rw[XL,decide_eq_false h,Bool.false_and]
theorem QkD{ns:List Nd}(h:XL ns=true):ns.length<=122:=by
 rw[XL,Bool.and_eq_true,decide_eq_true_eq]at h;exact h.1.1
theorem Z4{ns:List Nd}(h:XL ns=true){k:Nat}(hk:k<ns.length):(nth ns k).es.length<=10/\(nth ns k).cs.length<=11/\∀x∈(nth ns k).es,x.key.length<=44/\x.val.length<=70:=by
 rw[XL,Bool.and_eq_true]at h;have h2:=List.all_eq_true.1 h.2 _ (QA hk);rw[QaD,Bool.and_eq_true,decide_eq_true_eq]at h2;refine⟨h2.1.1,h2.1.2,λx hx=>?_⟩;have h3:=List.all_eq_true.1 h2.2 _ hx;rw[Qad,decide_eq_true_eq]at h3;exact h3
theorem Qc7{ns:List Nd}(h:XL ns=true):Bd ns where
 len:=Nat.le_trans (QkD h) (by decide)
 es i hi:=Nat.le_trans (Z4 h hi).1 (by decide)
 cs i hi:=Nat.le_trans (Z4 h hi).2.1 (by decide)
theorem Qid{ns:List Nd}(h:XL ns=true):Sm 1000 ns:=λk=>by
 rcases Nat.lt_or_ge k ns.length with hk|hk
 ·exact⟨Nat.le_trans (Z4 h hk).1 (by decide),Nat.le_trans (Z4 h hk).2.1 (by decide)⟩
 ·rw[QfX hk];exact⟨Nat.zero_le _,Nat.zero_le _⟩
theorem Qbi{L:List LNd}(h:XL (pln L)=true):∀i,i<L.length->∀x∈(nth L i).es,x.key.length<=1000000:=λi hi x hx=>by
 have h2:=(Z4 h (k:=i) (by rw[Qd];exact hi)).2.2 x (by rw[QB hi];exact hx);omega
theorem QiD{i:Nat}{P:List Nat}(h:0<P.length):Xv (i::P)=Xv P:=by
 cases P with
 | nil=>exact absurd h (Nat.lt_irrefl _)
 | cons p P=>
  unfold Xv;rw[show(i::p::P).length-1=(p::P).length-1+1 by simp];rfl
theorem Qiz{co:Int}{ns:List Nd}(hT:TOk co ns)(h0:0<ns.length)(key:List UInt8):∀(f i:Nat)(P:List Nat),Way ns (i::P)->P.length+f=ns.length->0<(Zp co ns key f i).1.length/\(Zp co ns key f i).1.length<=f/\Xv (Zp co ns key f i).1<ns.length/\(Zp co ns key f i).2.1=plc co (nth ns (Xv (Zp co ns key f i).1)).es key/\(Zp co ns key f i).2.2=fnd co (nth ns (Xv (Zp co ns key f i).1)).es key
 | 0,i,P,hw,hf=>by
  have:=XD hT h0 hw;rw[List.length_cons]at this;omega
 | f+1,i,P,hw,hf=>by
  by_cases h:fnd co (nth ns i).es key=true\/(nth ns i).cs.length=0
  ·rw[Zp,if_pos h];exact⟨Nat.one_pos,Nat.le_add_left 1 f,ZE hT h0 hw i (List.mem_cons_self ..),rfl,rfl⟩
  ·rw[Zp,if_neg h];have hi:=ZE hT h0 hw i (List.mem_cons_self ..)
   have hc:(nth ns i).cs.length=(nth ns i).es.length+1:=by
    rcases hT.shape i hi with h9|h9
    ·exact absurd (.inr h9) h
    ·exact h9
   have hk:plc co (nth ns i).es key<(nth ns i).cs.length:=by
    have:=QbV co key (nth ns i).es;omega
   have hkid:=QaJ hT hi hk;have ih:=Qiz hT h0 key f ((nth ns i).cs.getD (plc co (nth ns i).es key) 0).toNat (i::P) (ZC hw hi hk om) (by rw[List.length_cons];omega);simp only[];rw[QiD ih.1];exact⟨by rw[List.length_cons];omega,by rw[List.length_cons];omega,ih.2.2⟩
theorem QgQ{co:Int}{ns:List Nd}(hT:TOk co ns)(h0:0<ns.length)(key:List UInt8):0<(Qu co ns key).1.length/\(Qu co ns key).1.length<=ns.length/\Xv (Qu co ns key).1<ns.length/\(Qu co ns key).2.1=plc co (nth ns (Xv (Qu co ns key).1)).es key/\(Qu co ns key).2.2=fnd co (nth ns (Xv (Qu co ns key).1)).es key:=Qiz hT h0 key ns.length 0 [] rfl (by simp)
theorem QkK{co:Int}{es:List TEnt}{key:List UInt8}(h:fnd co es key=true):plc co es key<es.length:=by
 rw[fnd,Bool.and_eq_true,decide_eq_true_eq]at h;exact h.1
def Xb(co:Int)(ns:List Nd)(key:List UInt8):TEnt:=nth (nth ns (Xv (Qu co ns key).1)).es (Qu co ns key).2.1
end Gx
namespace Go.Proofs
open Go Go.RowKit Gx
attribute [local irreducible] Go.Calls Gx.S Gx.O Gx.D Gx.OpP Gx.OpQ Gx.OpH
set_option maxRecDepth 20000
instance:TFn Tryz.prog 80:=⟨by kernel_rfl⟩
instance:TFn Tryz.prog 37:=⟨by kernel_rfl⟩
theorem c80(w:World)(x:TEnt):CR 80 #[.agg #[.string (bs x.key),.string (bs x.val)]] w (.bool (Qad x)):=by
 refine eN1 Tryz.func80 Tryz.ntmps80 ?_
 refine aU2 ?_
 refine oBx λb1 _=>?_
 refine aU6 ?_
 refine o_p (Qr rfl rfl Tryz.underlying9) rfl (aU2 ?_)
 refine QJ 5 7 12 rfl
  (λhg2 _=>by
   refine aU5 ?_
   refine o_p (Qr rfl rfl Tryz.underlying9) rfl (aU2 ?_)
   exact oJt 5 12)
  (λhg4 _=>by
   refine aU4 ?_
   exact oJf 5 12) ?_
 refine aU2 ?_
 exact rV (h:=by simp only[Qw,Qad,Bool.decide_and];congr 3<;>exact decide_eq_decide.2 om)
theorem c37(w:World)(a:Option Addr)(cap:Nat)(l:List TEnt)(hs:Rw TEnt.vals 2 w [] a l)(hl:l.length<=1000):CR 37 #[.slice a l.length cap] w (.bool (Z6 l)):=by
 refine eN1 Tryz.func37 Tryz.ntmps37 ?_
 refine YO ?_
 refine Qp (α:=Nat) [2,3,4,5,6,7,8,9,10,11,12,13,14,15] (λk=>[(3,.int .i64 (k:Int))]) (λ_=>HS w [] []) (λk=>k<=l.length/\∀q,q<k->Qad (nth l q)=true) (λk=>l.length-k) 0 ⟨Nat.zero_le _,λq h=>absurd h (Nat.not_lt_zero q)⟩ aSx (λw h=>h.ent aEt) (λk hx=>?_)
 obtain⟨hk1,hk3⟩:=hx
 refine aU8 ?_
 refine sCd rfl (λh1=>?_) λh1=>?_
 ·have hk5:k<l.length:=by omega
  refine aU7 ?_
  refine o_p (Qa rfl rfl rfl Xi (k) om om (Rw.some hs om)) rfl (o_q (Qt _ rfl rfl YF rfl (Rw.rd hs hk5)) rfl (oCq rfl (λw1 h1=>c80 w1 (nth l k)) (aU2 ?_)))
  refine sCd rfl (λh2=>?_) λh2=>?_
  ·have hz1:¬Qad (nth l k)=true:=by have hq:=h2;simp[hq]
   have hbad:=QiI hk5 hz1
   refine aU4 ?_
   exact rV (h:=by rw[hbad];rfl)
  have hz1:Qad (nth l k)=true:=by have hq:=h2;simpa using hq
  refine aT5 ?_
  refine aU2 ?_
  exact sBk (k+1) om ⟨om,λq hq=>(Nat.lt_or_ge q k).elim (hk3 q) (λh9=>by obtain rfl:q=k:=om;exact hz1)⟩
 have hall:=QiF (es:=l) (λq hq=>hk3 q om)
 refine Qk rfl ?_
 refine aU4 ?_
 exact rV (h:=by rw[hall];rfl)
theorem c6(w:World)(co mo rm:Int)(a:Option Addr)(cap:Nat)(L:List LNd)(hs:Nt w [] a L):CR 6 #[.agg #[.int .i64 co,.int .i64 mo,.int .i64 rm,.slice a L.length cap]] w (.bool (XL (pln L))):=by
 have hnl:(pln L).length=L.length:=Qd L
 refine eN1 Tryz.func6 Tryz.ntmps6 ?_
 refine aU2 ?_
 refine oBx λb1 _=>?_
 refine YO ?_
 refine QJ 5 8 13 rfl
  (λhg2 _=>by
   refine aU8 ?_
   exact oJt 5 13)
  (λhg4 _=>by
   refine aU4 ?_
   exact oJf 5 13) ?_
 refine aU ?_
 refine oOr 5 14 19 rfl
  (λhg6 _=>by
   refine aU8 ?_
   exact oJf 5 19)
  (λhg8 _=>by
   refine aU4 ?_
   exact oJt 5 19) ?_
 refine aU ?_
 refine sCd rfl (λh10=>?_) λh10=>?_
 ·have hbad:=Ql4 (ns:=pln L) (by rw[hnl];have hq:=h10;omega)
  refine aU4 ?_
  exact rV (h:=by rw[hbad];rfl)
 have hlen:L.length<=122/\¬(60<L.length/\L.length<=120):=by have hq:=h10;omega
 refine aU7 ?_
 refine Qp (α:=Nat) [2,3,20,21,22,23,24,25,26,27,28,29,30,31,32,33,34,35,36,37,38,39,40,41,42,43,44,45,46,47,48,49,50,51,52,53,54] (λk=>[(3,.int .i64 (k:Int))]) (λ_=>HS w [] [.blk b1 24 4 [.int .i64 co,.int .i64 mo,.int .i64 rm,.slice a L.length cap]]) (λk=>k<=L.length/\∀q,q<k->QaD (nth (pln L) q)=true) (λk=>L.length-k) 0 ⟨Nat.zero_le _,λq h=>absurd h (Nat.not_lt_zero q)⟩ aSx (λw h=>h.ent aEt) (λk hx=>?_)
 obtain⟨hk1,hk3⟩:=hx
 refine aU9 ?_
 refine sCd rfl (λh11=>?_) λh11=>?_
 ·have hk5:k<L.length:=by omega
  have hnk:=QB hk5
  refine aU8 ?_
  refine o_p (Qa rfl rfl rfl Q2 (k) om om (Rw.some hs.1 om)) rfl (aU ?_)
  refine o_q (Qb rfl rfl Qao ((hs.1.rdj 1 hk5 rfl))) rfl (aU3 ?_)
  refine oOr 9 35 44 rfl
   (λhg12 _=>by
    refine aU7 ?_
    refine o_p (Qa rfl rfl rfl Q2 (k) om om (Rw.some hs.1 om)) rfl (aU3 ?_)
    refine o_q (Qb rfl rfl Ze ((hs.1.rdj 2 hk5 rfl))) rfl (aU4 ?_)
    exact oJf 9 44)
   (λhg14 _=>by
    refine aU8 ?_
    exact oJt 9 44) ?_
  refine aU ?_
  refine oOr 9 45 54 rfl
   (λhg16 _=>by
    refine aU7 ?_
    refine o_p (Qa rfl rfl rfl Q2 (k) om om (Rw.some hs.1 om)) rfl (aU3 ?_)
    refine o_q (Qb rfl rfl Qao ((hs.1.rdj 1 hk5 rfl))) rfl (aU ?_)
    refine oCq rfl (λw1 h1=>c37 w1 (nth L k).ea (nth L k).ec (nth L k).es ((hs.es hk5).later h1) (by have hq:=hg16;omega)) (aU2 ?_)
    exact oJf 9 54)
   (λhg18 _=>by
    refine aU8 ?_
    exact oJt 9 54) ?_
  refine aU ?_
  refine sCd rfl (λh20=>?_) λh20=>?_
  ·have hz1:¬QaD (nth (pln L) k)=true:=by rw[hnk];have hq:=h20;exact QlY (hq.imp (λh9=>by show 10<(nth L k).es.length\/11<(nth L k).cs.length;omega) id)
   have hbad:=Qmt (by rw[hnl];exact hk5) hz1
   refine aU4 ?_
   exact rV (h:=by rw[hbad];rfl)
  have hz1:QaD (nth (pln L) k)=true:=by rw[hnk];have hq:=h20;exact Qmy (by show(nth L k).es.length<=10;omega) (by show(nth L k).cs.length<=11;omega) hq.2
  refine aT5 ?_
  refine aU2 ?_
  exact sBk (k+1) om ⟨om,λq hq=>(Nat.lt_or_ge q k).elim (hk3 q) (λh9=>by obtain rfl:q=k:=om;exact hz1)⟩
 have hall:=QlI (ns:=pln L) (by rw[hnl];exact hlen) (λq hq=>hk3 q (by rw[hnl]at hq;omega))
 refine Qk rfl ?_
 refine aU4 ?_
 exact rV (h:=by rw[hall];rfl)
instance:TFn Tryz.prog 96:=⟨by kernel_rfl⟩
theorem QhV:Yh Tryz.prog 50=some [(0,1),(1,1)]:=by kernel_rfl
instance:TFn Tryz.prog 65:=⟨by kernel_rfl⟩
theorem c53e(w:World)(co mo rm:Int)(a:Option Addr)(cap:Nat)(L:List LNd)(key:List UInt8)(hs:Nt w [] a L)(hB:Bd (pln L))(hkl:∀i,i<L.length->∀x∈(nth L i).es,x.key.length<=1000000)(he:¬(Ql (⟨co,mo,rm,pln L⟩:Tre)).2=0):CR 53 #[.agg #[.int .i64 co,.int .i64 mo,.int .i64 rm,.slice a L.length cap],.string (bs key)] w (.tuple #[.agg #[.string (bs []),.string (bs [])],.int .i64 (Ql (⟨co,mo,rm,pln L⟩:Tre)).2]):=by
 refine eN2 Tryz.func53 Tryz.ntmps53 ?_
 refine aU2 ?_
 refine oBx λb1 _=>?_
 refine oAl (λb2 _=>?_) XB
 refine aU6 ?_
 refine oCq rfl (λw1 h1=>c96e w1 co mo rm a cap L key (hs.later h1.nil) hB hkl he) (Zr ?_)
 refine sCd rfl (λh3=>?_) λh3=>?_
 ·refine aU2 ?_
  refine o_p (Qs (cs:=[_,_]) rfl rfl QhV XB rfl) rfl (aU4 ?_)
  exact Qg (rs:=[.cell 4 50,.tmp 5]) rfl (.cell rfl YF aPk rfl (.tmp rfl (.nil))) (λw' h'=>⟨rfl,h'.below⟩)
 exfalso;first|omega|(simp at h3;done)|(simp_all;done)
theorem c53x(w:World)(j:Nat)(mo rm:Int)(a:Option Addr)(cap:Nat)(L:List LNd)(key:List UInt8)(hs:Nt w [] a L)(hB:Bd (pln L))(hkl:∀i,i<L.length->∀x∈(nth L i).es,x.key.length<=1000000)(hkk:key.length<=1000000)(h0:(Ql (⟨(j:Int),mo,rm,pln L⟩:Tre)).2=0)(hx:¬X6 (j:Int) key=0):CR 53 #[.agg #[.int .i64 (j:Int),.int .i64 mo,.int .i64 rm,.slice a L.length cap],.string (bs key)] w (.tuple #[.agg #[.string (bs []),.string (bs [])],.int .i64 (X6 (j:Int) key)]):=by
 obtain⟨hc0,hz0,hl0,hl120,hn0,_,_⟩:=Zd h0
 rw[show((⟨(j:Int),mo,rm,pln L⟩:Tre)).ns=pln L from rfl,Qd]at hl0 hl120
 have hj:j<=3:=by obtain⟨j9,e9,hj9⟩:=Qa1 hc0;have e8:((j:Nat):Int)=(j9:Int):=e9;omega
 have hT:TOk (j:Int) (pln L):=Z2 (t:=(⟨(j:Int),mo,rm,pln L⟩:Tre)) hn0
 have hmo:=(Qab hz0).1
 simp only[]at hmo
 refine eN2 Tryz.func53 Tryz.ntmps53 ?_
 refine aU2 ?_
 refine oBx λb1 _=>?_
 refine oAl (λb2 _=>?_) XB
 refine aU6 ?_
 refine oCh rfl (λw1 h1=>QnZ w1 j mo rm a cap L key (hs.later h1.nil) hB hkl hkk h0) (λ⟨b9,⟨gn9,c9⟩,L9⟩hF9=>?_)
 dsimp only
 obtain⟨hL9,hn9,hm9⟩:=hF9
 simp only[]at hL9 hn9 hm9
 have hl9:L9.length=L.length:=by rw[<-Qd L9,hL9,Qd]
 have hB9:Bd (pln L9):=by rw[hL9];exact hB
 have hT9:TOk (j:Int) (pln L9):=by rw[hL9];exact hT
 have hK9:∀i,i<L9.length->∀y∈(nth L9 i).es,QE (j:Int) y.key=true/\y.key.length<=1000000:=λi hi y hy=>Qa4 hT9 i (by rw[Qd];exact hi) y (by rw[QB hi];exact hy)
 refine Zr ?_
 refine sCd rfl (λh3=>?_) λh3=>?_
 ·refine aU2 ?_
  refine o_p (Qs (cs:=[_,_]) rfl rfl QhV XB rfl) rfl (aU4 ?_)
  exact Qg (rs:=[.cell 4 50,.tmp 5]) rfl (.cell rfl YF aPk rfl (.tmp rfl (.nil))) (λw' h'=>⟨rfl,h'.below⟩)
 exfalso;first|omega|(simp at h3;done)|(simp_all;done)
theorem c53m(w:World)(j:Nat)(mo rm:Int)(a:Option Addr)(cap:Nat)(L:List LNd)(key:List UInt8)(hs:Nt w [] a L)(hB:Bd (pln L))(hkl:∀i,i<L.length->∀x∈(nth L i).es,x.key.length<=1000000)(h0:(Ql (⟨(j:Int),mo,rm,pln L⟩:Tre)).2=0)(hkk:key.length<=1000000)(hx0:X6 (j:Int) key=0)(hx:¬(Qu (j:Int) (pln L) key).2.2=true):CR 53 #[.agg #[.int .i64 (j:Int),.int .i64 mo,.int .i64 rm,.slice a L.length cap],.string (bs key)] w (.tuple #[.agg #[.string (bs []),.string (bs [])],.int .i64 6]):=by
 obtain⟨hc0,hz0,hl0,hl120,hn0,_,_⟩:=Zd h0
 rw[show((⟨(j:Int),mo,rm,pln L⟩:Tre)).ns=pln L from rfl,Qd]at hl0 hl120
 have hj:j<=3:=by obtain⟨j9,e9,hj9⟩:=Qa1 hc0;have e8:((j:Nat):Int)=(j9:Int):=e9;omega
 have hT:TOk (j:Int) (pln L):=Z2 (t:=(⟨(j:Int),mo,rm,pln L⟩:Tre)) hn0
 have hmo:=(Qab hz0).1
 simp only[]at hmo
 have hkey:QE (j:Int) key=true:=keyE_ok hx0
 refine eN2 Tryz.func53 Tryz.ntmps53 ?_
 refine aU2 ?_
 refine oBx λb1 _=>?_
 refine oAl (λb2 _=>?_) XB
 refine aU6 ?_
 refine oCh rfl (λw1 h1=>QnZ w1 j mo rm a cap L key (hs.later h1.nil) hB hkl hkk h0) (λ⟨b9,⟨gn9,c9⟩,L9⟩hF9=>?_)
 dsimp only
 obtain⟨hL9,hn9,hm9⟩:=hF9
 simp only[]at hL9 hn9 hm9
 have hl9:L9.length=L.length:=by rw[<-Qd L9,hL9,Qd]
 have hB9:Bd (pln L9):=by rw[hL9];exact hB
 have hT9:TOk (j:Int) (pln L9):=by rw[hL9];exact hT
 have hK9:∀i,i<L9.length->∀y∈(nth L9 i).es,QE (j:Int) y.key=true/\y.key.length<=1000000:=λi hi y hy=>Qa4 hT9 i (by rw[Qd];exact hi) y (by rw[QB hi];exact hy)
 refine Zr ?_
 refine sCd rfl (λh3=>?_) λh3=>?_
 ·exfalso;first|omega|(simp at h3;done)|(simp_all;done)
 refine aU5 ?_
 refine oCh rfl (λw1 h1=>c97 w1 b9 j mo rm (some ⟨gn9,0,none⟩) c9 L9 key hj om hB9 hT9 hK9 hkey hkk (HS.nt_at h1 aPk aPk) (HS.tbr h1 aPk)) (λ⟨pa,pc⟩_=>?_)
 dsimp only
 rw[hL9]
 refine Qg0 ?_
 refine sCd rfl (λh4=>?_) λh4=>?_
 ·refine aU2 ?_
  refine o_p (Qs (cs:=[_,_]) rfl rfl QhV XB rfl) rfl (aU3 ?_)
  exact Qg (rs:=[.cell 4 50,.tmp 5]) rfl (.cell rfl YF aPk rfl (.tmp rfl (.nil))) (λw' h'=>⟨rfl,h'.below⟩)
 exfalso;first|omega|(simp at h4;done)|(simp_all;done)
theorem c53o(w:World)(j:Nat)(mo rm:Int)(a:Option Addr)(cap:Nat)(L:List LNd)(key:List UInt8)(hs:Nt w [] a L)(hB:Bd (pln L))(hkl:∀i,i<L.length->∀x∈(nth L i).es,x.key.length<=1000000)(h0:(Ql (⟨(j:Int),mo,rm,pln L⟩:Tre)).2=0)(hkk:key.length<=1000000)(hx0:X6 (j:Int) key=0)(hx:(Qu (j:Int) (pln L) key).2.2=true):CR 53 #[.agg #[.int .i64 (j:Int),.int .i64 mo,.int .i64 rm,.slice a L.length cap],.string (bs key)] w (.tuple #[.agg #[.string (bs (Xb (j:Int) (pln L) key).key),.string (bs (Xb (j:Int) (pln L) key).val)],.int .i64 0]):=by
 obtain⟨hc0,hz0,hl0,hl120,hn0,_,_⟩:=Zd h0
 rw[show((⟨(j:Int),mo,rm,pln L⟩:Tre)).ns=pln L from rfl,Qd]at hl0 hl120
 have hj:j<=3:=by obtain⟨j9,e9,hj9⟩:=Qa1 hc0;have e8:((j:Nat):Int)=(j9:Int):=e9;omega
 have hT:TOk (j:Int) (pln L):=Z2 (t:=(⟨(j:Int),mo,rm,pln L⟩:Tre)) hn0
 have hmo:=(Qab hz0).1
 simp only[]at hmo
 have hkey:QE (j:Int) key=true:=keyE_ok hx0
 have hend:=QgQ hT (by rw[Qd];exact hl0) key
 obtain⟨hp1,hp2,hp3,hp4,hp5⟩:=hend
 rw[Qd]at hp2 hp3
 refine eN2 Tryz.func53 Tryz.ntmps53 ?_
 refine aU2 ?_
 refine oBx λb1 _=>?_
 refine oAl (λb2 _=>?_) XB
 refine aU6 ?_
 refine oCh rfl (λw1 h1=>QnZ w1 j mo rm a cap L key (hs.later h1.nil) hB hkl hkk h0) (λ⟨b9,⟨gn9,c9⟩,L9⟩hF9=>?_)
 dsimp only
 obtain⟨hL9,hn9,hm9⟩:=hF9
 simp only[]at hL9 hn9 hm9
 have hl9:L9.length=L.length:=by rw[<-Qd L9,hL9,Qd]
 have hB9:Bd (pln L9):=by rw[hL9];exact hB
 have hT9:TOk (j:Int) (pln L9):=by rw[hL9];exact hT
 have hK9:∀i,i<L9.length->∀y∈(nth L9 i).es,QE (j:Int) y.key=true/\y.key.length<=1000000:=λi hi y hy=>Qa4 hT9 i (by rw[Qd];exact hi) y (by rw[QB hi];exact hy)
 refine Zr ?_
 refine sCd rfl (λh3=>?_) λh3=>?_
 ·exfalso;first|omega|(simp at h3;done)|(simp_all;done)
 refine aU5 ?_
 refine oCh rfl (λw1 h1=>c97 w1 b9 j mo rm (some ⟨gn9,0,none⟩) c9 L9 key hj om hB9 hT9 hK9 hkey hkk (HS.nt_at h1 aPk aPk) (HS.tbr h1 aPk)) (λ⟨pa,pc⟩_=>?_)
 dsimp only
 rw[hL9]
 refine Qg0 ?_
 refine sCd rfl (λh4=>?_) λh4=>?_
 ·exfalso;first|omega|(simp at h4;done)|(simp_all;done)
 have hlf:(Xv (Qu (j:Int) (pln L) key).1)<L9.length:=om
 have hn9f:nth (pln L) (Xv (Qu (j:Int) (pln L) key).1)=(nth L9 (Xv (Qu (j:Int) (pln L) key).1)).pl:=by have h9:=QB hlf;rw[hL9]at h9;exact h9
 have hat:=QkK (hp5▸hx)
 rw[<-hp4,hn9f]at hat
 simp only[LNd.pl]at hat
 have hpn:(Qu (j:Int) (pln L) key).1.length-1<(Qu (j:Int) (pln L) key).1.length:=om
 have hXN:(Xb (j:Int) (pln L) key)=nth (nth L9 (Xv (Qu (j:Int) (pln L) key).1)).es (Qu (j:Int) (pln L) key).2.1:=by rw[Xb,hn9f];rfl
 refine ZD (λw h=>HS.kids_some (by rw[Qfz];omega) h aPk) λhpa=>?_
 obtain⟨gp,hpa⟩:=hpa
 refine ZD (λw h=>HS.es_some (i:=(Xv (Qu (j:Int) (pln L) key).1)) hlf om h aPk) λhge=>?_
 obtain⟨ge,hge⟩:=hge
 refine aU2 ?_
 refine Qq [17] mixed ?_
 refine dP 0 ?_
 refine dP 1 ?_
 refine dFa 2 ?_
 refine dFa 3 ?_
 refine dLd 4 [[]] ?_
 refine dP 5 ?_
 refine dP 6 ?_
 refine dV 7 rfl (Qx rfl rfl Tryz.underlying65) (dP 8 ?_)
 try refine dWr ?_
 refine dV 9 rfl (Qa rfl rfl rfl QU ((Qu (j:Int) (pln L) key).1.length-1) om om hpa) (dQ 10 [[]] rfl (Qv rfl rfl Q3 (λw h=>HS.path_rd hpn hpa h aPk)) (Qy (show _=Value.int .i64 (((Xv (Qu (j:Int) (pln L) key).1):Nat):Int)from rfl) (dV 11 rfl (Qa rfl rfl rfl Q2 ((Xv (Qu (j:Int) (pln L) key).1)) om om rfl) (Qy (show _=Value.pointer (some ⟨gn9,(Xv (Qu (j:Int) (pln L) key).1)*3,none⟩)from by rw[Nat.zero_add]) (dFa 12 ?_)))))
 refine dQ 13 [[]] rfl (Qv rfl rfl Qao (λw h=>HS.nd_cell hlf h aPk 1 rfl (by decide))) (dP 14 ?_)
 refine dV 15 rfl (Qa rfl rfl rfl Xi ((Qu (j:Int) (pln L) key).2.1) om om hge) (dQ 16 [[]] rfl (Qae _ rfl rfl YF (by rfl) (λw h=>HS.es_rd (i:=(Xv (Qu (j:Int) (pln L) key).1)) hlf hat hge h aPk)) (dSt 17 ?_ (hl:=(by simp only[Qj,List.length_set,List.length_cons,List.length_nil,List.length_map];omega))))
 refine dTu [] ?_
 refine dP 18 ?_
 refine dNi ?_
 exact Qg (rs:=[.cell 4 50,.tmp 5]) rfl (.cell rfl YF aPk rfl (.tmp rfl (.nil))) (λw' h'=>⟨by rw[hXN];rfl,h'.below⟩)
theorem c19m(w:World)(j:Nat)(mo rm:Int)(a:Option Addr)(cap:Nat)(L:List LNd)(key:List UInt8)(hs:Nt w [] a L)(hB:Bd (pln L))(hj:j<=3)(hl0:0<L.length)(hT:TOk (j:Int) (pln L))(hkk:key.length<=1000000)(hx0:X6 (j:Int) key=0)(hx:¬(Qu (j:Int) (pln L) key).2.2=true):CR 19 #[.agg #[.int .i64 (j:Int),.int .i64 mo,.int .i64 rm,.slice a L.length cap],.string (bs key)] w (.tuple #[.agg #[.string (bs []),.string (bs [])],.bool false]):=by
 have hkey:QE (j:Int) key=true:=keyE_ok hx0
 refine eN2 Tryz.func19 Tryz.ntmps19 ?_
 refine aU2 ?_
 refine oBx λb1 _=>?_
 refine oAl (λb2 _=>?_) XB
 refine aU6 ?_
 refine oCh rfl (λw1 h1=>c65 w1 j mo rm a cap L key hj hl0 hB hT (hs.later h1.nil) hkey hkk) (λ⟨pa,pc⟩_=>Zr ?_)
 refine sCd rfl (λh3=>?_) λh3=>?_
 ·refine aU2 ?_
  refine o_p (Qs (cs:=[_,_]) rfl rfl QhV XB rfl) rfl (aU3 ?_)
  exact Qg (rs:=[.cell 4 50,.tmp 5]) rfl (.cell rfl YF aPk rfl (.tmp rfl (.nil))) (λw' h'=>⟨rfl,h'.below⟩)
 exfalso;first|omega|(simp at h3;done)|(simp_all;done)
theorem c19o(w:World)(j:Nat)(mo rm:Int)(a:Option Addr)(cap:Nat)(L:List LNd)(key:List UInt8)(hs:Nt w [] a L)(hB:Bd (pln L))(hj:j<=3)(hl0:0<L.length)(hT:TOk (j:Int) (pln L))(hkk:key.length<=1000000)(hx0:X6 (j:Int) key=0)(hx:(Qu (j:Int) (pln L) key).2.2=true):CR 19 #[.agg #[.int .i64 (j:Int),.int .i64 mo,.int .i64 rm,.slice a L.length cap],.string (bs key)] w (.tuple #[.agg #[.string (bs (Xb (j:Int) (pln L) key).key),.string (bs (Xb (j:Int) (pln L) key).val)],.bool true]):=by
 have hkey:QE (j:Int) key=true:=keyE_ok hx0
 have hK:∀i,i<L.length->∀y∈(nth L i).es,QE (j:Int) y.key=true/\y.key.length<=1000000:=λi hi y hy=>Qa4 hT i (by rw[Qd];exact hi) y (by rw[QB hi];exact hy)
 have hend:=QgQ hT (by rw[Qd];exact hl0) key
 obtain⟨hp1,hp2,hp3,hp4,hp5⟩:=hend
 rw[Qd]at hp2 hp3
 have hlf:(Xv (Qu (j:Int) (pln L) key).1)<L.length:=hp3
 have hnf:=QB hlf
 have hat:=QkK (hp5▸hx)
 rw[<-hp4,hnf]at hat
 simp only[LNd.pl]at hat
 have hpl4:plc (j:Int) (nth L (Xv (Qu (j:Int) (pln L) key).1)).es key=(Qu (j:Int) (pln L) key).2.1:=by rw[hp4,hnf];rfl
 have hXN:(Xb (j:Int) (pln L) key)=nth (nth L (Xv (Qu (j:Int) (pln L) key).1)).es (Qu (j:Int) (pln L) key).2.1:=by rw[Xb,hnf];rfl
 have hel:=hB.es (Xv (Qu (j:Int) (pln L) key).1) (by rw[Qd];exact hlf)
 rw[hnf]at hel
 simp only[LNd.pl]at hel
 have hle:=hB.len
 rw[Qd]at hle
 refine eN2 Tryz.func19 Tryz.ntmps19 ?_
 refine aU2 ?_
 refine oBx λb1 _=>?_
 refine oAl (λb2 _=>?_) XB
 refine aU6 ?_
 refine oCh rfl (λw1 h1=>c65 w1 j mo rm a cap L key hj hl0 hB hT (hs.later h1.nil) hkey hkk) (λ⟨pa,pc⟩_=>?_)
 dsimp only
 refine Qj3 (λw h=>HS.pown_some (P:=(Qu (j:Int) (pln L) key).1) (a:=pa) (c:=pc) hp1 h aPk) λhpa=>?_
 obtain⟨gp,hpa⟩:=hpa
 refine Zr ?_
 refine sCd rfl (λh3=>?_) λh3=>?_
 ·exfalso;first|omega|(simp at h3;done)|(simp_all;done)
 refine aT7 ?_
 refine o_p (Qa rfl rfl rfl QU ((Qu (j:Int) (pln L) key).1.length-1) om om hpa) rfl (o_q (Qv rfl rfl Q3 (λw h=>HS.pown_rd (P:=(Qu (j:Int) (pln L) key).1) (a:=pa) (c:=pc) (k:=(Qu (j:Int) (pln L) key).1.length-1) om hpa h aPk)) rfl (Qn (show _=Value.int .i64 (((Xv (Qu (j:Int) (pln L) key).1):Nat):Int)from rfl) (aU7 ?_)))
 refine oCq rfl (λw1 h1=>by have h9:=c66 w1 j mo rm a cap L (Xv (Qu (j:Int) (pln L) key).1) key hj hlf (hs.later h1.nil) hle hel (hK _ hlf) hkey hkk;rw[hpl4]at h9;exact h9) (aU7 ?_)
 refine Qi (L':=[(2,_),(4,_),(5,_),(8,_),(9,_)]) aSx (λ_ h=>h) ?_
 refine aU4 ?_
 refine o_p (Qa rfl rfl rfl Q2 ((Xv (Qu (j:Int) (pln L) key).1)) om om (Rw.some hs.1 om)) rfl (aU ?_)
 refine o_q (Qb rfl rfl Qao ((hs.1.rdj 1 hlf rfl))) rfl (aU ?_)
 refine o_p (Qa rfl rfl rfl Xi ((Qu (j:Int) (pln L) key).2.1) om om (Rw.some (hs.es hlf) om)) rfl (o_q (Qt _ rfl rfl YF rfl (Rw.rd (hs.es hlf) hat)) rfl (aU3 ?_))
 exact Qg (rs:=[.cell 4 50,.tmp 5]) rfl (.cell rfl YF aPk rfl (.tmp rfl (.nil))) (λw' h'=>⟨by rw[hXN];rfl,h'.below⟩)
end Go.Proofs
namespace Gx
open Go Go.RowKit
theorem QgE{ns:List Nd}{below:List Nat}:∀{f i:Nat},Zq ns below f i=none->∀j,i<=j->j<i+f->(nth ns j).us=true->j∈below
 | 0,i,_,j,h1,h2,_=>by omega
 | f+1,i,h,j,h1,h2,hu=>by
  rw[Zq]at h;split at h
  ·cases h
  ·rename_i hn;rcases Nat.eq_or_lt_of_le h1 with e|e
   ·grind
   ·exact QgE h j e om hu
theorem Qh5{t:Tre}{deep:Int}:∀{vs:List Vis},(XC t deep vs).2=0->∀v∈vs,Qbu t deep v=0
 | [],_,v,hv=>by cases hv
 | u::vs,h,v,hv=>by
  rw[XC]at h;split at h
  ·rename_i h1;rcases List.mem_cons.1 hv with e|e
   ·rw[e];exact h1
   ·exact Qh5 h v e
  grind
end Gx
namespace Gx
open Go Go.RowKit
inductive BT where
 | nd (i:Nat) (es:List TEnt) (ks:List BT)
namespace BT
def idx:BT->Nat|nd i _ _=>i
def es:BT->List TEnt|nd _ es _=>es
def ks:BT->List BT|nd _ _ ks=>ks
end BT
instance:Inhabited BT:=⟨.nd 0 [] []⟩
def YI(ks:List BT):List Int:=ks.map λk=>(k.idx:Int)
theorem Qk1(a b:List BT):YI (a++b)=YI a++YI b:=by simp[YI]
theorem QcE(a:BT)(b:List BT):YI (a::b)=(a.idx:Int)::YI b:=rfl
theorem QdZ(a:List BT):(YI a).length=a.length:=by simp[YI]
mutual
def BT.nodes:BT->List (Nat×Nd)
 | .nd i es ks=>(i,⟨true,es,YI ks⟩)::nodesL ks
def nodesL:List BT->List (Nat×Nd)
 | []=>[]
 | k::ks=>k.nodes++nodesL ks
end
mutual
def BT.flat:BT->List TEnt
 | .nd _ es ks=>flatL es ks
def flatL:List TEnt->List BT->List TEnt
 | es,[]=>es
 | [],k::ks=>k.flat++flatL [] ks
 | e::es,k::ks=>k.flat++e::flatL es ks
end
theorem Qht(a b:List BT):nodesL (a++b)=nodesL a++nodesL b:=by
 induction a with
 | nil=>rfl
 | cons x a ih=>rw[List.cons_append,nodesL,nodesL,ih,List.append_assoc]
structure RepN(ns:List Nd)(N:List (Nat×Nd)):Prop where
 get:∀p∈N,ns[p.1]?=some p.2
 nd:(N.map Prod.fst).Nodup
 rest:∀i,i<ns.length->i ∉ N.map Prod.fst->nth ns i=⟨false,[],[]⟩
section
variable{ns:List Nd}{N N':List (Nat×Nd)}{i:Nat}{x y:Nd}
theorem RepN.perm(h:RepN ns N)(hp:N.Perm N'):RepN ns N':=
 ⟨λp hp'=>h.get p (hp.mem_iff.2 hp'),(hp.map _).nodup_iff.1 h.nd,λi hi hn=>h.rest i hi λhm=>hn ((hp.map _).mem_iff.1 hm)⟩
theorem RepN.lt(h:RepN ns N){p:Nat×Nd}(hp:p∈N):p.1<ns.length:=(List.getElem?_eq_some_iff.1 (h.get p hp)).1
theorem RepN.at_(h:RepN ns N)(hp:(i,x)∈N):i<ns.length/\nth ns i=x:=⟨h.lt hp,Xr (h.get _ hp)⟩
end
def YB(N:List (Nat×Nd)):List Int:=N.flatMap λp=>p.2.cs
theorem Qhz(A B:List (Nat×Nd)):YB (A++B)=YB A++YB B:=List.flatMap_append
theorem QgN(p:Nat×Nd)(B:List (Nat×Nd)):YB (p::B)=p.2.cs++YB B:=List.flatMap_cons
mutual
theorem Qdz:∀T:BT,(((T.idx:Nat):Int)::YB T.nodes).Perm (T.nodes.map λp=>((p.1:Nat):Int))
 | .nd i es ks=>by
  rw[BT.nodes,QgN,List.map_cons];exact List.Perm.cons _ (kids_nodesL ks)
theorem kids_nodesL:∀ks:List BT,(YI ks++YB (nodesL ks)).Perm ((nodesL ks).map λp=>((p.1:Nat):Int))
 | []=>.refl _
 | k::ks=>by
  rw[nodesL,Qhz,List.map_append,QcE,List.cons_append];have h1:=Qdz k;have h2:=kids_nodesL ks
  have h3:((k.idx:Int)::(YI ks++(YB k.nodes++YB (nodesL ks)))).Perm (((k.idx:Int)::YB k.nodes)++(YI ks++YB (nodesL ks))):=by
   rw[List.cons_append];refine List.Perm.cons _ ?_;rw[<-List.append_assoc,<-List.append_assoc];exact List.perm_append_comm.append_right _
  exact h3.trans (h1.append h2)
end
mutual
theorem QdN:∀T:BT,∀p∈T.nodes,p.2.us=true
 | .nd i es ks=>λp hp=>by
  rw[BT.nodes]at hp;rcases List.mem_cons.1 hp with rfl|hp
  ·rfl
  ·exact nodesL_us ks p hp
theorem nodesL_us:∀ks:List BT,∀p∈nodesL ks,p.2.us=true
 | []=>λp hp=>(nomatch hp)
 | k::ks=>λp hp=>by
  rw[nodesL]at hp;rcases List.mem_append.1 hp with hp|hp
  ·exact QdN k p hp
  ·exact nodesL_us ks p hp
end
structure Fr where
 i:Nat
 es:List TEnt
 l:List BT
 r:List BT
instance:Inhabited Fr:=⟨⟨0,[],[],[]⟩⟩
def Fr.fill(f:Fr)(T:BT):BT:=.nd f.i f.es (f.l++T::f.r)
def plug:List Fr->BT->BT
 | [],T=>T
 | f::C,T=>plug C (f.fill T)
def Fr.nodes(f:Fr)(h:Nat):List (Nat×Nd):=(f.i,⟨true,f.es,YI f.l++(h:Int)::YI f.r⟩)::(nodesL f.l++nodesL f.r)
def QaG:List Fr->Nat->List (Nat×Nd)
 | [],_=>[]
 | f::C,h=>f.nodes h++QaG C f.i
theorem Qhh(f:Fr)(T:BT):(f.fill T).nodes.Perm (f.nodes T.idx++T.nodes):=by
 unfold Fr.fill Fr.nodes;rw[BT.nodes,Qht,nodesL,Qk1,QcE,List.cons_append];refine List.Perm.cons _ ?_;rw[List.append_assoc];exact List.Perm.append_left _ List.perm_append_comm
theorem QeD:∀(C:List Fr)(T:BT),(plug C T).nodes.Perm (QaG C T.idx++T.nodes)
 | [],T=>.refl _
 | f::C,T=>by
  refine(QeD C (f.fill T)).trans ?_;show(QaG C f.i++(f.fill T).nodes).Perm (f.nodes T.idx++QaG C f.i++T.nodes);refine((Qhh f T).append_left _).trans ?_;rw[<-List.append_assoc];exact List.perm_append_comm.append_right _
def ZJ(ns:List Nd)(T:BT):Prop:=RepN ns T.nodes
theorem ZJ.plug{ns:List Nd}{C:List Fr}{T:BT}(h:ZJ ns (plug C T)):RepN ns (QaG C T.idx++T.nodes):=RepN.perm h (QeD C T)
theorem ZJ.at_{ns:List Nd}{C:List Fr}{T:BT}(h:ZJ ns (Gx.plug C T)):T.idx<ns.length/\nth ns T.idx=⟨true,T.es,YI T.ks⟩:=by
 cases T with
 | nd i es ks=>exact RepN.at_ h.plug (List.mem_append_right _ (by rw[BT.nodes];exact List.mem_cons_self ..))
def Bal(lo hi:Nat):Nat->BT->Prop
 | 0,T=>T.ks=[]/\lo<=T.es.length/\T.es.length<=hi
 | d+1,T=>(T.ks.length=T.es.length+1/\∀k∈T.ks,Bal lo hi d k)/\lo<=T.es.length/\T.es.length<=hi
def Bel(lo hi:Nat):Nat->BT->Prop
 | 0,T=>T.ks=[]
 | d+1,T=>T.ks.length=T.es.length+1/\∀k∈T.ks,Bal lo hi d k
theorem Qfm{lo hi d:Nat}{T:BT}:Bal lo hi d T ↔ Bel lo hi d T/\lo<=T.es.length/\T.es.length<=hi:=by
 cases d<;>simp only[Bal,Bel]
theorem ZR(es:List TEnt):flatL es []=es:=by cases es<;>rfl
theorem BT.idx_mem(T:BT):T.idx∈T.nodes.map Prod.fst:=by
 cases T with
 | nd i es ks=>
  rw[BT.nodes];exact List.mem_cons_self ..
theorem ZJ.root{ns:List Nd}{T:BT}(h:ZJ ns T):T.idx<ns.length/\nth ns T.idx=⟨true,T.es,YI T.ks⟩:=ZJ.at_ (C:=[]) h
theorem ZJ.nlen{ns:List Nd}{T:BT}(h:ZJ ns T):T.nodes.length<=ns.length:=by
 have:=Qd2 ns.length (T.nodes.map Prod.fst) h.nd λx hx=>by
  obtain⟨p,hp,rfl⟩:=List.mem_map.1 hx;exact RepN.lt h hp
 rwa[List.length_map]at this
def QoP(rt:Nat)(T:BT):Prop:=T.es=[]->∀k,T.ks=[k]->rt<k.es.length
def Qe0(ns:List Nd):Prop:=(nth ns (ns.length-1)).us=true
def Srt(co:Int)(l:List TEnt):Prop:=l.Pairwise λa b=>QI co a.key b.key<0
theorem Srt.asc{co:Int}{l:List TEnt}(h:Srt co l):Asc co l:=λk hk=>by
 have:=List.pairwise_iff_getElem.1 h k (k+1) om hk om;rw[show nth l k=l[k]from Xr (List.getElem?_eq_getElem om),show nth l (k+1)=l[k+1]from Xr (List.getElem?_eq_getElem hk)];exact this
theorem Srt.of_asc{co:Int}{l:List TEnt}(h:Asc co l):Srt co l:=List.pairwise_iff_getElem.2 λi j hi hj hij=>by
 have:=h.lt hij hj;rw[show nth l i=l[i]from Xr (List.getElem?_eq_getElem hi),show nth l j=l[j]from Xr (List.getElem?_eq_getElem hj)]at this;exact this
structure Sz(mo rm:Int)(lo hi rt:Nat):Prop where
 emo:mo=(hi:Int)
 erm:rm=(rt:Int)
 elo:lo=hi/2
 hi3:3<=hi
 hi8:hi<=8
 lr:lo<=rt
 rh:rt<=hi
theorem Qos{mo rm:Int}(h:Yy mo rm=0):Sz mo rm (mo.toNat/2) mo.toNat rm.toNat:=by
 have h1:=Qab h;constructor<;>omega
structure VT(co:Int)(lo hi rt d:Nat)(T:BT):Prop where
 idx:T.idx=0
 bel:Bel lo hi d T
 root:T.es.length<=rt
 gap:QoP rt T
 srt:Srt co T.flat
 ents:∀x∈T.flat,Yj co x=0
theorem Qfj{k:BT}{p:Nat×Nd}:∀{ks:List BT},p∈nodesL ks->∃k∈ks,p∈k.nodes
 | [],h=>by
  rw[nodesL]at h;cases h
 | x::ks,h=>by
  rw[nodesL]at h;rcases List.mem_append.1 h with h|h
  ·exact⟨x,List.mem_cons_self ..,h⟩
  ·obtain⟨k,hk,h2⟩:=Qfj (k:=k) h;exact⟨k,List.mem_cons_of_mem _ hk,h2⟩
theorem QdQ:∀(es:List TEnt)(ks:List BT),es.Sublist (flatL es ks)
 | es,[]=>by rw[ZR];exact List.Sublist.refl _
 | [],k::ks=>List.nil_sublist _
 | e::es,k::ks=>by
  rw[flatL];exact((QdQ es ks).cons_cons e).trans (List.sublist_append_right _ _)
def btN(ns:List Nd):Nat->Nat->BT
 | 0,i=>.nd i [] []
 | f+1,i=>.nd i (nth ns i).es ((nth ns i).cs.map λc=>btN ns f c.toNat)
theorem Qdh(ns:List Nd)(f i:Nat):(btN ns f i).idx=i:=by cases f<;>rfl
theorem QgV{ns:List Nd}{f:Nat}:∀{cs:List Int},(∀c∈cs,0<=c)->YI (cs.map λc=>btN ns f c.toNat)=cs
 | [],_=>rfl
 | c::cs,h=>by
  rw[List.map_cons,QcE,QgV λx hx=>h x (List.mem_cons_of_mem _ hx),Qdh,Int.toNat_of_nonneg (h c (List.mem_cons_self ..))]
theorem Y8{α:Type}(g:α->BT):∀(cs:List α),nodesL (cs.map g)=cs.flatMap λc=>(g c).nodes
 | []=>rfl
 | c::cs=>by rw[List.map_cons,nodesL,Y8 g cs,List.flatMap_cons]
theorem Qdu{α β:Type}{f g:α->List β}:∀{l:List α},(∀x∈l,f x=g x)->l.flatMap f=l.flatMap g
 | [],_=>rfl
 | a::l,h=>by rw[List.flatMap_cons,List.flatMap_cons,h a (List.mem_cons_self ..),Qdu λx hx=>h x (List.mem_cons_of_mem _ hx)]
theorem QeI{α:Type}(F:Int->List α):∀(cs:List Int),((List.range cs.length).flatMap λk=>F (cs.getD k 0))=cs.flatMap F
 | []=>rfl
 | c::cs=>by
  rw[List.length_cons,List.range_succ_eq_map,List.flatMap_cons,List.flatMap_map,List.flatMap_cons,<-QeI F cs];rfl
theorem QdB{co:Int}{ns:List Nd}(hT:TOk co ns):∀{A B:List Nat}{c:Nat},Gx.Way ns (c::A)->Gx.Way ns (c::B)->A=B
 | [],[],_,_,_=>rfl
 | [],q::B,c,h,h2=>by
  have h0:c=0:=h;have:=(hT.kid q h2.1.2 _ h2.1.1).1.1;omega
 | p::A,[],c,h,h2=>by
  have h0:c=0:=h2;have:=(hT.kid p h.1.2 _ h.1.1).1.1;omega
 | p::A,q::B,c,h,h2=>by
  have e:p=q:=QaE (f:=Nd.cs) hT.once h.1.2 h2.1.2 h.1.1 h2.1.1;subst e;rw[QdB hT h.2 h2.2]
section
variable{co:Int}{ns:List Nd}
theorem Qc3(hT:TOk co ns){i:Nat}{P:List Nat}{c:Int}(hw:Gx.Way ns (i::P))(hi:i<ns.length)(hc:c∈(nth ns i).cs):Gx.Way ns (c.toNat::i::P):=by
 refine⟨⟨?_,hi⟩,hw⟩;rw[Int.toNat_of_nonneg (by have:=(hT.kid i hi c hc).1.1;omega)];exact hc
theorem QcN(hT:TOk co ns)(h0:0<ns.length){i:Nat}{P:List Nat}(hw:Gx.Way ns (i::P)):i<ns.length:=ZE hT h0 hw i (List.mem_cons_self ..)
theorem QjA(hT:TOk co ns)(h0:0<ns.length):∀{i:Nat}{P:List Nat},Gx.Way ns (i::P)->(nth ns i).us=true
 | i,[],h=>by
  have e:i=0:=h;subst e;cases hu:(nth ns 0).us with
  | true=>rfl
  | false=>
   have:=(hT.free 0 h0 hu).1.1;omega
 | i,p::P,h=>by
  have:=(hT.kid p h.1.2 _ h.1.1).2;exact this
theorem Qcr(hT:TOk co ns)(h0:0<ns.length):∀(f i:Nat)(P:List Nat),Gx.Way ns (i::P)->P.length+f=ns.length->∀p∈(btN ns f i).nodes,ns[p.1]?=some p.2/\∃Q R,Gx.Way ns (Q++i::P)/\Q++i::P=p.1::R
 | 0,i,P,hw,hf,p,hp=>by
  have:=XD hT h0 hw;simp only[List.length_cons]at this;omega
 | f+1,i,P,hw,hf,p,hp=>by
  have hi:=QcN hT h0 hw
  have hk:∀c∈(nth ns i).cs,0<=c:=λc hc=>by
   have:=(hT.kid i hi c hc).1.1;omega
  rw[btN,BT.nodes,QgV hk,Y8]at hp;rcases List.mem_cons.1 hp with rfl|hp
  ·refine⟨?_,[],P,hw,rfl⟩;have hu:=QjA hT h0 hw;rw[XO hi];show some (nth ns i)=some ⟨true,(nth ns i).es,(nth ns i).cs⟩;rw[<-hu]
  ·obtain⟨c,hc,hp⟩:=List.mem_flatMap.1 hp;obtain⟨h1,Q,R,h2,h3⟩:=Qcr hT h0 f c.toNat (i::P) (Qc3 hT hw hi hc) (by simp only[List.length_cons];omega) p hp;refine⟨h1,Q++[c.toNat],R,?_,?_⟩
   ·rw[List.append_assoc];exact h2
   ·rw[List.append_assoc];exact h3
theorem QjG(hT:TOk co ns)(h0:0<ns.length):∀(f i:Nat)(P:List Nat),Gx.Way ns (i::P)->P.length+f=ns.length->((btN ns f i).nodes.map Prod.fst).Nodup
 | 0,i,P,hw,hf=>by
  have:=XD hT h0 hw;simp only[List.length_cons]at this;omega
 | f+1,i,P,hw,hf=>by
  have hi:=QcN hT h0 hw;have hlen:(i::P).length+f=ns.length:=by simp only[List.length_cons];omega
  rw[btN,BT.nodes,Y8,List.map_cons,List.map_flatMap];refine List.nodup_cons.2 ⟨λhm=>?_,?_⟩
  ·obtain⟨c,hc,hm⟩:=List.mem_flatMap.1 hm;obtain⟨p,hp,e⟩:=List.mem_map.1 hm;obtain⟨_,Q,R,h2,h3⟩:=Qcr hT h0 f c.toNat (i::P) (Qc3 hT hw hi hc) hlen p hp;rw[h3,e]at h2;have h4:=QdB hT h2 hw;have h5:=congrArg List.length h3;rw[h4]at h5;simp only[List.length_append,List.length_cons]at h5;omega
  ·refine List.pairwise_flatMap.2 ⟨λc hc=>QjG hT h0 f c.toNat (i::P) (Qc3 hT hw hi hc) hlen,?_⟩;refine(Qd3 (f:=Nd.cs) hT.once hi).imp_of_mem λ{c c'}hc hc' hne x hx y hy exy=>?_;subst exy;obtain⟨p,hp,e⟩:=List.mem_map.1 hx;obtain⟨q,hq,e'⟩:=List.mem_map.1 hy;obtain⟨_,Q,R,h2,h3⟩:=Qcr hT h0 f c.toNat (i::P) (Qc3 hT hw hi hc) hlen p hp;obtain⟨_,Q',R',h2',h3'⟩:=Qcr hT h0 f c'.toNat (i::P) (Qc3 hT hw hi hc') hlen q hq;rw[e]at h3;rw[e']at h3';have h4:=QdB hT (h3▸h2) (h3'▸h2');have h5:Q++c.toNat::i::P=Q'++c'.toNat::i::P:=by rw[h3,h3',h4]
   have h6:Q.length=Q'.length:=by
    have:=congrArg List.length h5;simp only[List.length_append,List.length_cons]at this;omega
   have h7:=(List.append_inj h5 h6).2;have h8:c.toNat=c'.toNat:=(List.cons.inj h7).1;have k1:=(hT.kid i hi c hc).1.1;have k2:=(hT.kid i hi c' hc').1.1;exact hne om
theorem Qkk(hT:TOk co ns)(h0:0<ns.length):∀(f:Nat)(v:Vis)(P:List Nat),Gx.Way ns (v.i::P)->P.length+f=ns.length->(vis ns f v).map Vis.i=(btN ns f v.i).nodes.map Prod.fst
 | 0,v,P,hw,hf=>by
  have:=XD hT h0 hw;simp only[List.length_cons]at this;omega
 | f+1,v,P,hw,hf=>by
  have hi:=QcN hT h0 hw;rw[vis,btN,BT.nodes,Y8,List.map_cons,List.map_cons,List.map_flatMap,List.map_flatMap];congr 1;rw[<-QeI];refine Qdu λk hk=>?_;have hkl:=List.mem_range.1 hk
  have hc:(nth ns v.i).cs.getD k 0∈(nth ns v.i).cs:=by
   rw[List.getD_eq_getElem?_getD,List.getElem?_eq_getElem hkl];exact List.getElem_mem hkl
  exact Qkk hT h0 f ⟨((nth ns v.i).cs.getD k 0).toNat,v.d+1,loK (nth ns v.i).es k v.lo,hiK (nth ns v.i).es k v.hi⟩ (v.i::P) (Qc3 hT hw hi hc) (by simp only[List.length_cons];omega)
end
def InB(co:Int)(lo hi:Option (List UInt8))(x:TEnt):Prop:=(∀b,lo=some b->QI co b x.key<0)/\(∀b,hi=some b->QI co x.key b<0)
theorem Qjr{t:Tre}{v:Vis}{x:TEnt}:YU t v x=true ↔ (∃b,v.lo=some b/\0<=QI t.co b x.key)\/(∃b,v.hi=some b/\0<=QI t.co x.key b):=by
 unfold YU;cases v.lo<;>cases v.hi<;>simp
theorem Qn7{t:Tre}{v:Vis}{x:TEnt}(h:¬YU t v x=true):InB t.co v.lo v.hi x:=by
 rw[Qjr]at h;refine⟨λb hb=>?_,λb hb=>?_⟩
 ·rcases Int.lt_or_le (QI t.co b x.key) 0 with h1|h1
  ·exact h1
  ·exact absurd (.inl ⟨b,hb,h1⟩) h
 ·rcases Int.lt_or_le (QI t.co x.key b) 0 with h1|h1
  ·exact h1
  ·exact absurd (.inr ⟨b,hb,h1⟩) h
theorem Qe1{co:Int}{hi:Option (List UInt8)}:∀{es:List TEnt}{ks:List BT}{lo:Option (List UInt8)},ks.length=es.length+1->Srt co es->(∀x∈es,InB co lo hi x) ->
  (∀k,k<ks.length->Srt co (nth ks k).flat/\∀x∈(nth ks k).flat,InB co (loK es k lo) (hiK es k hi) x)->Srt co (flatL es ks)/\∀x∈flatL es ks,InB co lo hi x
 | [],[],_,h,_,_,_=>absurd h (by simp)
 | [],k::k'::ks,_,h,_,_,_=>absurd h (by simp)
 | [],[k],lo,_,_,_,hk=>by
  rw[flatL,flatL,List.append_nil];exact hk 0 (by simp)
 | e::es,[],_,h,_,_,_=>absurd h (by simp)
 | e::es,k::ks,lo,hl,hs,hb,hk=>by
  have hp:=List.pairwise_cons.1 hs;have he:=hb e (List.mem_cons_self ..);have h0:=hk 0 (by simp);have e0:nth (k::ks) 0=k:=rfl;have e1:loK (e::es) 0 lo=lo:=if_neg (Nat.lt_irrefl 0);have e2:hiK (e::es) 0 hi=some e.key:=if_pos (by simp);rw[e0,e1,e2]at h0
  have ih:=Qe1 (co:=co) (hi:=hi) (es:=es) (ks:=ks) (lo:=some e.key) (by simpa using hl) hp.2 (λx hx=>⟨λb hb'=>by injection hb' with hb';subst hb';exact hp.1 x hx,(hb x (List.mem_cons_of_mem _ hx)).2⟩) (λq hq=>by
   have h1:=hk (q+1) (by simpa using hq);have e3:nth (k::ks) (q+1)=nth ks q:=rfl
   have e4:loK (e::es) (q+1) lo=loK es q (some e.key):=by
    unfold loK;rw[if_pos om];rcases Nat.eq_zero_or_pos q with h9|h9
    ·subst h9;rfl
    ·rw[if_pos h9];obtain⟨r,rfl⟩:∃r,q=r+1:=⟨q-1,om⟩;rfl
   have e5:hiK (e::es) (q+1) hi=hiK es q hi:=by
    unfold hiK
    by_cases h9:q<es.length
    ·rw[if_pos h9,if_pos (by simpa using h9)];rfl
    ·rw[if_neg h9,if_neg (by simpa using h9)]
   rw[e3,e4,e5]at h1;exact h1)
  rw[flatL];have hge:∀x∈flatL es ks,QI co e.key x.key<0:=λx hx=>(ih.2 x hx).1 _ rfl;have hle:∀x∈k.flat,QI co x.key e.key<0:=λx hx=>(h0.2 x hx).2 _ rfl;refine⟨List.pairwise_append.2 ⟨h0.1,List.pairwise_cons.2 ⟨hge,ih.1⟩,λx hx y hy=>?_⟩,λx hx=>?_⟩
  ·rcases List.mem_cons.1 hy with rfl|hy
   ·exact hle x hx
   ·exact Zf (hle x hx) (hge y hy)
  ·rcases List.mem_append.1 hx with hx|hx
   ·exact⟨(h0.2 x hx).1,λb hb'=>Zf (hle x hx) (he.2 b hb')⟩
   ·rcases List.mem_cons.1 hx with rfl|hx
    ·exact he
    ·exact⟨λb hb'=>Zf (he.1 b hb') (hge x hx),(ih.2 x hx).2⟩
theorem Qhm{t:Tre}{deep:Int}{v:Vis}(h:Qbu t deep v=0):¬YT t v=true/\(∀x∈(nth t.ns v.i).es,InB t.co v.lo v.hi x)/\((nth t.ns v.i).cs.length=0->v.d=deep+1):=by
 rw[Qah]at h;split at h
 ·exact absurd h (by decide)
 ·rename_i h1;split at h
  ·exact absurd h (by decide)
  ·rename_i h2;split at h
   ·exact absurd h (by decide)
   ·rename_i h3;refine⟨h1,λx hx=>Qn7 λh4=>h2 ?_,λh4=>?_⟩
    ·unfold YE;exact List.any_eq_true.2 ⟨x,hx,h4⟩
    ·rcases Int.lt_trichotomy v.d (deep+1)with h5|h5|h5
     ·exact absurd ⟨h4,om⟩ h3
     ·exact h5
     ·exact absurd ⟨h4,om⟩ h3
theorem QiO{t:Tre}(h:(Xw t t.ns.length 0 []).2=0){i:Nat}(hi:i<t.ns.length)(hu:(nth t.ns i).us=true):((nth t.ns i).es.length:Int)<=X4 t.mo t.rm i:=by
 obtain⟨s,hs⟩:=(Qdt (f:=t.ns.length) (i:=0) om h List.nodup_nil).1 i (Nat.zero_le _) hi;rw[QeU t i hu]at hs;have h4:nE4 t i s=0:=hs;unfold nE4 at h4;split at h4
 ·rename_i h3;have h2:=QmE t i h3;unfold nE2 at h2;split at h2
  ·rename_i h1;unfold nE1 at h1;split at h1
   ·assumption
   ·exact absurd h1 (by decide)
  ·rename_i h1;exact absurd h2 h1
 ·rename_i h3;exact absurd h4 h3
theorem Qiu{t:Tre}{deep:Int}{lo hi rt:Nat}(hz:Sz t.mo t.rm lo hi rt)(hT:TOk t.co t.ns)(h0:0<t.ns.length)(hmost:∀i,i<t.ns.length->(nth t.ns i).us=true->((nth t.ns i).es.length:Int)<=X4 t.mo t.rm i):∀(f:Nat)(v:Vis)(P:List Nat),Gx.Way t.ns (v.i::P)->P.length+f=t.ns.length->(∀u∈vis t.ns f v,Qbu t deep u=0) ->
  ∃d:Nat,v.d+(d:Int)=deep+1/\Bel lo hi d (btN t.ns f v.i)/\Srt t.co (btN t.ns f v.i).flat/\∀x∈(btN t.ns f v.i).flat,InB t.co v.lo v.hi x
 | 0,v,P,hw,hf,_=>by
  have:=XD hT h0 hw;simp only[List.length_cons]at this;omega
 | f+1,v,P,hw,hf,hE=>by
  have hi':=QcN hT h0 hw;have hv:=Qhm (hE v (by rw[vis];exact List.mem_cons_self ..));have hasc:=Srt.of_asc (hT.asc v.i hi');rw[btN,BT.flat];rcases hT.shape v.i hi' with hs|hs
  ·have hcs:(nth t.ns v.i).cs=[]:=List.eq_nil_of_length_eq_zero hs;rw[hcs,List.map_nil,ZR];exact⟨0,by have:=hv.2.2 hs;simpa using this,rfl,hasc,hv.2.1⟩
  ·have key:∀k,k<(nth t.ns v.i).cs.length->∃d:Nat,v.d+1+(d:Int)=deep+1/\Bal lo hi d (btN t.ns f ((nth t.ns v.i).cs.getD k 0).toNat)/\Srt t.co (btN t.ns f ((nth t.ns v.i).cs.getD k 0).toNat).flat/\∀x∈(btN t.ns f ((nth t.ns v.i).cs.getD k 0).toNat).flat,InB t.co (loK (nth t.ns v.i).es k v.lo) (hiK (nth t.ns v.i).es k v.hi) x:=λk hk=>by
    have hc:(nth t.ns v.i).cs.getD k 0∈(nth t.ns v.i).cs:=by
     rw[List.getD_eq_getElem?_getD,List.getElem?_eq_getElem hk];exact List.getElem_mem hk
    have hwk:=Qc3 hT hw hi' hc
    have hmem:∀u∈vis t.ns f (Xl t.ns v k),u∈vis t.ns (f+1) v:=λu hu=>by
     rw[vis];exact List.mem_cons_of_mem _ (List.mem_flatMap.2 ⟨k,List.mem_range.2 hk,hu⟩)
    obtain⟨d,h1,h2,h3,h4⟩:=Qiu hz hT h0 hmost f (Xl t.ns v k) (v.i::P) hwk (by simp only[List.length_cons];omega) λu hu=>hE u (hmem u hu);have hki:=QcN hT h0 hwk;have hku:=QjA hT h0 hwk;have hk1:=(hT.kid v.i hi' _ hc).1.1
    obtain⟨f',rfl⟩:∃f',f=f'+1:=by
     cases f with
     | zero=>
      have:=XD hT h0 hwk;simp only[List.length_cons]at this;omega
     | succ f'=>exact⟨f',rfl⟩
    have hkv:=Qhm (hE (Xl t.ns v k) (hmem _ (by rw[vis];exact List.mem_cons_self ..)));refine⟨d,h1,Qfm.2 ⟨h2,?_,?_⟩,h3,h4⟩
    ·have hg:=hkv.1;unfold YT at hg;simp only[Bool.and_eq_true,Bool.or_eq_true,decide_eq_true_eq,not_and,not_or]at hg;have h5:=(hg (show 0<(Xl t.ns v k).i by show 0<((nth t.ns v.i).cs.getD k 0).toNat;omega)).1;have e1:=hz.emo;have e2:=hz.elo;show lo<=(nth t.ns ((nth t.ns v.i).cs.getD k 0).toNat).es.length;have h6:¬((nth t.ns ((nth t.ns v.i).cs.getD k 0).toNat).es.length:Int)<t.mo/2:=h5;omega
    ·have h5:=hmost _ hki hku;unfold X4 at h5;rw[if_neg om]at h5;have e1:=hz.emo;show(nth t.ns ((nth t.ns v.i).cs.getD k 0).toNat).es.length<=hi;omega
   obtain⟨d,hd,_⟩:=key 0 om
   have hnk:∀k,k<(nth t.ns v.i).cs.length->nth ((nth t.ns v.i).cs.map λc=>btN t.ns f c.toNat) k=btN t.ns f ((nth t.ns v.i).cs.getD k 0).toNat:=λk hk=>Xr (by
    rw[List.getElem?_map,List.getElem?_eq_getElem hk,List.getD_eq_getElem?_getD,List.getElem?_eq_getElem hk];rfl)
   have hfl:=Qe1 (co:=t.co) (hi:=v.hi) (es:=(nth t.ns v.i).es) (ks:=(nth t.ns v.i).cs.map λc=>btN t.ns f c.toNat) (lo:=v.lo) (by rw[List.length_map];exact hs) hasc hv.2.1 λk hk=>by
    rw[List.length_map]at hk;rw[hnk k hk];obtain⟨_,_,_,h3,h4⟩:=key k hk;exact⟨h3,h4⟩
   refine⟨d+1,by simp only[Int.natCast_add,Int.natCast_one];omega,⟨by show(List.map _ _).length=_;rw[List.length_map];exact hs,λk hk=>?_⟩,hfl.1,hfl.2⟩;obtain⟨c,hc,rfl⟩:=List.mem_map.1 hk;obtain⟨q,hq,rfl⟩:=List.getElem_of_mem hc;obtain⟨d2,hd2,h2,_⟩:=key q hq;have e:d2=d:=om
   subst e;rw[List.getD_eq_getElem?_getD,List.getElem?_eq_getElem hq]at h2;exact h2
mutual
theorem QbK:∀(T:BT)(x:TEnt),x∈T.flat->∃p∈T.nodes,x∈p.2.es
 | .nd i es ks,x,h=>by
  rw[BT.flat]at h;rw[BT.nodes];rcases flat_nodesL es ks x h with h|⟨p,hp,hx⟩
  ·exact⟨_,List.mem_cons_self ..,h⟩
  ·exact⟨p,List.mem_cons_of_mem _ hp,hx⟩
theorem flat_nodesL:∀(es:List TEnt)(ks:List BT)(x:TEnt),x∈flatL es ks->x∈es\/∃p∈nodesL ks,x∈p.2.es
 | es,[],x,h=>by
  rw[ZR]at h;exact .inl h
 | [],k::ks,x,h=>by
  rw[flatL]at h;rw[nodesL];rcases List.mem_append.1 h with h|h
  ·obtain⟨p,hp,hx⟩:=QbK k x h;exact .inr ⟨p,List.mem_append_left _ hp,hx⟩
  ·rcases flat_nodesL [] ks x h with h|⟨p,hp,hx⟩
   ·exact .inl h
   ·exact .inr ⟨p,List.mem_append_right _ hp,hx⟩
 | e::es,k::ks,x,h=>by
  rw[flatL]at h;rw[nodesL];rcases List.mem_append.1 h with h|h
  ·obtain⟨p,hp,hx⟩:=QbK k x h;exact .inr ⟨p,List.mem_append_left _ hp,hx⟩
  ·rcases List.mem_cons.1 h with rfl|h
   ·exact .inl (List.mem_cons_self ..)
   ·rcases flat_nodesL es ks x h with h|⟨p,hp,hx⟩
    ·exact .inl (List.mem_cons_of_mem _ h)
    ·exact .inr ⟨p,List.mem_append_right _ hp,hx⟩
end
theorem QfH{t:Tre}(h:(Ql t).2=0):∃T d,ZJ t.ns T/\VT t.co (t.mo.toNat/2) t.mo.toNat t.rm.toNat d T/\Sz t.mo t.rm (t.mo.toNat/2) t.mo.toNat t.rm.toNat/\Qe0 t.ns:=by
 obtain⟨hc,hs,h0,hl,hn,hsh,_⟩:=Zd h;have hT:=Z2 hn;have hz:=Qos hs
 have hop:Zq t.ns ((XX t.ns).map Vis.i) t.ns.length 0=none:=by
  cases e:Zq t.ns ((XX t.ns).map Vis.i) t.ns.length 0 with
  | none=>rfl
  | some i=>
   rw[QbO e]at hsh;have h21:(21:Int)=0:=hsh;exact absurd h21 (by decide)
 rw[QbQ hop]at hsh;have hall:=Qh5 hsh;have hmost:=λi hi hu=>QiO (t:=t) hn (i:=i) hi hu;have hw:Gx.Way t.ns [0]:=rfl;obtain⟨d,hd,hB,hS,_⟩:=Qiu hz hT h0 hmost t.ns.length Zh [] hw (by simp) hall;have hvb:=Qkk hT h0 t.ns.length Zh [] hw (by simp);have hget:=Qcr hT h0 t.ns.length 0 [] hw (by simp)
 have hR:ZJ t.ns (btN t.ns t.ns.length 0):=by
  refine⟨λp hp=>(hget p hp).1,QjG hT h0 t.ns.length 0 [] hw (by simp),λi hi hm=>?_⟩;cases hu:(nth t.ns i).us with
  | true=>
   have:=QgE hop i (Nat.zero_le _) om hu;exact absurd (hvb▸this) hm
  | false=>
   have h1:=hT.free i hi hu;have h2:=h1.2;cases hnd:nth t.ns i with
   | mk us es cs=>
    rw[hnd]at h2 hu;simp only at h2 hu;rw[hu,h2.1,h2.2]
 have hroot:=hR.root;rw[Qdh]at hroot;have hes:(btN t.ns t.ns.length 0).es=(nth t.ns 0).es:=by rw[hroot.2]
 have hu0:(nth t.ns 0).us=true:=by rw[hroot.2]
 refine⟨_,d,hR,⟨Qdh _ _ _,hB,?_,λe k hk=>?_,hS,λx hx=>?_⟩,hz,?_⟩
 ·have h1:=hmost 0 h0 hu0;unfold X4 at h1;rw[if_pos rfl]at h1;rw[hes];have:=hz.erm;omega
 ·obtain⟨f,hf⟩:∃f,t.ns.length=f+1:=⟨t.ns.length-1,om⟩;have hkm:k∈(btN t.ns t.ns.length 0).ks:=by rw[hk];exact List.mem_cons_self ..
  have hk':=hkm;rw[hf]at hk';obtain⟨c,hcm,rfl⟩:=List.mem_map.1 (show k∈(nth t.ns 0).cs.map λc=>btN t.ns f c.toNat from hk');have hwk:=Qc3 hT hw h0 hcm;have hki:=QcN hT h0 hwk
  obtain⟨f',rfl⟩:∃f',f=f'+1:=by
   cases f with
   | zero=>
    have:=XD hT h0 hwk;simp only[List.length_cons,List.length_nil]at this;omega
   | succ f'=>exact⟨f',rfl⟩
  have hk1:=(hT.kid 0 h0 c hcm).1.1
  have hgv:∃v∈XX t.ns,v.i=c.toNat:=by
   have:c.toNat∈(XX t.ns).map Vis.i:=by
    show c.toNat∈(vis t.ns t.ns.length Zh).map Vis.i;rw[hvb,hf];rw[show Zh.i=0 from rfl,btN,BT.nodes,Y8,List.map_cons];refine List.mem_cons_of_mem _ (List.mem_map.2 ?_);have hid:=(btN t.ns (f'+1) c.toNat).idx_mem;rw[Qdh]at hid;obtain⟨p,hp,ep⟩:=List.mem_map.1 hid;exact⟨p,List.mem_flatMap.2 ⟨c,hcm,hp⟩,ep⟩
   obtain⟨v,hv,e⟩:=List.mem_map.1 this;exact⟨v,hv,e⟩
  obtain⟨v,hv,hvi⟩:=hgv;have hg:=(Qhm (hall v hv)).1;unfold YT at hg;simp only[Bool.and_eq_true,Bool.or_eq_true,decide_eq_true_eq,not_and,not_or]at hg;have h5:=(hg om).2 ⟨by rw[<-hes,e];rfl,by rw[hvi,Int.toNat_of_nonneg om];exact hcm⟩;rw[hvi]at h5;show t.rm.toNat<(nth t.ns c.toNat).es.length;have:=hz.erm;omega
 ·obtain⟨p,hp,hx⟩:=QbK _ x hx;have h1:=RepN.at_ (i:=p.1) (x:=p.2) hR hp;exact hT.ents p.1 h1.1 x (by rw[h1.2];exact hx)
 ·unfold Qe0;cases hu:(nth t.ns (t.ns.length-1)).us with
  | true=>rfl
  | false=>
   have:=(hT.free (t.ns.length-1) om hu).1.2;omega
mutual
theorem Qb6:∀(T:BT)(p:Nat×Nd),p∈T.nodes->p.2.es.Sublist T.flat
 | .nd i es ks,p,h=>by
  rw[BT.nodes]at h;rw[BT.flat];rcases List.mem_cons.1 h with rfl|h
  ·exact QdQ es ks
  ·exact nodesL_es es ks p h
theorem nodesL_es:∀(es:List TEnt)(ks:List BT)(p:Nat×Nd),p∈nodesL ks->p.2.es.Sublist (flatL es ks)
 | es,[],p,h=>by
  rw[nodesL]at h;cases h
 | [],k::ks,p,h=>by
  rw[nodesL]at h;rw[flatL];rcases List.mem_append.1 h with h|h
  ·exact(Qb6 k p h).trans (List.sublist_append_left ..)
  ·exact(nodesL_es [] ks p h).trans (List.sublist_append_right ..)
 | e::es,k::ks,p,h=>by
  rw[nodesL]at h;rw[flatL];rcases List.mem_append.1 h with h|h
  ·exact(Qb6 k p h).trans (List.sublist_append_left ..)
  ·exact((nodesL_es es ks p h).cons e).trans (List.sublist_append_right ..)
end
theorem Qgm{lo hi:Nat}:∀{d:Nat}{T:BT},Bel lo hi d T->∀p∈T.nodes,p.2.cs.length=0\/p.2.cs.length=p.2.es.length+1
 | 0,.nd i es ks,h,p,hp=>by
  have e:ks=[]:=h;rw[e,BT.nodes,nodesL]at hp;rcases List.mem_cons.1 hp with rfl|hp
  ·exact .inl rfl
  ·cases hp
 | d+1,.nd i es ks,h,p,hp=>by
  rw[BT.nodes]at hp;rcases List.mem_cons.1 hp with rfl|hp
  ·exact .inr (by show(YI ks).length=_;rw[QdZ];exact h.1)
  ·obtain⟨k,hk,hp⟩:=Qfj (k:=default) hp;exact Qgm (Qfm.1 (h.2 k hk)).1 p hp
theorem QfU{co:Int}{lo hi rt d:Nat}{ns:List Nd}{T:BT}(hR:ZJ ns T)(hV:VT co lo hi rt d T)(hu:Qe0 ns):TOk co ns:=by
 have hat:∀p∈T.nodes,p.1<ns.length/\nth ns p.1=p.2:=λp hp=>RepN.at_ (i:=p.1) (x:=p.2) hR hp
 have hcs:∀i,i<ns.length->(i∈T.nodes.map Prod.fst/\(i,nth ns i)∈T.nodes)\/nth ns i=⟨false,[],[]⟩:=λi hi=>by
  by_cases hm:i∈T.nodes.map Prod.fst
  ·refine .inl ⟨hm,?_⟩;obtain⟨p,hp,rfl⟩:=List.mem_map.1 hm;rw[(hat p hp).2];exact hp
  ·exact .inr (RepN.rest hR i hi hm)
 have hkp:=Qdz T
 have hnd:((((T.idx:Nat):Int)::YB T.nodes)).Nodup:=hkp.nodup_iff.2 (by
  have h1:=RepN.nd hR;unfold List.Nodup at h1 ⊢;rw[List.pairwise_map]at h1 ⊢;exact h1.imp λh e=>h om)
 refine⟨λi hi c hc=>?_,?_,λi hi=>?_,λi hi hus=>?_,λi hi=>?_,λi hi x hx=>?_⟩
 ·rcases hcs i hi with⟨_,hm⟩|he
  ·have hck:c∈YB T.nodes:=List.mem_flatMap.2 ⟨_,hm,hc⟩;obtain⟨q,hq,rfl⟩:=List.mem_map.1 (hkp.mem_iff.1 (List.mem_cons_of_mem _ hck));have h1:=hat q hq
   have h2:q.1≠0:=λe=>by
    have h3:=(List.nodup_cons.1 hnd).1;rw[hV.idx]at h3;rw[e]at hck;exact h3 hck
   refine⟨om,?_⟩;rw[Int.toNat_natCast,h1.2];exact QdN T q hq
  ·rw[he]at hc;cases hc
 ·have hk2:=(List.nodup_cons.1 hnd).2;unfold YB List.Nodup at hk2;rw[List.pairwise_flatMap]at hk2;unfold List.Nodup;rw[List.pairwise_flatMap];refine⟨λx hx=>?_,List.pairwise_iff_getElem.2 λi j hi hj hij=>?_⟩
  ·obtain⟨i,hi,rfl⟩:=List.getElem_of_mem hx;rw[<-Xr (List.getElem?_eq_getElem hi)];rcases hcs i hi with⟨_,hm⟩|he
   ·exact hk2.1 _ hm
   ·rw[he];exact List.Pairwise.nil
  ·rw[<-Xr (List.getElem?_eq_getElem hi),<-Xr (List.getElem?_eq_getElem hj)];intro x hx y hy e;rcases hcs i hi with⟨_,hm⟩|he
   ·rcases hcs j hj with⟨_,hm2⟩|he
    ·obtain⟨a,ha,ea⟩:=List.getElem_of_mem hm;obtain⟨b,hb,eb⟩:=List.getElem_of_mem hm2;have hp:=List.pairwise_iff_getElem.1 hk2.2;rcases Nat.lt_trichotomy a b with h|h|h
     ·exact hp a b ha hb h x (by rw[ea];exact hx) y (by rw[eb];exact hy) e
     ·subst h;rw[ea]at eb;have:=congrArg Prod.fst eb;simp only at this;omega
     ·exact hp b a hb ha h y (by rw[eb];exact hy) x (by rw[ea];exact hx) e.symm
    ·rw[he]at hy;cases hy
   ·rw[he]at hx;cases hx
 ·rcases hcs i hi with⟨_,hm⟩|he
  ·exact Qgm hV.bel _ hm
  ·rw[he];exact .inl rfl
 ·rcases hcs i hi with⟨_,hm⟩|he
  ·have:=QdN T _ hm;simp only at this;rw[hus]at this;cases this
  ·refine⟨⟨?_,?_⟩,by rw[he],by rw[he]⟩
   ·have h1:=(ZJ.root hR).2;rw[hV.idx]at h1;rcases Nat.eq_zero_or_pos i with e|h
    ·rw[e,h1]at hus;cases hus
    ·exact h
   ·unfold Qe0 at hu
    by_cases e:i=ns.length-1
    ·rw[e,hu]at hus;cases hus
    ·omega
 ·rcases hcs i hi with⟨_,hm⟩|he
  ·exact Srt.asc (List.Pairwise.sublist (Qb6 T _ hm) hV.srt)
  ·rw[he];intro k hk;exact absurd hk (by simp)
 ·rcases hcs i hi with⟨_,hm⟩|he
  ·exact hV.ents x ((Qb6 T _ hm).subset hx)
  ·rw[he]at hx;cases hx
section
variable{es:List TEnt}{ks:List BT}{k:Nat}
def X8(es:List TEnt)(ks:List BT):Nat->List TEnt
 | 0=>[]
 | k+1=>(X8 es ks k++if 0<ks.length then(nth ks k).flat else[])++if k<es.length then[nth es k]else[]
def Zs(es:List TEnt)(ks:List BT)(k:Nat):List TEnt:=X8 es ks k++if 0<ks.length then(nth ks k).flat else[]
theorem ZS:X8 es ks (k+1)=Zs es ks k++if k<es.length then[nth es k]else[]:=rfl
theorem Y9(h:k<es.length):X8 es ks (k+1)=Zs es ks k++[nth es k]:=by rw[ZS,if_pos h]
theorem Qa5(h:¬k<es.length):X8 es ks (k+1)=Zs es ks k:=by rw[ZS,if_neg h,List.append_nil]
theorem Yv(h:0<ks.length):Zs es ks k=X8 es ks k++(nth ks k).flat:=by rw[Zs,if_pos h]
theorem Qbr(h:¬0<ks.length):Zs es ks k=X8 es ks k:=by rw[Zs,if_neg h,List.append_nil]
theorem QdD{α:Type}[Inhabited α]{l:List α}{i:Nat}(h:i<l.length):l.drop i=nth l i::l.drop (i+1):=by
 rw[List.drop_eq_getElem_cons h,show nth l i=l[i]from Xr (List.getElem?_eq_getElem h)]
theorem Qe6:∀{k:Nat},k<=es.length->X8 es [] k=es.take k
 | 0,_=>by rw[X8,List.take_zero]
 | k+1,h=>by
  rw[Y9 om,Qbr (by simp),Qe6 om,List.take_add_one,XO om];rfl
theorem QeX(h:ks.length=es.length+1):∀{k:Nat},k<=es.length->X8 es ks k++flatL (es.drop k) (ks.drop k)=flatL es ks
 | 0,_=>by rw[X8,List.drop_zero,List.drop_zero,List.nil_append]
 | k+1,hk=>by
  have h1:=QeX (k:=k) h om;rw[QdD (l:=es) (i:=k) om,QdD (l:=ks) (i:=k) om,flatL]at h1;rw[Y9 om,Yv om,<-h1];simp
theorem ZV(h:ks=[]\/ks.length=es.length+1):X8 es ks (es.length+1)=flatL es ks:=by
 rcases h with h|h
 ·subst h;rw[Qa5 om,Qbr (by simp),Qe6 (Nat.le_refl _),List.take_length,ZR]
 ·have h1:=QeX (k:=es.length) h (Nat.le_refl _);rw[QdD (l:=ks) (i:=es.length) om,List.drop_length,flatL,List.drop_of_length_le om,flatL]at h1;rw[Qa5 om,Yv om,<-h1,List.append_nil]
theorem QgS:(X8 es ks k).length<=(Zs es ks k).length:=by
 unfold Zs;rw[List.length_append];omega
theorem Qep:(Zs es ks k).length<=(X8 es ks (k+1)).length:=by
 rw[ZS,List.length_append];omega
theorem Qmv{m:Nat}(h:k<=m):(X8 es ks k).length<=(X8 es ks m).length:=by
 obtain⟨d,rfl⟩:=Nat.exists_eq_add_of_le h
 clear h
 induction d with
 | zero=>exact Nat.le_refl _
 | succ d ih=>exact Nat.le_trans ih (Nat.le_trans QgS Qep)
theorem QaX(h:ks=[]\/ks.length=es.length+1)(hk:k<=es.length+1):(X8 es ks k).length<=(flatL es ks).length:=by
 rw[<-ZV h];exact Qmv hk
theorem Qev(h:ks=[]\/ks.length=es.length+1)(hk:k<=es.length):(Zs es ks k).length<=(flatL es ks).length:=Nat.le_trans Qep (QaX h om)
theorem QhY(h:ks=[]\/ks.length=es.length+1){k:Nat}(hk:k<=es.length+1):∃B,flatL es ks=X8 es ks k++B:=by
 rw[<-ZV h];obtain⟨d,hd⟩:=Nat.exists_eq_add_of_le hk;rw[hd]
 clear hd hk h
 induction d with
 | zero=>exact⟨[],by rw[List.append_nil];rfl⟩
 | succ d ih=>
  obtain⟨B,hB⟩:=ih;rw[show k+(d+1)=(k+d)+1 from rfl,ZS,Zs,hB,List.append_assoc,List.append_assoc];exact⟨_,rfl⟩
theorem QhD(h:ks=[]\/ks.length=es.length+1){k:Nat}(hk:k<=es.length):∃B,flatL es ks=Zs es ks k++B:=by
 obtain⟨B,hB⟩:=QhY h (k:=k+1) om;rw[hB,ZS,List.append_assoc];exact⟨_,rfl⟩
theorem QnL(h:ks=[]\/ks.length=es.length+1){k:Nat}(hk:k<es.length):nth es k∈flatL es ks:=(QdQ es ks).subset (QA hk)
theorem Qmg(h:ks.length=es.length+1){k:Nat}(hk:k<ks.length){x:TEnt}(hx:x∈(nth ks k).flat):x∈flatL es ks:=by
 obtain⟨B,hB⟩:=QhD (.inr h) (k:=k) om;rw[hB,Yv om];exact List.mem_append_left _ (List.mem_append_right _ hx)
def NIn(ns:List Nd)(T:BT):Prop:=∀p∈T.nodes,p.1<ns.length/\nth ns p.1=p.2
theorem ZJ.nin{ns:List Nd}{T:BT}(h:ZJ ns T):NIn ns T:=λp hp=>RepN.at_ (i:=p.1) (x:=p.2) h hp
theorem NIn.root{ns:List Nd}{i:Nat}(h:NIn ns (.nd i es ks)):i<ns.length/\nth ns i=⟨true,es,YI ks⟩:=by
 refine h (i,⟨true,es,YI ks⟩) ?_;rw[BT.nodes];exact List.mem_cons_self ..
theorem Qeq{k:BT}{p:Nat×Nd}:∀{ks:List BT},k∈ks->p∈k.nodes->p∈nodesL ks
 | [],h,_=>(nomatch h)
 | x::ks,h,hp=>by
  rw[nodesL];rcases List.mem_cons.1 h with rfl|h
  ·exact List.mem_append_left _ hp
  ·exact List.mem_append_right _ (Qeq h hp)
theorem Qkf{ks:List BT}{k:Nat}(h:k<ks.length):nth ks k∈ks:=QA h
theorem NIn.kid{ns:List Nd}{i:Nat}(h:NIn ns (.nd i es ks))(hk:k<ks.length):NIn ns (nth ks k):=λp hp=>h p (by
 rw[BT.nodes];exact List.mem_cons_of_mem _ (Qeq (Qkf hk) hp))
theorem Qie(hk:k<ks.length):(YI ks).getD k 0=((nth ks k).idx:Int):=by
 unfold YI;rw[List.getD_eq_getElem?_getD,List.getElem?_map,XO hk];rfl
theorem Qh1{lo hi d i:Nat}(h:Bel lo hi (d+1) (.nd i es ks))(hk:k<ks.length):Bel lo hi d (nth ks k):=(Qfm.1 (h.2 _ (Qkf hk))).1
theorem QmT{lo hi i:Nat}(h:Bel lo hi 0 (.nd i es ks)):ks=[]:=h
end
mutual
theorem QbN(m:Nat):∀T:BT,(∀p∈T.nodes,p.2.es.length<=m)->T.flat.length<=T.nodes.length*m
 | .nd i es ks,h=>by
  rw[BT.nodes]at h ⊢;have h1:=flatL_bound m es ks λp hp=>h p (List.mem_cons_of_mem _ hp);have h2:=h (i,⟨true,es,YI ks⟩) (List.mem_cons_self ..);simp only at h2;rw[BT.flat,List.length_cons,Nat.succ_mul];omega
theorem flatL_bound(m:Nat):∀(es:List TEnt)(ks:List BT),(∀p∈nodesL ks,p.2.es.length<=m)->(flatL es ks).length<=(nodesL ks).length*m+es.length
 | es,[],_=>by
  rw[ZR];omega
 | [],k::ks,h=>by
  rw[nodesL]at h ⊢;have h1:=QbN m k λp hp=>h p (List.mem_append_left _ hp);have h2:=flatL_bound m [] ks λp hp=>h p (List.mem_append_right _ hp);rw[flatL,List.length_append,List.length_append,Nat.add_mul];omega
 | e::es,k::ks,h=>by
  rw[nodesL]at h ⊢;have h1:=QbN m k λp hp=>h p (List.mem_append_left _ hp);have h2:=flatL_bound m es ks λp hp=>h p (List.mem_append_right _ hp);rw[flatL,List.length_append,List.length_append,Nat.add_mul,List.length_cons,List.length_cons];omega
end
theorem ZJ.flat_len{ns:List Nd}{T:BT}{m:Nat}(h:ZJ ns T)(hm:∀i,i<ns.length->(nth ns i).es.length<=m):T.flat.length<=ns.length*m:=by
 refine Nat.le_trans (QbN m T λp hp=>?_) (Nat.mul_le_mul_right m h.nlen);have h1:=h.nin p hp;rw[<-h1.2];exact hm _ h1.1
theorem QhL{es:List TEnt}{ks:List BT}{k:Nat}(h:ks.length=es.length+1)(hk:k<ks.length):(nth ks k).flat.length<=(flatL es ks).length:=by
 have h1:=congrArg List.length (Yv (es:=es) (ks:=ks) (k:=k) om);rw[List.length_append]at h1;have h2:=Qev (es:=es) (ks:=ks) (k:=k) (.inr h) om;omega
end Gx
namespace Go.Proofs
open Go Go.RowKit Gx
attribute [local irreducible] Go.Calls Gx.S Gx.O Gx.D Gx.OpP Gx.OpQ Gx.OpH
set_option maxRecDepth 20000
theorem QkX:QC Tryz.prog 111=true:=by kernel_rfl
instance:TFn Tryz.prog 111:=⟨QkX⟩
theorem QmA(w:World)(co mo rm:Int)(a:Option Addr)(cap:Nat)(L:List LNd)(i:Nat)(es:List TEnt)(ks:List BT)(hs:Nt w [] a L)(hl:L.length<=1000)(hi:i<L.length)(hn:nth (pln L) i=⟨true,es,YI ks⟩)(hsh:ks=[]\/ks.length=es.length+1)(hfl:(flatL es ks).length<=10000)(ih:∀(w1:World)(k:Nat),k<ks.length->Nt w1 [] a L->Calls Tryz.prog 111 #[.agg #[.int .i64 co,.int .i64 mo,.int .i64 rm,.slice a L.length cap],.int .i64 ((nth ks k).idx:Int)] w1 λen w'=>∃g:Option Addr×Nat,en=.returned (.slice g.1 ((nth ks k).flat).length g.2)/\True/\HS w1 [] [.own (.slice g.1 ((nth ks k).flat).length g.2) 50 2 ((nth ks k).flat).length (((nth ks k).flat).flatMap TEnt.vals)] w'):CE 111 #[.agg #[.int .i64 co,.int .i64 mo,.int .i64 rm,.slice a L.length cap],.int .i64 (i:Int)] w [] (λg:Option Addr×Nat=>.slice g.1 ((flatL es ks)).length g.2) (λg=>True) λg=>[.own (.slice g.1 ((flatL es ks)).length g.2) 50 2 ((flatL es ks)).length (((flatL es ks)).flatMap TEnt.vals)]:=by
 rw[QB hi]at hn
 have hes:(nth L i).es=es:=congrArg Nd.es hn
 have hcs:(nth L i).cs=YI ks:=congrArg Nd.cs hn
 have hesl:(nth L i).es.length=es.length:=by rw[hes]
 have hcsl:(nth L i).cs.length=ks.length:=by rw[hcs,QdZ]
 have hel:es.length<=10000:=Nat.le_trans (QdQ es ks).length_le hfl
 have hkl:ks.length<=10001:=by rcases hsh with h|h;rw[h];exact Nat.zero_le _;omega
 refine eN2 Tryz.func111 Tryz.ntmps111 ?_
 refine aU2 ?_
 refine oBx λb1 _=>?_
 refine aU7 ?_
 refine o_p (Qa rfl rfl rfl Q2 (i) om om (Rw.some hs.1 om)) rfl (o_q (Qt _ rfl rfl Qaq rfl (Rw.rd hs.1 hi)) rfl (oAl (λb2 _=>?_) YS))
 refine Zr ?_
 refine Qp (α:=Nat×(Option Addr×Nat)) [6,7,13,14,15,16,17,18,19,20,21,22,23,24,25,26,27,28,29,30,31,32,33,34,35,36,37,38,39,40,41,42,43,44,45] (λx=>[(7,.int .i64 (x.1:Int)),(6,.slice x.2.1 (X8 es ks x.1).length x.2.2)]) (λx=>HS w [] [.blk b1 24 4 [.int .i64 co,.int .i64 mo,.int .i64 rm,.slice a L.length cap],.blk b2 87 3 (nth L i).vals,.own (.slice x.2.1 (X8 es ks x.1).length x.2.2) 50 2 (X8 es ks x.1).length ((X8 es ks x.1).flatMap TEnt.vals)]) (λx=>x.1<=es.length+1) (λx=>es.length+1-x.1) (0,(none,0)) (Nat.zero_le _) aSx (λw h=>(h.own_nil 50 2).ent aEt) (λ⟨k,ga,gc⟩hk1=>?_)
 dsimp only
 simp only[]at hk1
 have hm1:=QaX (k:=k) hsh hk1
 refine aU9 ?_
 refine sCd rfl (λh3=>?_) λh3=>?_
 ·have hke:k<=es.length:=by have hq:=h3;omega
  have hm2:=Qev hsh hke
  have hm3:=QaX (k:=k+1) hsh om
  refine Y0 ?_
  refine Q7 (α:=Option Addr×Nat) [6,24,25,26,27,28,29,30,31,32] (λx=>[(6,.slice x.1 (Zs es ks k).length x.2)]) (λx=>HS w [] [.blk b1 24 4 [.int .i64 co,.int .i64 mo,.int .i64 rm,.slice a L.length cap],.blk b2 87 3 (nth L i).vals,.own (.slice x.1 (Zs es ks k).length x.2) 50 2 (Zs es ks k).length ((Zs es ks k).flatMap TEnt.vals)]) (λ_=>True) ?_ ?_
  ·skip
   refine sCd rfl (λh4=>?_) λh4=>?_
   ·have hk0:0<ks.length:=by have hq:=h4;omega
    have hkk:k<ks.length:=by rcases hsh with h|h;rw[h]at hk0;exact absurd hk0 (by decide);omega
    have hm4:=congrArg List.length (Yv (es:=es) (k:=k) hk0)
    rw[List.length_append]at hm4
    refine Qq [8] mixed ?_
    refine dP 0 ?_
    refine dLn 1 [[7]] ?_
    refine dFa 2 ?_
    refine dLd 3 [[7,6,5]] ?_
    refine dP 4 ?_
    refine dV 5 rfl (Qa rfl rfl rfl QU (k) om om (Rw.some (hs.cs hi) om)) (dQ 6 [[7]] rfl (Qb rfl rfl Q3 (((hs.cs hi).rdj 0 (i:=k) om rfl))) (Qy (show _=Value.int .i64 ((nth ks k).idx:Int)from congrArg (Value.int .i64) (by rw[hcs];exact Qie hkk)) (dH 7 rfl (Xy rfl QkX rfl (λw1 h1=>ih w1 k hkk (hs.later h1.nil))) (λ⟨gu,gv⟩_=>dBa ?_))))
    refine dH 8 rfl (Qz ((nth ks k).flat.flatMap TEnt.vals) rfl rfl rfl Xi Tryz.underlying85 XB rfl aPk (λw h=>Rw.src ev2 (HS.rw_own ev2 h aPk rfl) (HS.refl w [])) (QR ev2 _) (Ye ev1 _) om (by simp only[maxLen];omega)) (λb5 _=>dTu [] ?_)
    refine dP 9 ?_
    refine dNi ?_
    exact Qf b5 trivial (by rw[Yv hk0,List.length_append];exact aSx) (λw h=>by rw[Yv hk0,List.length_append,List.flatMap_append];exact h.ent aEt)
   have hk0:¬0<ks.length:=by have hq:=h4;omega
   refine aU ?_
   exact Qf (ga,gc) trivial (by rw[Qbr hk0];exact aSx) (λw h=>by rw[Qbr hk0];exact h.ent aEt)
  intro⟨gb,gf⟩ _
  refine aU8 ?_
  refine Qi (L':=[(0,_),(1,_),(2,_),(4,_),(5,_),(6,_),(7,_),(8,_),(9,_),(10,_),(11,_),(12,_),(37,_)]) aSx (λ_ h=>h) ?_
  refine Q7 (α:=Option Addr×Nat) [6,38,39,40,41,42,43,44,45] (λx=>[(6,.slice x.1 (X8 es ks (k+1)).length x.2)]) (λx=>HS w [] [.blk b1 24 4 [.int .i64 co,.int .i64 mo,.int .i64 rm,.slice a L.length cap],.blk b2 87 3 (nth L i).vals,.own (.slice x.1 (X8 es ks (k+1)).length x.2) 50 2 (X8 es ks (k+1)).length ((X8 es ks (k+1)).flatMap TEnt.vals)]) (λ_=>True) ?_ ?_
  ·skip
   refine sCd rfl (λh6=>?_) λh6=>?_
   ·have hke2:k<es.length:=by have hq:=h6;omega
    have hm5:=congrArg List.length (Y9 (es:=es) (ks:=ks) hke2)
    rw[List.length_append]at hm5
    refine aU5 ?_
    refine o_p (Qa rfl rfl rfl Xi (k) om om (Rw.some (hs.es hi) om)) rfl (o_q (Qt _ rfl rfl YF rfl (Rw.rd (hs.es hi) om)) rfl (Qn (show _=Value.agg (TEnt.vals (nth es k)).toArray from by rw[hes]) (o_h (Qc (cs:=[_,_]) rfl rfl Xi XB rfl rfl rfl) rfl (λb7 _=>o_h (Qz (TEnt.vals (nth es k)) rfl rfl rfl Xi Tryz.underlying85 XB rfl aPk (Q5 aPk) rfl (ev1 _) (by simp only[List.length_singleton]at hm5;omega) (by simp only[maxLen];omega)) rfl (λb8 _=>aU2 ?_)))))
    exact Qf b8 trivial (by rw[Y9 hke2,List.length_append];exact aSx) (λw h=>by rw[Y9 hke2,List.length_append,List.flatMap_append];simp only[List.flatMap_cons,List.flatMap_nil,List.append_nil];exact h.ent aEt)
   have hke2:¬k<es.length:=by have hq:=h6;omega
   refine aU ?_
   exact Qf (gb,gf) trivial (by rw[Qa5 hke2];exact aSx) (λw h=>by rw[Qa5 hke2];exact h.ent aEt)
  intro⟨gd,ge⟩ _
  refine aT4 ?_
  refine aU2 ?_
  exact sBk (k+1,(gd,ge)) (by(try simp only[]);omega) (by(try simp only[]);omega)
 refine Qk rfl ?_
 refine aU5 ?_
 exact rT rfl rfl (λw' h'=>⟨(ga,gc),by have hke:k=es.length+1:=om;simp only[Qw];rw[<-ZV hsh,<-hke],trivial,by have hke:k=es.length+1:=om;rw[<-ZV hsh,<-hke];exact h'.ent aEt⟩)
theorem c111:∀(d:Nat)(w:World)(co mo rm:Int)(a:Option Addr)(cap:Nat)(L:List LNd)(T:BT)(lo hi:Nat),Nt w [] a L->L.length<=1000->Bel lo hi d T->NIn (pln L) T->T.flat.length<=10000->Calls Tryz.prog 111 #[.agg #[.int .i64 co,.int .i64 mo,.int .i64 rm,.slice a L.length cap],.int .i64 (T.idx:Int)] w λen w'=>∃g:Option Addr×Nat,en=.returned (.slice g.1 (T.flat).length g.2)/\True/\HS w [] [.own (.slice g.1 (T.flat).length g.2) 50 2 (T.flat).length ((T.flat).flatMap TEnt.vals)] w'
  | 0,w,co,mo,rm,a,cap,L,.nd i es ks,lo,hi,hs,hl,hB,hN,hf=>by
    rw[BT.flat]at hf ⊢;have hk:=QmT hB;exact QmA w co mo rm a cap L i es ks hs hl (by have h9:=hN.root.1;rwa[Qd]at h9) hN.root.2 (.inl hk) hf (λw1 k h=>by rw[hk]at h;exact absurd h (Nat.not_lt_zero _))
  | d+1,w,co,mo,rm,a,cap,L,.nd i es ks,lo,hi,hs,hl,hB,hN,hf=>by
    have hf2:=hf;rw[BT.flat]at hf ⊢;exact QmA w co mo rm a cap L i es ks hs hl (by have h9:=hN.root.1;rwa[Qd]at h9) hN.root.2 (.inr hB.1) hf (λw1 k h h1=>c111 d w1 co mo rm a cap L (nth ks k) lo hi h1 hl (Qh1 hB h) (hN.kid h) (Nat.le_trans (QhL hB.1 h) hf))
theorem QoR(w:World)(co mo rm:Int)(a:Option Addr)(cap:Nat)(L:List LNd)(T:BT)(d lo hi:Nat)(hs:Nt w [] a L)(hl:L.length<=1000)(hB:Bel lo hi d T)(hN:NIn (pln L) T)(h0:T.idx=0)(hf:T.flat.length<=10000):CE 111 #[.agg #[.int .i64 co,.int .i64 mo,.int .i64 rm,.slice a L.length cap],.int .i64 0] w [] (λg:Option Addr×Nat=>.slice g.1 (T.flat).length g.2) (λg=>True) λg=>[.own (.slice g.1 (T.flat).length g.2) 50 2 (T.flat).length ((T.flat).flatMap TEnt.vals)]:=by
  have h9:=c111 d w co mo rm a cap L T lo hi hs hl hB hN hf;rw[h0]at h9;exact h9
theorem QfK{w0 w:World}{M:List Nat}{As As':List HA}{a:Option Addr}{cap t k g:Nat}{l:List TEnt}(hk:k<l.length)(hg:a=some ⟨g,0,none⟩)(h:HS w0 M As w)(hp:QG As (.own (.slice a l.length cap) t 2 l.length (l.flatMap TEnt.vals)) As')(q:Nat)(v:Value)(hv:(TEnt.vals (nth l k))[q]?=some v):Rd w [] g (0+k*2+q) v:=by
  have h1:=Rw.rd (h.rw_own ev2 hp rfl) (i:=k) hk q v hv;rw[hg]at h1;exact h1
theorem c59(w:World)(co mo rm:Int)(a:Option Addr)(cap:Nat)(L:List LNd)(T:BT)(d lo hi:Nat)(hs:Nt w [] a L)(hl:L.length<=1000)(hB:Bel lo hi d T)(hN:NIn (pln L) T)(h0:T.idx=0)(hf:T.flat.length<=10000):CE 59 #[.agg #[.int .i64 co,.int .i64 mo,.int .i64 rm,.slice a L.length cap]] w [] (λg:Option Addr×Nat=>.slice g.1 (T.flat).length g.2) (λg=>True) λg=>[.own (.slice g.1 (T.flat).length g.2) 50 2 (T.flat).length ((T.flat).flatMap TEnt.vals)]:=by
 refine eN1 Tryz.func59 Tryz.ntmps59 ?_
 refine aU2 ?_
 refine oBx λb1 _=>?_
 refine aU5 ?_
 refine oCh rfl (λw1 h1=>QoR w1 co mo rm a cap L T d lo hi (hs.later h1.nil) hl hB hN h0 hf) (λ⟨gu,gv⟩_=>aU2 ?_)
 exact rT rfl rfl (λw' h'=>⟨(gu,gv),rfl,trivial,h'.ent aEt⟩)
theorem Qjo:QC Tryz.prog 141=true:=by kernel_rfl
theorem QoG:QC Tryz.prog 89=true:=by kernel_rfl
def AllC(S:Type)(I:Nat->S->Prop)(C:S->HA)(st:S->TEnt->S->Prop)(co:S->Bool)(Q:TEnt->Prop)(lr:Nat)(bt:Nat)(j:Nat)(mo rm:Int)(a:Option Addr)(cap:Nat)(L:List LNd)(T:BT):Prop:=∀(w:World)(s:S)(r:Nat),(HS w (fps [C s]) [C s] w)->((∀(n:Nat)(s2:S)(x:TEnt)(w1:World),HS w (fps [C s]) [C s2] w1->I (n+1) s2->Q x->YM Tryz.prog lr [Value.agg (TEnt.vals x).toArray].toArray w1 λe w2=>∃s3:S,e=.returned (.bool (co s3))/\(st s2 x s3/\(co s3=true->I n s3))/\HS w1 (fps [C s2]) [C s3] w2))->(TbR w (fps [C s]) bt (j:Int) mo rm a L.length cap)->(Nt w (fps [C s]) a L)->(∀x∈T.flat,Q x)->((T.flat).length<=10000)->(I ((T.flat).length+r) s)->Calls Tryz.prog 141 #[.pointer (some ⟨bt,0,none⟩),.int .i64 (T.idx:Int),.func (.yield lr) #[] #[]] w λen w'=>∃g:S×Bool,en=.returned (.bool g.2)/\(RunY st co s T.flat g.1 g.2/\(g.2=true->I r g.1))/\HS w (fps [C s]) [C g.1] w'
theorem QmL(w:World)(S:Type)(I:Nat->S->Prop)(C:S->HA)(st:S->TEnt->S->Prop)(co:S->Bool)(Q:TEnt->Prop)(lr:Nat)(bt:Nat)(j:Nat)(mo rm:Int)(a:Option Addr)(cap:Nat)(L:List LNd)(i:Nat)(es:List TEnt)(ks:List BT)(s:S)(r:Nat)(hw:HS w (fps [C s]) [C s] w)(hv:(∀(n:Nat)(s2:S)(x:TEnt)(w1:World),HS w (fps [C s]) [C s2] w1->I (n+1) s2->Q x->YM Tryz.prog lr [Value.agg (TEnt.vals x).toArray].toArray w1 λe w2=>∃s3:S,e=.returned (.bool (co s3))/\(st s2 x s3/\(co s3=true->I n s3))/\HS w1 (fps [C s2]) [C s3] w2))(ht:TbR w (fps [C s]) bt (j:Int) mo rm a L.length cap)(hs:Nt w (fps [C s]) a L)(hQ:∀x∈(flatL es ks),Q x)(hf:((flatL es ks)).length<=10000)(hI:I (((flatL es ks)).length+r) s)(hl:L.length<=1000)(hi:i<L.length)(hn:nth (pln L) i=⟨true,es,YI ks⟩)(hsh:ks=[]\/ks.length=es.length+1)(ih:∀k,k<ks.length->AllC S I C st co Q lr bt j mo rm a cap L (nth ks k)):CE 141 #[.pointer (some ⟨bt,0,none⟩),.int .i64 (i:Int),.func (.yield lr) #[] #[]] w (fps [C s]) (λg:S×Bool=>.bool g.2) (λg=>(RunY st co s (flatL es ks) g.1 g.2/\(g.2=true->I r g.1))) λg=>[C g.1]:=by
 rw[QB hi]at hn
 have hes:(nth L i).es=es:=congrArg Nd.es hn
 have hcs:(nth L i).cs=YI ks:=congrArg Nd.cs hn
 have hesl:(nth L i).es.length=es.length:=by rw[hes]
 have hcsl:(nth L i).cs.length=ks.length:=by rw[hcs,QdZ]
 have hel:es.length<=10000:=Nat.le_trans (QdQ es ks).length_le hf
 have hkl:ks.length<=10001:=by rcases hsh with h|h;rw[h];exact Nat.zero_le _;omega
 refine eW3 Tryz.func141 Tryz.ntmps141 hw ?_
 refine YO ?_
 refine o_q (Qb rfl rfl Za (ht 3 _ rfl)) rfl (aU ?_)
 refine o_p (Qa rfl rfl rfl Q2 (i) om om (Rw.some hs.1 om)) rfl (o_q (Qt _ rfl rfl Qaq rfl (Rw.rd hs.1 hi)) rfl (oAl (λb1 _=>?_) YS))
 refine aT9 ?_
 refine aU3 ?_
 refine Qi (L':=[(0,_),(2,_),(6,_),(7,_),(20,_),(21,_)]) aSx (λ_ h=>h) ?_
 refine Qp (α:=Nat×S) [6,8,21,22,23,24,25,26,27,28,29,30,31,32,33,34,35,36,37,38,39,40,41,42,43,44,45,46,47,48,49,50,51,52,53,54] (λx=>[(21,.int .i64 (x.1:Int))]) (λx=>HS w (fps [C s]) [.blk b1 87 3 (nth L i).vals,C x.2]) (λx=>x.1<=es.length+1/\RunY st co s (X8 es ks x.1) x.2 true/\I ((flatL es ks).length-(X8 es ks x.1).length+r) x.2) (λx=>es.length+1-x.1) (0,s) ⟨Nat.zero_le _,.nil s,hI⟩ aSx (λw h=>h.ent aEt) (λ⟨k,sk⟩hx=>?_)
 dsimp only
 obtain⟨hk1,hk2,hk3⟩:=hx
 simp only[]at hk1 hk2 hk3
 have hm1:=QaX (k:=k) hsh hk1
 refine aU5 ?_
 refine sCd rfl (λh2=>?_) λh2=>?_
 ·have hke:k<=es.length:=by have hq:=h2;omega
  have hm2:=Qev hsh hke
  have hm3:=QaX (k:=k+1) hsh om
  have hm6:=QgS (es:=es) (ks:=ks) (k:=k)
  have hm7:=Qep (es:=es) (ks:=ks) (k:=k)
  refine Qmj ?_
  refine Qhr (α:=S×Bool) 10 28 38 _ (λx=>!x.2) (λx=>HS w (fps [C s]) [.blk b1 87 3 (nth L i).vals,C x.1]) (λx=>RunY st co s (Zs es ks k) x.1 x.2/\(x.2=true->I ((flatL es ks).length-(Zs es ks k).length+r) x.1)) rfl
   (by
    intro hg3
    have hs4:=hg3;try simp only[dT]at hs4
    have hk0:0<ks.length:=by have hq:=hg3;simp at hq;omega
    have hsk:ks.length=es.length+1:=by rcases hsh with h|h;rw[h]at hk0;exact absurd hk0 (by decide);exact h
    have hkk:k<ks.length:=om
    have hm4:=congrArg List.length (Yv (es:=es) (k:=k) hk0)
    rw[List.length_append]at hm4
    refine aU9 ?_
    refine o_p (Qa rfl rfl rfl QU (k) om om (Rw.some (hs.cs hi) om)) rfl (aU ?_)
    refine o_q (Qb rfl rfl Q3 (((hs.cs hi).rdj 0 (i:=k) om rfl))) rfl (Qn (show _=Value.int .i64 ((nth ks k).idx:Int)from congrArg (Value.int .i64) (by rw[hcs];exact Qie hkk)) (aU3 ?_))
    refine o_h (Q1 (Cs:=[C sk]) rfl Qjo rfl aPs (λw1 h1 hf9=>ih k hkk w1 sk ((flatL es ks).length-(Zs es ks k).length+r) hf9 (λn9 s2 x w2 h2 hI2 hQ2=>hv n9 s2 x w2 (HS.thenF (h1.ent (Bs:=[C sk]) aEt) h2) hI2 hQ2) ((ht.keep h1).mono (QS aPs)) ((hs.keep h1).mono (QS aPs)) (λx hx=>hQ x (Qmg hsk hkk hx)) (Nat.le_trans (QhL hsk hkk) hf) (by rw[show(nth ks k).flat.length+((flatL es ks).length-(Zs es ks k).length+r)=((flatL es ks).length-(X8 es ks k).length+r)from om];exact hk3))) rfl (λ⟨sm,bm⟩hRm=>aU2 ?_)
    refine o_p (QZ rfl rfl hg3 rfl) rfl (aU ?_)
    exact Qf (sm,bm) ⟨by rw[Yv hk0];exact hk2.app hRm.1,hRm.2⟩ aSx (λw h=>h.ent aEt))
   (by
    intro hg5
    have hs6:=hg5;try simp only[dN]at hs6
    have hk0:¬0<ks.length:=by have hq:=hg5;simp at hq;omega
    refine aU9 ?_
    refine o_p (QN rfl rfl hg5 rfl) rfl (aU ?_)
    exact Qf (sk,true) ⟨by rw[Qbr hk0];exact hk2,λ_=>by rw[Qbr hk0];exact hk3⟩ aSx (λw h=>h.ent aEt)) ?_
  intro⟨sm,bm⟩ hx
  dsimp only
  obtain⟨hR1,hI1⟩:=hx
  simp only[]at hR1 hI1
  refine aU ?_
  refine sCd rfl (λh7=>?_) λh7=>?_
  ·obtain rfl:bm=false:=by have hq:=h7;simpa using hq
   obtain⟨B9,hB9⟩:=QhD hsh hke
   refine aU4 ?_
   exact rT rfl rfl (λw' h'=>⟨(sm,false),rfl,⟨by rw[hB9];exact hR1.off B9,λh=>by cases h⟩,h'.ent aEt⟩)
  obtain rfl:bm=true:=by have hq:=h7;simpa using hq
  refine aU9 ?_
  refine Qhr (α:=S×Bool) 9 44 53 _ (λx=>!x.2) (λx=>HS w (fps [C s]) [.blk b1 87 3 (nth L i).vals,C x.1]) (λx=>RunY st co s (X8 es ks (k+1)) x.1 x.2/\(x.2=true->I ((flatL es ks).length-(X8 es ks (k+1)).length+r) x.1)) rfl
   (by
    intro hg8
    have hs9:=hg8;try simp only[dT]at hs9
    have hke2:k<es.length:=by have hq:=hg8;simp at hq;omega
    have hm5:=congrArg List.length (Y9 (es:=es) (ks:=ks) hke2)
    rw[List.length_append,List.length_singleton]at hm5
    refine aU9 ?_
    refine o_p (Qa rfl rfl rfl Xi (k) om om (Rw.some (hs.es hi) om)) rfl (aU ?_)
    refine o_q (Qt _ rfl rfl YF rfl (Rw.rd (hs.es hi) om)) rfl (Qn (show _=Value.agg (TEnt.vals (nth es k)).toArray from by rw[hes]) (aU ?_))
    refine o_h (QgG (Cs:=[C sm]) rfl rfl rfl aPs (λw1 h1 hf9=>hv ((flatL es ks).length-(X8 es ks (k+1)).length+r) sm (nth es k) w1 (h1.ent aEt) (by rw[show((flatL es ks).length-(X8 es ks (k+1)).length+r)+1=((flatL es ks).length-(Zs es ks k).length+r)from om];exact hI1 rfl) (hQ _ (QnL hsh hke2)))) rfl (λsy hRy=>aU2 ?_)
    refine o_p (QZ rfl rfl hg8 rfl) rfl (aU ?_)
    exact Qf (sy,co sy) ⟨by rw[Y9 hke2];exact hR1.app (RunY.one hRy.1),hRy.2⟩ aSx (λw h=>h.ent aEt))
   (by
    intro hg10
    have hs11:=hg10;try simp only[dN]at hs11
    have hke2:¬k<es.length:=by have hq:=hg10;simp at hq;omega
    refine aU8 ?_
    refine o_p (QN rfl rfl hg10 rfl) rfl (aU ?_)
    exact Qf (sm,true) ⟨by rw[Qa5 hke2];exact hR1,λ_=>by rw[Qa5 hke2];exact hI1 rfl⟩ aSx (λw h=>h.ent aEt)) ?_
  intro⟨sy,by9⟩ hx
  dsimp only
  obtain⟨hR2,hI2⟩:=hx
  simp only[]at hR2 hI2
  refine aU ?_
  refine sCd rfl (λh12=>?_) λh12=>?_
  ·obtain rfl:by9=false:=by have hq:=h12;simpa using hq
   obtain⟨B9,hB9⟩:=QhY hsh (show k+1<=es.length+1 by omega)
   refine aU4 ?_
   exact rT rfl rfl (λw' h'=>⟨(sy,false),rfl,⟨by rw[hB9];exact hR2.off B9,λh=>by cases h⟩,h'.ent aEt⟩)
  obtain rfl:by9=true:=by have hq:=h12;simpa using hq
  refine aT4 ?_
  refine aU2 ?_
  exact sBk (k+1,sy) (by(try simp only[]);omega) ⟨by(try simp only[]);omega,hR2,hI2 rfl⟩
 refine Qk rfl ?_
 refine aU4 ?_
 exact rT rfl rfl (λw' h'=>⟨(sk,true),rfl,by have hke:k=es.length+1:=om;rw[<-ZV hsh,<-hke];exact⟨hk2,λ_=>by rw[<-ZV hsh,<-hke,Nat.sub_self,Nat.zero_add]at hk3;exact hk3⟩,h'.ent aEt⟩)
theorem c141(S:Type)(I:Nat->S->Prop)(C:S->HA)(st:S->TEnt->S->Prop)(co:S->Bool)(Q:TEnt->Prop)(lr:Nat)(bt:Nat)(j:Nat)(mo rm:Int)(a:Option Addr)(cap:Nat)(L:List LNd)(hl:L.length<=1000):∀(d:Nat)(T:BT)(lo hi:Nat),Bel lo hi d T->NIn (pln L) T->AllC S I C st co Q lr bt j mo rm a cap L T
  | 0,.nd i es ks,lo,hi,hB,hN=>λw s r hw hv ht hs hQ hf hI=>by
    rw[BT.flat]at hQ hf hI ⊢;have hk:=QmT hB;exact QmL w S I C st co Q lr bt j mo rm a cap L i es ks s r hw hv ht hs hQ hf hI hl (by have h9:=hN.root.1;rwa[Qd]at h9) hN.root.2 (.inl hk) (λk h=>by rw[hk]at h;exact absurd h (Nat.not_lt_zero _))
  | d+1,.nd i es ks,lo,hi,hB,hN=>λw s r hw hv ht hs hQ hf hI=>by
    rw[BT.flat]at hQ hf hI ⊢;exact QmL w S I C st co Q lr bt j mo rm a cap L i es ks s r hw hv ht hs hQ hf hI hl (by have h9:=hN.root.1;rwa[Qd]at h9) hN.root.2 (.inr hB.1) (λk h=>c141 S I C st co Q lr bt j mo rm a cap L hl d (nth ks k) lo hi (Qh1 hB h) (hN.kid h))
theorem QoQ(w:World)(S:Type)(I:Nat->S->Prop)(C:S->HA)(st:S->TEnt->S->Prop)(co:S->Bool)(Q:TEnt->Prop)(lr:Nat)(bt:Nat)(j:Nat)(mo rm:Int)(a:Option Addr)(cap:Nat)(L:List LNd)(T:BT)(d lo hi:Nat)(s:S)(r:Nat)(hw:HS w (fps [C s]) [C s] w)(hv:(∀(n:Nat)(s2:S)(x:TEnt)(w1:World),HS w (fps [C s]) [C s2] w1->I (n+1) s2->Q x->YM Tryz.prog lr [Value.agg (TEnt.vals x).toArray].toArray w1 λe w2=>∃s3:S,e=.returned (.bool (co s3))/\(st s2 x s3/\(co s3=true->I n s3))/\HS w1 (fps [C s2]) [C s3] w2))(ht:TbR w (fps [C s]) bt (j:Int) mo rm a L.length cap)(hs:Nt w (fps [C s]) a L)(hQ:∀x∈T.flat,Q x)(hf:(T.flat).length<=10000)(hI:I ((T.flat).length+r) s)(hl:L.length<=1000)(hB:Bel lo hi d T)(hN:NIn (pln L) T)(h0:T.idx=0):CE 141 #[.pointer (some ⟨bt,0,none⟩),.int .i64 0,.func (.yield lr) #[] #[]] w (fps [C s]) (λg:S×Bool=>.bool g.2) (λg=>(RunY st co s T.flat g.1 g.2/\(g.2=true->I r g.1))) λg=>[C g.1]:=by
  have h9:=c141 S I C st co Q lr bt j mo rm a cap L hl d T lo hi hB hN w s r hw hv ht hs hQ hf hI;rw[h0]at h9;exact h9
theorem Qlt{St α:Type}{st:St->α->St->Prop}{f:St->List α}{l:List α}{s s1:St}{b:Bool}(hst:∀s x s',st s x s'->f s'=f s++[x])(h:RunY st (λ_=>true) s l s1 b):f s1=f s++l:=by
  induction h with
  | nil s=>rw[List.append_nil]
  | go h hc _ ih=>rw[ih,hst _ _ _ h,List.append_assoc];rfl
  | stop h hc=>cases hc
theorem c89(w:World)(S:Type)(I:Nat->S->Prop)(C:S->HA)(st:S->TEnt->S->Prop)(co:S->Bool)(Q:TEnt->Prop)(lr:Nat)(bt:Nat)(j:Nat)(mo rm:Int)(a:Option Addr)(cap:Nat)(L:List LNd)(T:BT)(d lo hi:Nat)(s:S)(r:Nat)(hw:HS w (fps [C s]) [C s] w)(hv:(∀(n:Nat)(s2:S)(x:TEnt)(w1:World),HS w (fps [C s]) [C s2] w1->I (n+1) s2->Q x->YM Tryz.prog lr [Value.agg (TEnt.vals x).toArray].toArray w1 λe w2=>∃s3:S,e=.returned (.bool (co s3))/\(st s2 x s3/\(co s3=true->I n s3))/\HS w1 (fps [C s2]) [C s3] w2))(ht:TbR w (fps [C s]) bt (j:Int) mo rm a L.length cap)(hs:Nt w (fps [C s]) a L)(hQ:∀x∈T.flat,Q x)(hf:(T.flat).length<=10000)(hI:I ((T.flat).length+r) s)(hl:L.length<=1000)(hB:Bel lo hi d T)(hN:NIn (pln L) T)(h0:T.idx=0):CE 89 #[.pointer (some ⟨bt,0,none⟩),.func (.yield lr) #[] #[]] w (fps [C s]) (λg:S×Bool=>.tuple #[]) (λg=>(RunY st co s T.flat g.1 g.2/\(g.2=true->I r g.1))) λg=>[C g.1]:=by
 refine eW2 Tryz.func89 Tryz.ntmps89 hw ?_
 refine aU3 ?_
 refine o_h (Q1 (Cs:=[C s]) rfl Qjo rfl aPs (λw1 h1 hf9=>QoQ w1 S I C st co Q lr bt j mo rm a cap L T d lo hi s r hf9 (λn9 s2 x w2 h2 hI2 hQ2=>hv n9 s2 x w2 (HS.thenF (h1.ent (Bs:=[C s]) aEt) h2) hI2 hQ2) ((ht.keep h1).mono (QS aPs)) ((hs.keep h1).mono (QS aPs)) hQ hf hI hl hB hN h0)) rfl (λ⟨sm,bm⟩hRm=>aU ?_)
 exact QcM rfl (λw' h'=>⟨(sm,bm),rfl,hRm,h'.ent aEt⟩)
theorem c140(w:World)(bt:Nat)(j:Nat)(mo rm:Int)(a:Option Addr)(cap:Nat)(L:List LNd)(T:BT)(d lo hi:Nat)(hs:Nt w [] a L)(ht:TbR w [] bt (j:Int) mo rm a L.length cap)(hl:L.length<=1000)(hB:Bel lo hi d T)(hN:NIn (pln L) T)(h0:T.idx=0)(hf:T.flat.length<=10000):CE 140 #[.slice none 0 0,.func (.func 89) #[.pointer (some ⟨bt,0,none⟩)] #[]] w [] (λg:Option Addr×Nat=>.slice g.1 (T.flat).length g.2) (λg=>True) λg=>[.own (.slice g.1 (T.flat).length g.2) 50 2 (T.flat).length ((T.flat).flatMap TEnt.vals)]:=by
 refine eN2 Tryz.func140 Tryz.ntmps140 ?_
 refine aU2 ?_
 refine oBx λb1 _=>?_
 refine aU8 ?_
 refine Qkt (G:={s:((Option Addr×Nat)×List TEnt) // s.2=T.flat}) (Bs:=λs=>[.blk b1 85 1 [.slice s.1.1.1 s.1.2.length s.1.1.2],.own (.slice s.1.1.1 (s.1.2).length s.1.1.2) 50 2 (s.1.2).length ((s.1.2).flatMap TEnt.vals)]) (jmp:=λ_=>none) rfl rfl rfl QoG (λfid D l a9 w1 ob hob ha9 hw1=>?_) (λD x=>?_)
 ·skip
  have h2:HS w [] [(λs=>.star [.obj l ob,.obj D (.deferred (some [])),.blk b1 85 1 [.slice s.1.1 s.2.length s.1.2],.own (.slice s.1.1 (s.2).length s.1.2) 50 2 (s.2).length ((s.2).flatMap TEnt.vals)]) ((none,0),[])] w1:=HS.star_close (Bs:=[_,_,_,_]) ((hw1.own_nil 50 2).ent aEt)
  refine Calls.mono (c89 w1 ((Option Addr×Nat)×List TEnt) (λn s=>s.2.length+n<=10000) (λs=>.star [.obj l ob,.obj D (.deferred (some [])),.blk b1 85 1 [.slice s.1.1 s.2.length s.1.2],.own (.slice s.1.1 (s.2).length s.1.2) 50 2 (s.2).length ((s.2).flatMap TEnt.vals)]) (λs x s3=>s3.2=s.2++[x]) (λ_=>true) (λ_=>True) l bt j mo rm a cap L T d lo hi ((none,0),[]) 0 (HS.focus (Cs:=[_]) (Ds:=[]) h2) ?_ (ht.keep h2) (hs.keep h2) (λ_ _=>trivial) hf (by show 0+_<=_;omega) hl hB hN h0) λe w2 hx=>?_
  rotate_left
  ·obtain⟨⟨sm,bm⟩,he,⟨hr,_⟩,h5⟩:=hx
   refine⟨⟨_,he⟩,⟨sm,by have h7:=Qlt (f:=λs:((Option Addr×Nat)×List TEnt)=>s.2) (λ_ _ _ h=>h) hr;simpa using h7⟩,?_⟩
   have h6:=HS.star_open (HS.callA h2 h5)
   subst hob
   exact h6.ent aEt
  intro n9 s2 x w3 h3 hI2 _
  have h4:=HS.star_open (HS.focus (Cs:=[_]) (Ds:=[]) h3)
  subst hob
  obtain⟨⟨ga,gc⟩,lg⟩:=s2
  dsimp only at h4 hI2 ⊢
  refine QbW (α:=Nat) (fn:=Tryz.f140) (As1:=λb5=>.obj D (.deferred (some []))::[.blk b1 85 1 [.slice ga lg.length gc],.own (.slice ga (lg).length gc) 50 2 (lg).length ((lg).flatMap TEnt.vals),.blk b5 50 2 (TEnt.vals x)]) (L1:=λb5=>[(5,.pointer (some ⟨b5,0,none⟩)),(2,.pointer (some ⟨b1,0,none⟩))]) h4 rfl (FR.round1 ha9 7 _ rfl) ?_ ?_
  ·skip
   refine aU ?_
   refine oAl (λb2 _=>?_) XB
   refine aU2 ?_
   exact QcQ b2 aSx (λw h=>h.ent aEt)
  skip
  intro b5
  refine aU4 ?_
  refine o_h (Qc (cs:=[_,_]) rfl rfl Xi XB rfl rfl rfl) rfl (λb3 _=>o_h (Qz (TEnt.vals x) rfl rfl rfl Xi Tryz.underlying85 XB rfl aPk (Q5 aPk) rfl (ev1 _) om (by simp only[maxLen];omega)) rfl (λb4 _=>aU3 ?_))
  exact ZL rfl aPk (λw h=>⟨(b4,lg++[x]),rfl,⟨rfl,λ_=>by simp only[List.length_append,List.length_singleton];omega⟩,by refine HS.star_close (Bs:=[_,_,_,_]) ?_;simp only[List.length_append,List.length_singleton,List.flatMap_append,List.flatMap_cons,List.flatMap_nil,List.append_nil];exact h.ent aEt⟩)
 skip
 obtain⟨⟨⟨gx,gy⟩,lg⟩,hlg⟩:=x
 dsimp only at hlg
 subst hlg
 dsimp only
 refine QiZ (.inl rfl) ?_
 refine aU5 ?_
 exact Z1 (rs:=[.tmp 4]) rfl aPk (.tmp rfl (.nil)) (λw' h'=>⟨(gx,gy),rfl,trivial,h'.ent aEt⟩)
instance:TFn Tryz.prog 140:=⟨by kernel_rfl⟩
instance:TFn Tryz.prog 88:=⟨by kernel_rfl⟩
theorem c88(w:World)(bt:Nat)(j:Nat)(mo rm:Int)(a:Option Addr)(cap:Nat)(L:List LNd)(T:BT)(d lo hi:Nat)(hs:Nt w [] a L)(ht:TbR w [] bt (j:Int) mo rm a L.length cap)(hl:L.length<=1000)(hB:Bel lo hi d T)(hN:NIn (pln L) T)(h0:T.idx=0)(hf:T.flat.length<=10000):CE 88 #[.func (.func 89) #[.pointer (some ⟨bt,0,none⟩)] #[]] w [] (λg:Option Addr×Nat=>.slice g.1 (T.flat).length g.2) (λg=>True) λg=>[.own (.slice g.1 (T.flat).length g.2) 50 2 (T.flat).length ((T.flat).flatMap TEnt.vals)]:=by
 refine eN1 Tryz.func88 Tryz.ntmps88 ?_
 refine aU7 ?_
 refine oCh rfl (λw1 h1=>c140 w1 bt j mo rm a cap L T d lo hi (hs.later h1.nil) (ht.next h1.nil) hl hB hN h0 hf) (λ⟨gu,gv⟩_=>aU2 ?_)
 exact rT rfl rfl (λw' h'=>⟨(gu,gv),rfl,trivial,h'.ent aEt⟩)
theorem c44e(w:World)(co mo rm:Int)(a:Option Addr)(cap:Nat)(L:List LNd)(hs:Nt w [] a L)(hB:Bd (pln L))(hkl:∀i,i<L.length->∀x∈(nth L i).es,x.key.length<=1000000)(he:¬(Ql (⟨co,mo,rm,pln L⟩:Tre)).2=0):CR 44 #[.agg #[.int .i64 co,.int .i64 mo,.int .i64 rm,.slice a L.length cap]] w (.tuple #[.slice none 0 0,.int .i64 (Ql (⟨co,mo,rm,pln L⟩:Tre)).2]):=by
 refine eN1 Tryz.func44 Tryz.ntmps44 ?_
 refine aU2 ?_
 refine oBx λb1 _=>?_
 refine aU6 ?_
 refine oCq rfl (λw1 h1=>c87e w1 co mo rm a cap L (hs.later h1.nil) hB hkl he) (Zr ?_)
 refine sCd rfl (λh2=>?_) λh2=>?_
 ·refine aU6 ?_
  exact Qg (rs:=[.tmp 2,.tmp 3]) rfl (.tmp rfl (.tmp rfl (.nil))) (λw' h'=>⟨rfl,h'.below⟩)
 exfalso;first|omega|(simp at h2;done)|(simp_all;done)
theorem c44o(w:World)(j:Nat)(mo rm:Int)(a:Option Addr)(cap:Nat)(L:List LNd)(T:BT)(d lo hi:Nat)(hs:Nt w [] a L)(hB:Bd (pln L))(hkl:∀i,i<L.length->∀x∈(nth L i).es,x.key.length<=1000000)(h0:(Ql (⟨(j:Int),mo,rm,pln L⟩:Tre)).2=0)(hl2:L.length<=1000)(hBl:Bel lo hi d T)(hN:NIn (pln L) T)(hT0:T.idx=0)(hf:T.flat.length<=10000):CE 44 #[.agg #[.int .i64 (j:Int),.int .i64 mo,.int .i64 rm,.slice a L.length cap]] w [] (λg:Option Addr×Nat=>.tuple #[.slice g.1 (T.flat).length g.2,.int .i64 0]) (λg=>True) λg=>[.own (.slice g.1 (T.flat).length g.2) 50 2 (T.flat).length ((T.flat).flatMap TEnt.vals)]:=by
 obtain⟨hc0,hz0,hl0,hl120,hn0,_,_⟩:=Zd h0
 rw[show((⟨(j:Int),mo,rm,pln L⟩:Tre)).ns=pln L from rfl,Qd]at hl0 hl120
 have hj:j<=3:=by obtain⟨j9,e9,hj9⟩:=Qa1 hc0;have e8:((j:Nat):Int)=(j9:Int):=e9;omega
 have hT:TOk (j:Int) (pln L):=Z2 (t:=(⟨(j:Int),mo,rm,pln L⟩:Tre)) hn0
 have hmo:=(Qab hz0).1
 simp only[]at hmo
 refine eN1 Tryz.func44 Tryz.ntmps44 ?_
 refine aU2 ?_
 refine oBx λb1 _=>?_
 refine aU6 ?_
 refine oCh rfl (λw1 h1=>c87o w1 j mo rm a cap L (hs.later h1.nil) hB hkl h0) (λ⟨b9,⟨gn9,c9⟩,L9⟩hF9=>?_)
 dsimp only
 obtain⟨hL9,hn9,hm9⟩:=hF9
 simp only[]at hL9 hn9 hm9
 have hl9:L9.length=L.length:=by rw[<-Qd L9,hL9,Qd]
 have hB9:Bd (pln L9):=by rw[hL9];exact hB
 have hT9:TOk (j:Int) (pln L9):=by rw[hL9];exact hT
 have hK9:∀i,i<L9.length->∀y∈(nth L9 i).es,QE (j:Int) y.key=true/\y.key.length<=1000000:=λi hi y hy=>Qa4 hT9 i (by rw[Qd];exact hi) y (by rw[QB hi];exact hy)
 refine Zr ?_
 refine sCd rfl (λh2=>?_) λh2=>?_
 ·exfalso;first|omega|(simp at h2;done)|(simp_all;done)
 refine aU5 ?_
 refine oCh rfl (λw1 h1=>c88 w1 b9 j mo rm (some ⟨gn9,0,none⟩) c9 L9 T d lo hi (HS.nt_at h1 aPk aPk) (HS.tbr h1 aPk) om hBl (by rw[hL9];exact hN) hT0 hf) (λ⟨gu,gv⟩_=>aU3 ?_)
 exact Qg (rs:=[.tmp 2,.tmp 3]) rfl (.tmp rfl (.tmp rfl (.nil))) (λw' h'=>⟨(gu,gv),rfl,trivial,h'.ent aEt⟩)
instance:TFn Tryz.prog 220:=⟨by kernel_rfl⟩
instance:TFn Tryz.prog 221:=⟨by kernel_rfl⟩
instance:TFn Tryz.prog 236:=⟨by kernel_rfl⟩
instance:TFn Tryz.prog 219:=⟨by kernel_rfl⟩
theorem ZY:QC Tryz.prog 100=true:=by kernel_rfl
instance:TFn Tryz.prog 100:=⟨ZY⟩
instance:TFd Tryz.prog 119 1 1 3:=⟨by kernel_rfl⟩
instance:TFd Tryz.prog 119 2 2 3:=⟨by kernel_rfl⟩
instance:TFd Tryz.prog 119 3 3 3:=⟨by kernel_rfl⟩
instance:TFd Tryz.prog 119 0 0 3:=⟨by kernel_rfl⟩
theorem Qfg:QC Tryz.prog 99=true:=by kernel_rfl
instance:TFn Tryz.prog 99:=⟨Qfg⟩
instance:TFn Tryz.prog 209:=⟨by kernel_rfl⟩
instance:TFn Tryz.prog 152:=⟨by kernel_rfl⟩
instance:TFn Tryz.prog 153:=⟨by kernel_rfl⟩
theorem QjW(w:World)(n lo hi:Int):CR 220 #[.int .i64 n,.int .i64 lo,.int .i64 hi] w (.bool (decide (lo<=n)&&decide (n<=hi))):=by
 refine eN3 Tryz.func220 Tryz.ntmps220 ?_
 refine YO ?_
 refine QJ 4 10 14 rfl
  (λhg1 _=>by
   refine aU6 ?_
   exact oJt 4 14)
  (λhg3 _=>by
   refine aU3 ?_
   exact oJf 4 14) ?_
 refine aU2 ?_
 exact rV
theorem Qdx(w:World)(ok:Bool)(e:Int):CR 100 #[.bool ok,.int .i64 e] w (.int .i64 (cond ok 0 e)):=by
 refine eN2 Tryz.func100 Tryz.ntmps100 ?_
 refine aU9 ?_
 refine sCd rfl (λh1=>?_) λh1=>?_
 ·refine aU4 ?_
  exact rV (h:=by simp_all[Qw])
 refine aU6 ?_
 exact rV (h:=by simp_all[Qw])
theorem c52(w:World)(n lo hi:Int):CR 52 #[.int .i64 n,.int .i64 lo,.int .i64 hi] w (.bool (decide (lo<=n)&&decide (n<=hi))):=by
 refine eN3 Tryz.func52 Tryz.ntmps52 ?_
 refine YO ?_
 refine QJ 4 10 14 rfl
  (λhg1 _=>by
   refine aU6 ?_
   exact oJt 4 14)
  (λhg3 _=>by
   refine aU3 ?_
   exact oJf 4 14) ?_
 refine aU2 ?_
 exact rV
theorem c42(w:World)(ok:Bool)(e:Int):CR 42 #[.bool ok,.int .i64 e] w (.int .i64 (cond ok 0 e)):=by
 refine eN2 Tryz.func42 Tryz.ntmps42 ?_
 refine aU9 ?_
 refine sCd rfl (λh1=>?_) λh1=>?_
 ·refine aU4 ?_
  exact rV (h:=by simp_all[Qw])
 refine aU6 ?_
 exact rV (h:=by simp_all[Qw])
theorem c222(w:World)(ok:Bool)(e:Int):CR 222 #[.bool ok,.int .i64 e] w (.int .i64 (cond ok 0 e)):=by
 refine eN2 Tryz.func222 Tryz.ntmps222 ?_
 refine aU9 ?_
 refine sCd rfl (λh1=>?_) λh1=>?_
 ·refine aU4 ?_
  exact rV (h:=by simp_all[Qw])
 refine aU6 ?_
 exact rV (h:=by simp_all[Qw])
theorem c99(w:World)(a:Option Addr)(cap:Nat)(es:List Int)(hs:Sl w [] a 1 es.length (λi=>[.int .i64 (es.getD i 0)]))(hm:es.length<=1000):CR 99 #[.slice a es.length cap] w (.int .i64 (X7 es)):=by
 refine eN1 Tryz.func99 Tryz.ntmps99 ?_
 refine Zr ?_
 refine Qp (α:=Nat) [2,4,7,8,9,10,11,12,13,14] (λk=>[(7,.int .i64 (k:Int))]) (λ_=>_) (λk=>k<=es.length/\X7 es=X7 (es.drop k)) (λk=>es.length-k) 0 ⟨om,rfl⟩ aSx (λw h=>h) (λk hk=>?_)
 obtain⟨hk1,hk2⟩:=hk
 refine aU5 ?_
 refine sCd rfl (λh1=>?_) λh1=>?_
 ·refine aU5 ?_
  refine o_p (Qa rfl rfl rfl Q6 _ rfl om (hs.some om)) rfl (o_q (Qb rfl rfl Zc (hs.rd (i:=k) (j:=0) om rfl)) rfl (aU7 ?_))
  refine sCd rfl (λh2=>?_) λh2=>?_
  ·refine aU5 ?_
   exact rV (h:=by simp only[Qw];rw[hk2,Ym om,if_neg (by assumption)])
  refine aT4 ?_
  refine aU2 ?_
  exact QH (k+1) om ⟨om,by rw[hk2,Ym om,if_pos (by assumption)]⟩ aSx (λw h=>h)
 refine Qk rfl ?_
 refine aU4 ?_
 exact rV (h:=by simp only[Qw];rw[hk2,QbJ om])
theorem f99{w0 w:World}{M:List Nat}{As As':List HA}{b cap n:Nat}{t:TypeId}{tot:Nat}{cs:List Value}(h:HS w0 M As w)(hp:QG As (.blk b t tot cs) As')(hc:cs.all Qe3=true)(hn:cs.length=n)(hl:n<=1000) :
    Calls Tryz.prog 99 #[.slice (some ⟨b,0,none⟩) n cap] w λen w'=>en=.returned (.int .i64 (QV cs))/\Below w.heap.size w w':=by
  subst hn;have:=c99 w (some ⟨b,0,none⟩) cap (cs.map Go.RowKit.intOf) (by simpa using h.sl_ints hp hc) (by simpa using hl);rw[Qbp hc]at this
  simpa using this
theorem c38(w:World)(a:Option Addr)(cap:Nat)(es:List Int)(hs:Sl w [] a 1 es.length (λi=>[.int .i64 (es.getD i 0)]))(hm:es.length<=1000):CR 38 #[.slice a es.length cap] w (.int .i64 (X7 es)):=by
 refine eN1 Tryz.func38 Tryz.ntmps38 ?_
 refine Zr ?_
 refine Qp (α:=Nat) [2,4,7,8,9,10,11,12,13,14] (λk=>[(7,.int .i64 (k:Int))]) (λ_=>_) (λk=>k<=es.length/\X7 es=X7 (es.drop k)) (λk=>es.length-k) 0 ⟨om,rfl⟩ aSx (λw h=>h) (λk hk=>?_)
 obtain⟨hk1,hk2⟩:=hk
 refine aU5 ?_
 refine sCd rfl (λh1=>?_) λh1=>?_
 ·refine aU5 ?_
  refine o_p (Qa rfl rfl rfl Q6 _ rfl om (hs.some om)) rfl (o_q (Qb rfl rfl Zc (hs.rd (i:=k) (j:=0) om rfl)) rfl (aU7 ?_))
  refine sCd rfl (λh2=>?_) λh2=>?_
  ·refine aU5 ?_
   exact rV (h:=by simp only[Qw];rw[hk2,Ym om,if_neg (by assumption)])
  refine aT4 ?_
  refine aU2 ?_
  exact QH (k+1) om ⟨om,by rw[hk2,Ym om,if_pos (by assumption)]⟩ aSx (λw h=>h)
 refine Qk rfl ?_
 refine aU4 ?_
 exact rV (h:=by simp only[Qw];rw[hk2,QbJ om])
theorem f38{w0 w:World}{M:List Nat}{As As':List HA}{b cap n:Nat}{t:TypeId}{tot:Nat}{cs:List Value}(h:HS w0 M As w)(hp:QG As (.blk b t tot cs) As')(hc:cs.all Qe3=true)(hn:cs.length=n)(hl:n<=1000) :
    Calls Tryz.prog 38 #[.slice (some ⟨b,0,none⟩) n cap] w λen w'=>en=.returned (.int .i64 (QV cs))/\Below w.heap.size w w':=by
  subst hn;have:=c38 w (some ⟨b,0,none⟩) cap (cs.map Go.RowKit.intOf) (by simpa using h.sl_ints hp hc) (by simpa using hl);rw[Qbp hc]at this
  simpa using this
theorem c221(w:World)(n:Int):CR 221 #[.int .i64 n] w (.bool (Qel n)):=by
 refine eN1 Tryz.func221 Tryz.ntmps221 ?_
 refine aU7 ?_
 refine oCq rfl (λw1 h1=>QjW w1 _ _ _) (aU ?_)
 refine oOr 3 5 8 rfl
  (λhg1 _=>by
   refine aU3 ?_
   refine oCq rfl (λw1 h1=>QjW w1 _ _ _) ?_
   exact oJf 3 8)
  (λhg3 _=>by
   refine aU2 ?_
   exact oJt 3 8) ?_
 refine aU2 ?_
 exact rV
theorem c236(w:World)(n:Int):CR 236 #[.int .i64 n] w (.bool ((decide (n=2)||decide (n=3)))):=by
 refine eN1 Tryz.func236 Tryz.ntmps236 ?_
 refine aU9 ?_
 refine oOr 3 5 8 rfl
  (λhg1 _=>by
   refine aU4 ?_
   exact oJf 3 8)
  (λhg3 _=>by
   refine aU2 ?_
   exact oJt 3 8) ?_
 refine aU2 ?_
 exact rV
theorem c219(w:World)(n:Int):CR 219 #[.int .i64 n] w (.bool (Qcv n)):=by
 refine eN1 Tryz.func219 Tryz.ntmps219 ?_
 refine aU7 ?_
 refine oCq rfl (λw1 h1=>c221 w1 _) (aU ?_)
 refine QJ 4 5 9 rfl
  (λhg1 _=>by
   refine aU3 ?_
   refine oCq rfl (λw1 h1=>c236 w1 _) (aU2 ?_)
   exact oJt 4 9)
  (λhg3 _=>by
   refine aU3 ?_
   exact oJf 4 9) ?_
 refine aU ?_
 refine QJ 3 10 13 rfl
  (λhg5 _=>by
   refine aU4 ?_
   exact oJt 3 13)
  (λhg7 _=>by
   refine aU2 ?_
   exact oJf 3 13) ?_
 refine aU2 ?_
 exact rV
theorem c191(w:World)(o p:Int):CR 191 #[.int .i64 o,.int .i64 p] w (.int .i64 (YD o p)):=by
 refine eN2 Tryz.func191 Tryz.ntmps191 ?_
 refine aU7 ?_
 refine oCq rfl (λw1 h1=>c219 w1 _) (aU ?_)
 refine QJ 3 7 10 rfl
  (λhg1 _=>by
   refine aU3 ?_
   refine oCq rfl (λw1 h1=>c219 w1 _) ?_
   exact oJt 3 10)
  (λhg3 _=>by
   refine aU2 ?_
   exact oJf 3 10) ?_
 refine oCq rfl (λw1 h1=>Qdx w1 _ _) (aU2 ?_)
 exact rV (h:=by simp only[Qw,YD,cond_eq_ite])
theorem c194(w:World)(a:Ace):CR 194 #[.agg #[.int .i64 a.kd,.int .i64 a.fl,.int .i64 a.ms,.int .i64 a.wh]] w (.int .i64 (Qbv a)):=by
 refine eN1 Tryz.func194 Tryz.ntmps194 ?_
 refine aU2 ?_
 refine oBx λb1 _=>?_
 refine aU6 ?_
 refine oCq rfl (λw1 h1=>QjW w1 _ _ _) (aU ?_)
 refine QJ 4 7 11 rfl
  (λhg2 _=>by
   refine aU5 ?_
   refine oCq rfl (λw1 h1=>QjW w1 _ _ _) ?_
   exact oJt 4 11)
  (λhg4 _=>by
   refine aU3 ?_
   exact oJf 4 11) ?_
 refine aU ?_
 refine QJ 4 12 16 rfl
  (λhg6 _=>by
   refine aU5 ?_
   refine oCq rfl (λw1 h1=>c221 w1 _) ?_
   exact oJt 4 16)
  (λhg8 _=>by
   refine aU3 ?_
   exact oJf 4 16) ?_
 refine aU6 ?_
 refine oCq rfl (λw1 h1=>QjW w1 _ _ _) (oCq rfl (λw1 h1=>Qdx w1 _ _) (aU ?_))
 refine oCq rfl (λw1 h1=>Qdx w1 _ _) (o_h (Qc (cs:=[_,_]) rfl rfl Q6 Xx rfl rfl rfl) rfl (λb10 _=>oCq rfl (λw1 h1=>f99 h1 aPk (by rfl) (by rfl) (by decide)) (aU2 ?_)))
 exact rV (h:=by simp only[Qw];rw[Qag];unfold Qbv;simp only[cond_eq_ite,Bool.and_eq_true,decide_eq_true_eq];grind)
theorem c209(w:World)(n:Int):CR 209 #[.int .i64 n] w (.bool (decide (10<=n)&&decide (n<=999))):=by
 refine eN1 Tryz.func209 Tryz.ntmps209 ?_
 refine aU7 ?_
 refine oCq rfl (λw1 h1=>c56 w1 _ _ _) (aU2 ?_)
 exact rV
theorem c153(w:World)(n:Int):CR 153 #[.int .i64 n] w (.bool (Qel n)):=by
 refine eN1 Tryz.func153 Tryz.ntmps153 ?_
 refine aU7 ?_
 refine oCq rfl (λw1 h1=>c56 w1 _ _ _) (aU ?_)
 refine oOr 3 5 8 rfl
  (λhg1 _=>by
   refine aU3 ?_
   refine oCq rfl (λw1 h1=>c209 w1 _) ?_
   exact oJf 3 8)
  (λhg3 _=>by
   refine aU2 ?_
   exact oJt 3 8) ?_
 refine aU2 ?_
 exact rV
theorem c152(w:World)(n:Int):CR 152 #[.int .i64 n] w (.bool (Qcv n)):=by
 refine eN1 Tryz.func152 Tryz.ntmps152 ?_
 refine aU7 ?_
 refine oCq rfl (λw1 h1=>c209 w1 _) (aU ?_)
 refine oOr 3 5 8 rfl
  (λhg1 _=>by
   refine aU4 ?_
   exact oJf 3 8)
  (λhg3 _=>by
   refine aU2 ?_
   exact oJt 3 8) ?_
 refine aU ?_
 refine oOr 3 9 12 rfl
  (λhg5 _=>by
   refine aU4 ?_
   exact oJf 3 12)
  (λhg7 _=>by
   refine aU2 ?_
   exact oJt 3 12) ?_
 refine aU2 ?_
 exact rV (h:=by simp only[Qw,Qcv,Qel];refine congrArg (λb=>Ending.returned (Value.bool b)) ?_;rw[Bool.eq_iff_iff];simp;omega)
theorem c109(w:World)(o p:Int):CR 109 #[.int .i64 o,.int .i64 p] w (.int .i64 (YD o p)):=by
 refine eN2 Tryz.func109 Tryz.ntmps109 ?_
 refine aU8 ?_
 refine oCq rfl (λw1 h1=>c152 w1 _) (aU2 ?_)
 refine oOr 4 8 12 rfl
  (λhg1 _=>by
   refine aU3 ?_
   refine oCq rfl (λw1 h1=>c152 w1 _) (aU2 ?_)
   exact oJf 4 12)
  (λhg3 _=>by
   refine aU3 ?_
   exact oJt 4 12) ?_
 refine aU ?_
 refine sCd rfl (λh5=>?_) λh5=>?_
 ·have hz:YD o p=2:=by have hq:=h5;unfold YD;rw[if_neg (by simp;grind)]
  refine aU4 ?_
  exact rV (h:=by rw[hz];rfl)
 have hz:YD o p=0:=by have hq:=h5;unfold YD;rw[if_pos (by simp;grind)]
 refine aU5 ?_
 exact rV (h:=by rw[hz];rfl)
theorem c110(w:World)(a:Ace):CR 110 #[.agg #[.int .i64 a.kd,.int .i64 a.fl,.int .i64 a.ms,.int .i64 a.wh]] w (.int .i64 (Qbv a)):=by
 refine eN1 Tryz.func110 Tryz.ntmps110 ?_
 refine aU2 ?_
 refine oBx λb1 _=>?_
 refine aU7 ?_
 refine oCq rfl (λw1 h1=>c56 w1 _ _ _) (aU2 ?_)
 refine sCd rfl (λh2=>?_) λh2=>?_
 ·have hz:Qbv a=15:=by have hq:=h2;unfold Qbv;rw[if_neg om]
  refine aU4 ?_
  exact rV (h:=by rw[hz];rfl)
 refine aU6 ?_
 refine oCq rfl (λw1 h1=>c56 w1 _ _ _) (aU2 ?_)
 refine oOr 5 11 16 rfl
  (λhg3 _=>by
   refine aU5 ?_
   refine oCq rfl (λw1 h1=>c56 w1 _ _ _) (aU2 ?_)
   exact oJf 5 16)
  (λhg5 _=>by
   refine aU4 ?_
   exact oJt 5 16) ?_
 refine aU ?_
 refine oOr 5 17 22 rfl
  (λhg7 _=>by
   refine aU5 ?_
   refine oCq rfl (λw1 h1=>c153 w1 _) (aU2 ?_)
   exact oJf 5 22)
  (λhg9 _=>by
   refine aU4 ?_
   exact oJt 5 22) ?_
 refine aU ?_
 refine sCd rfl (λh11=>?_) λh11=>?_
 ·have hz:Qbv a=2:=by unfold Qbv;rw[if_pos om,if_neg (by simp;grind)]
  refine aU4 ?_
  exact rV (h:=by rw[hz];rfl)
 have hz:Qbv a=0:=by unfold Qbv;rw[if_pos om,if_pos (by simp;grind)]
 refine aU5 ?_
 exact rV (h:=by rw[hz];rfl)
end Go.Proofs
namespace Gx
open Go Go.RowKit Go.ChangeShapes Go.WideShapes Go.ChangeAt
section
variable{H:Type}{enc:TypeId×Value->H}{P:Program}{W:World}
def okT(P:Program)(W:World):Nat->TypeId->List Value->Prop
 | 0,_,_=>False
 | d+1,t,cs=>match P.underlying t with
  | some (.int k)=>∃n,cs=[.int k n]/\(Lit.int k n).wf=true
  | some .string=>∃l,cs=[.string (bs l)]/\l.length<=maxLen
  | some .bool=>∃b,cs=[.bool b]
  | some (.slice e)=>∃a n cap cell,cs=[.slice a n cap]/\n<=cap/\cap<=maxLen/\(0<P.cellsOf e->Sl W [] a (P.cellsOf e) n cell)/\∀i,i<n->okT P W d e (cell i)
  | some (.struct fs)=>cs.length=P.cellsOf t/\∀f∈fs.toList,okT P W d f.type ((cs.drop f.offset).take (P.cellsOf f.type))
  | some (.array n e)=>cs.length=P.cellsOf t/\∀i,i<n->okT P W d e ((cs.drop (i*P.cellsOf e)).take (P.cellsOf e))
  | _=>True
theorem QdS{a:Addr}{n:Nat}{cs:List Value}(h:W.cells? 0 a n=some cs):cs.length=n/\∀j v,cs[j]?=some v->W.cell? (a.add j)=some v:=by
 unfold World.cells? at h;rw[if_pos (Nat.zero_le _)]at h;have hl:cs.length=n:=by simpa using mapM_some_length h
 refine⟨hl,λj v hv=>?_⟩;have hj:j<n:=by rw[<-hl];exact(List.getElem?_eq_some_iff.1 hv).1
 have:=mapM_some_get h j j (by simp[hj]);rw[this,hv]
theorem Zu{sp:Nat->Bool}{held:Bool}:∀(d:Nat)(t:TypeId)(cs:List Value)(x:DataW H×List MemPlace),DataW.trod enc P W 0 sp held d t cs=some x->okT P W d t cs
 | 0,_,_,_,h=>by simp[DataW.trod]at h
 | d+1,t,cs,x,h=>by
  rw[okT];split
  ·rename_i k hu;obtain⟨n,rfl,_,hw⟩:=DataW.trod_int hu h;exact⟨n,rfl,hw⟩
  ·rename_i hu;obtain⟨s,rfl,_,hs⟩:=DataW.trod_string hu h;exact⟨s.data.toList,rfl,hs⟩
  ·rename_i hu;obtain⟨b,rfl,_⟩:=DataW.trod_bool hu h;exact⟨b,rfl⟩
  ·rename_i e hu;rcases DataW.trod_slice hu h with⟨rfl,_⟩|⟨a,len,cap,elems,rest,n,hn,rfl,_,_,hl,hc,hel,hg,_⟩
   ·exact⟨none,0,0,λ_=>[],rfl,Nat.le_refl _,Nat.zero_le _,λ_=>⟨λh0=>absurd h0 (Nat.lt_irrefl _)⟩,λi hi=>absurd hi (Nat.not_lt_zero i)⟩
   ·cases hn
    have hx:∀i,i<len->∃c y,W.cells? 0 (a.add (i*P.cellsOf e)) (P.cellsOf e)=some c/\DataW.trod enc P W 0 sp held d e c=some y:=λi hi=>by
     have h1:=hg i hi;have h2:∃y,elems[i]?=some y:=⟨_,List.getElem?_eq_getElem om⟩;obtain⟨y,hy⟩:=h2;rw[hy,Option.bind_eq_some_iff]at h1;obtain⟨c,e1,e2⟩:=h1;exact⟨c,y,e1,e2⟩
    have hcell:∀i,∃c,i<len->∃y,W.cells? 0 (a.add (i*P.cellsOf e)) (P.cellsOf e)=some c/\DataW.trod enc P W 0 sp held d e c=some y:=λi=>by
     by_cases hi:i<len
     ·obtain⟨c,y,e1,e2⟩:=hx i hi;exact⟨c,λ_=>⟨y,e1,e2⟩⟩
     ·exact⟨[],λh=>absurd h hi⟩
    obtain⟨cell,hcell⟩:=Classical.axiomOfChoice hcell;refine⟨some a,len,cap,cell,rfl,hl,hc,λh0=>⟨λhpos=>?_⟩,λi hi=>?_⟩
    ·have hsp:a.spot=none:=by
      obtain⟨y,e1,_⟩:=hcell 0 hpos;obtain⟨e2,e3⟩:=QdS e1;have hz:0<(cell 0).length:=om
      have e4:=e3 0 _ (List.getElem?_eq_getElem hz);have e5:(a.add (0*P.cellsOf e)).add 0=a:=by simp[Addr.add]
      rw[e5]at e4;unfold World.cell? at e4;split at e4
      ·split at e4
       ·cases e4
       ·rename_i hns;cases hsx:a.spot with
        | none=>rfl
        | some v=>rw[hsx]at hns;simp at hns
      ·cases e4
     obtain⟨b,o,s⟩:=a;simp only at hsp;subst hsp;refine⟨b,o,rfl,λi hi=>?_⟩;obtain⟨y,e1,_⟩:=hcell i hi;obtain⟨e2,e3⟩:=QdS e1;refine⟨e2,λj v hv=>?_⟩;have e4:=e3 j v hv;have e5:((⟨b,o,none⟩:Addr).add (i*P.cellsOf e)).add j=⟨b,o+i*P.cellsOf e+j,none⟩:=by rw[XI,XI]
     rw[e5]at e4;refine⟨?_,by simp,e4⟩;unfold World.cell? at e4;split at e4
     ·rename_i hh;exact(Array.getElem?_eq_some_iff.1 hh).1
     ·cases e4
    ·obtain⟨y,_,e2⟩:=hcell i hi;exact Zu d e _ y e2
  ·rename_i fs hu;obtain⟨xs,n,hn,_,hl,hxl,hg⟩:=DataW.trod_struct hu h;cases hn;refine⟨hl,λf hf=>?_⟩;obtain⟨i,hi,rfl⟩:=List.getElem_of_mem hf;have hi':i<fs.size:=by simpa using hi
   have h1:=hg i fs[i] (by simp[hi']);rw[List.getElem?_eq_getElem om]at h1;exact Zu d _ _ _ (by simpa using h1)
  ·rename_i n e hu;obtain⟨xs,m,hm,_,hl,hxl,hg⟩:=DataW.trod_array hu h;cases hm;refine⟨hl,λi hi=>?_⟩;have h1:=hg i hi;rw[List.getElem?_eq_getElem om]at h1;exact Zu d _ _ _ h1
  ·trivial
section
variable{d:Nat}{t:TypeId}{cs:List Value}
theorem Yw{k:IntKind}(h:okT P W d t cs)(hu:P.underlying t=some (.int k)):∃n,cs=[.int k n]/\(Lit.int k n).wf=true:=by
 cases d with
 | zero=>cases h
 | succ d=>rw[okT,hu]at h;exact h
theorem Qil(h:okT P W d t cs)(hu:P.underlying t=some .string):∃l,cs=[.string (bs l)]/\l.length<=maxLen:=by
 cases d with
 | zero=>cases h
 | succ d=>rw[okT,hu]at h;exact h
theorem QdK(h:okT P W d t cs)(hu:P.underlying t=some .bool):∃b,cs=[.bool b]:=by
 cases d with
 | zero=>cases h
 | succ d=>rw[okT,hu]at h;exact h
theorem QcT{e:TypeId}(h:okT P W d t cs)(hu:P.underlying t=some (.slice e))(hc:0<P.cellsOf e):∃d' a n cap cell,cs=[.slice a n cap]/\n<=cap/\cap<=maxLen/\Sl W [] a (P.cellsOf e) n cell/\∀i,i<n->okT P W d' e (cell i):=by
 cases d with
 | zero=>cases h
 | succ d=>
  rw[okT,hu]at h;obtain⟨a,n,cap,cell,h1,h2,h3,h4,h5⟩:=h;exact⟨d,a,n,cap,cell,h1,h2,h3,h4 hc,h5⟩
theorem QbE{fs:Array Field}(h:okT P W d t cs)(hu:P.underlying t=some (.struct fs)):∃d',cs.length=P.cellsOf t/\∀f∈fs.toList,okT P W d' f.type ((cs.drop f.offset).take (P.cellsOf f.type)):=by
 cases d with
 | zero=>cases h
 | succ d=>rw[okT,hu]at h;exact⟨d,h⟩
theorem Qn0{n:Nat}{e:TypeId}(h:okT P W d t cs)(hu:P.underlying t=some (.array n e)):∃d',cs.length=P.cellsOf t/\∀i,i<n->okT P W d' e ((cs.drop (i*P.cellsOf e)).take (P.cellsOf e)):=by
 cases d with
 | zero=>cases h
 | succ d=>rw[okT,hu]at h;exact⟨d,h⟩
end
theorem QdX{sp:Nat->Bool}{held:Bool}{t:TypeId}{v:Value}{x:DataW H}{ps:List MemPlace}(h:DataW.Trod enc P W 0 sp held t v x ps):∃d,okT P W d t v.cells.toList:=by
 obtain⟨d,h⟩:=h;exact⟨d,Zu d t _ _ h⟩
theorem Qla{t:TypeId}{v:Value}{r:Reach}{b0:Nat}(hval:Value.okWide P W r b0 t v)(ha:(match P.underlying t with|some (.struct _)|some (.array _ _)=>true|_=>false)=true):∃cs:List Value,v=.agg cs.toArray/\v.cells.toList=cs:=by
 unfold Value.okWide at hval;split at ha
 ·rename_i hu;rw[hu]at hval;obtain⟨cs,rfl,_⟩:=hval;exact⟨cs.toList,rfl,rfl⟩
 ·rename_i hu;rw[hu]at hval;obtain⟨cs,rfl,_⟩:=hval;exact⟨cs.toList,rfl,rfl⟩
 ·cases ha
theorem Z3{n:Int}(h:(Lit.int .i64 n).wf=true): -9223372036854775808<=n/\n<=9223372036854775807:=by
 simpa[Lit.wf,IntKind.min,IntKind.max,IntKind.signed,IntKind.bits]using h
theorem QbC(hl:laidOutB P=true){W':World}(hb:Below W.heap.size W W'):∀{ts:List TypeId}{vs:List Value}{ds:List (DataW H)}{ps:List MemPlace},ts.all (λt=>P.readableRec t&&decide (t<P.types.size))=true ->
  DataW.TrodAll enc P W 0 (λ_=>true) true ts vs ds ps->(∀x∈ps,x.block<W.heap.size)->DataW.TrodAll enc P W' 0 (λb=>decide (b<W.heap.size)) true ts vs ds ps
 | [],[],[],_,_,h,_=>h
 | [],_::_,_,_,_,h,_=>(by cases h)
 | [],[],_::_,_,_,h,_=>(by cases h)
 | _::_,[],_,_,_,h,_=>(by cases h)
 | _::_,_::_,[],_,_,h,_=>(by cases h)
 | t::ts,v::vs,d::ds,ps,hr,h,hlt=>by
  obtain⟨p,q,h1,h2,rfl⟩:=h;simp only[List.all_cons,Bool.and_eq_true,decide_eq_true_eq]at hr;exact⟨p,q,Below.trod hl hr.1.1 hr.1.2 h1 hb (λx hx=>hlt x (List.mem_append_left _ hx)),QbC hl hb hr.2 h2 (λx hx=>hlt x (List.mem_append_right _ hx)),rfl⟩
theorem QiJ{f:Func}{s:ChangeSpec}{apart fresh handsOn:Bool}{W':World}{args:Array Value}{ds gs:List (DataW H)}{before:List MemPlace}{tb:TypeId}
  (hl:laidOutB P=true)(hr:f.params.toList.all (λt=>P.readableRec t&&decide (t<P.types.size))=true)(hbool:f.resultTypes= #[tb])(htb:P.underlying tb=some .bool)(hv:s.vars=[])
  (hs:s.fn H ds={results:=[.lit (.bool true)],args:=ds})(hW:DataW.Whole enc P f.params.toList s.vars apart W args.toList ds gs before)(hb:Below W.heap.size W W') :
  s.post enc P f apart fresh handsOn false W args (.bool true) W':=by
 have hW':=hW;obtain⟨p,q,hA,hV,rfl,hfz,hnd⟩:=hW;rw[hv]at hV;obtain⟨rfl,rfl⟩:=trodVars_none hV;have hlt:∀x∈p,x.block<W.heap.size:=λx hx=>by simpa using hW'.lt x (by simpa using hx)
 refine⟨ds,[],p++[],[],p,[],hW',?_,?_,?_,hb.frame _,λh=>by cases h⟩
 ·rw[List.append_nil,hs,hbool];exact trodAll_mk1 (shut_bool htb true)
 ·rw[List.append_nil,hs];exact QbC hl hb hr hA hlt
 ·rw[List.append_nil,hs,hv];rfl
end
end Gx
namespace Go.Proofs
open Go Go.RowKit Gx
theorem Qh9{α:Type}[Inhabited α]{vals:α->List Value}{sz n:Nat}{W:World}{a:Option Addr}{cell:Nat->List Value}{Q:α->Prop}(hs:Sl W [] a sz n cell)(hr:∀i,i<n->∃x,cell i=vals x/\Q x):∃l:List α,n=l.length/\Rw vals sz W [] a l/\(∀x∈l,Q x)/\∀i,i<n->cell i=vals (nth l i):=by
 have hr2:∀i,∃x,i<n->cell i=vals x/\Q x:=λi=>by
  by_cases hi:i<n
  ·obtain⟨x,h⟩:=hr i hi;exact⟨x,λ_=>h⟩
  ·exact⟨default,λh=>absurd h hi⟩
 obtain⟨f,hf⟩:=Classical.axiomOfChoice hr2
 have hg:∀i,i<n->nth ((List.range n).map f) i=f i:=λi hi=>by
  simp only[nth,List.getD_eq_getElem?_getD,List.getElem?_map,List.getElem?_range hi,Option.map_some,Option.getD_some]
 refine⟨(List.range n).map f,by simp,⟨λhn=>?_⟩,λx hx=>?_,λi hi=>?_⟩
 ·rw[List.length_map,List.length_range]at hn;obtain⟨b,o,e,h2⟩:=hs.at_ hn;refine⟨b,o,e,λi hi=>?_⟩;rw[List.length_map,List.length_range]at hi;have h3:=h2 i hi;rw[(hf i hi).1]at h3;rw[hg i hi];exact h3
 ·obtain⟨i,hi,rfl⟩:=List.mem_map.1 hx;exact(hf i (List.mem_range.1 hi)).2
 ·rw[hg i hi];exact(hf i hi).1
theorem Qfs:Tryz.prog.cellsOf 3=1:=by kernel_rfl
theorem Qmf:Tryz.prog.cellsOf 4=1:=by kernel_rfl
theorem QlA:Tryz.prog.cellsOf 9=1:=by kernel_rfl
theorem Qer:Tryz.prog.cellsOf 50=2:=by kernel_rfl
theorem Qjg:Tryz.prog.cellsOf 65=1:=by kernel_rfl
theorem QkT:Tryz.prog.cellsOf 85=1:=by kernel_rfl
theorem Qje:Tryz.prog.cellsOf 87=3:=by kernel_rfl
section
variable{W:World}{d:Nat}
theorem ln2{cs:List Value}(h:cs.length=2):∃x0 x1,cs=[x0,x1]:=by
 match cs,h with
 | [x0,x1],_=>exact⟨x0,x1,rfl⟩
theorem ln3{cs:List Value}(h:cs.length=3):∃x0 x1 x2,cs=[x0,x1,x2]:=by
 match cs,h with
 | [x0,x1,x2],_=>exact⟨x0,x1,x2,rfl⟩
theorem QfJ{x:Value}(h:okT Tryz.prog W d 3 [x]):∃n,x=.int .i64 n:=by
 obtain⟨n,e,_⟩:=Yw h Tryz.underlying3;cases e;exact⟨n,rfl⟩
theorem QlD{x:Value}(h:okT Tryz.prog W d 4 [x]):∃n,x=.bool n:=by
 obtain⟨n,e⟩:=QdK h Tryz.underlying4;cases e;exact⟨n,rfl⟩
theorem Qlk{x:Value}(h:okT Tryz.prog W d 9 [x]):∃l:List UInt8,x=.string (bs l)/\l.length<=maxLen:=by
 obtain⟨l,e,g⟩:=Qil h Tryz.underlying9;cases e;exact⟨l,rfl,g⟩
theorem QnJ{cs:List Value}(h:okT Tryz.prog W d 50 cs):∃x:TEnt,cs=x.vals/\True:=by
 obtain⟨d2,l,o⟩:=QbE h Tryz.underlying50;rw[Qer]at l;obtain⟨x0,x1,rfl⟩:=ln2 l;simp only[List.mem_cons,List.mem_nil_iff,or_false,forall_eq_or_imp,forall_eq]at o;rw[QlA]at o;obtain⟨s,rfl,hs⟩:=Qlk (x:=x0) o.1;obtain⟨t,rfl,ht⟩:=Qlk (x:=x1) o.2;exact⟨⟨s,t⟩,rfl,trivial⟩
theorem QlG{x:Value}(h:okT Tryz.prog W d 85 [x]):∃a c l,x=.slice a (List.length (α:=TEnt) l) c/\Rw TEnt.vals 2 W [] a l:=by
 obtain⟨d2,a,n,cap,cell,e,h1,h2,sl,rows⟩:=QcT h Tryz.underlying85 (by rw[Qer];decide);rw[Qer]at sl;cases e;obtain⟨l,rfl,hl,_⟩:=Qh9 (vals:=TEnt.vals) (Q:=λ_=>True) sl λi hi=>QnJ (rows i hi);exact⟨a,cap,l,rfl,hl⟩
theorem Qmu{x:Value}(h:okT Tryz.prog W d 65 [x]):∃a c l,x=.slice a (List.length (α:=Int) l) c/\Rw inV 1 W [] a l:=by
 obtain⟨d2,a,n,cap,cell,e,h1,h2,sl,rows⟩:=QcT h Tryz.underlying65 (by rw[Qfs];decide);rw[Qfs]at sl;cases e
 obtain⟨l,rfl,hl,_⟩:=Qh9 (vals:=inV) (Q:=λ_=>True) sl λi hi=>by
  obtain⟨m,e,g⟩:=Yw (rows i hi) Tryz.underlying3;exact⟨m,e,trivial⟩
 exact⟨a,cap,l,rfl,hl⟩
theorem QoY{cs:List Value}(h:okT Tryz.prog W d 87 cs):∃k:LNd,cs=k.vals/\Rw TEnt.vals 2 W [] k.ea k.es/\Rw inV 1 W [] k.ca k.cs:=by
 obtain⟨d2,l,o⟩:=QbE h Tryz.underlying87;rw[Qje]at l;obtain⟨x0,x1,x2,rfl⟩:=ln3 l;simp only[List.mem_cons,List.mem_nil_iff,or_false,forall_eq_or_imp,forall_eq]at o;rw[Qmf,QkT,Qjg]at o;obtain⟨n0,rfl⟩:=QlD (x:=x0) o.1;obtain⟨ea,ec,es,rfl,he⟩:=QlG (x:=x1) o.2.1;obtain⟨ca,cc,ks,rfl,hk⟩:=Qmu (x:=x2) o.2.2;exact⟨⟨n0,ea,ec,es,ca,cc,ks⟩,rfl,he,hk⟩
theorem Qgp{n:Nat}{a:Option Addr}{cell:Nat->List Value}(sl:Sl W [] a 3 n cell)(rows:∀i,i<n->okT Tryz.prog W d 87 (cell i)):∃l:List LNd,n=l.length/\Nt W [] a l:=by
 obtain⟨l,rfl,hl,hk,_⟩:=Qh9 (vals:=LNd.vals) (Q:=λk=>Rw TEnt.vals 2 W [] k.ea k.es/\Rw inV 1 W [] k.ca k.cs) sl λi hi=>QoY (rows i hi);exact⟨l,rfl,hl,hk⟩
end
theorem QiG:Tryz.prog.cellsOf 119=4:=by kernel_rfl
theorem Qg5{n:Nat}(h:n<=maxLen):n<=9223372036854775807:=by
 have h2:maxLen<=9223372036854775807:=by decide
 omega
section
variable{W:World}{d:Nat}
theorem ln4{cs:List Value}(h:cs.length=4):∃x0 x1 x2 x3,cs=[x0,x1,x2,x3]:=by
 match cs,h with
 | [x0,x1,x2,x3],_=>exact⟨x0,x1,x2,x3,rfl⟩
theorem Qoe{cs:List Value}(h:okT Tryz.prog W d 119 cs):∃x:Ace,cs=x.vals/\True:=by
 obtain⟨d2,l,o⟩:=QbE h Tryz.underlying119;rw[QiG]at l;obtain⟨x0,x1,x2,x3,rfl⟩:=ln4 l;simp only[List.mem_cons,List.mem_nil_iff,or_false,forall_eq_or_imp,forall_eq]at o;rw[Qfs]at o;obtain⟨n0,rfl⟩:=QfJ (x:=x0) o.1;obtain⟨n1,rfl⟩:=QfJ (x:=x1) o.2.1;obtain⟨n2,rfl⟩:=QfJ (x:=x2) o.2.2.1;obtain⟨n3,rfl⟩:=QfJ (x:=x3) o.2.2.2;exact⟨⟨n0,n1,n2,n3⟩,rfl,trivial⟩
theorem QhT{n:Nat}{a:Option Addr}{cell:Nat->List Value}(sl:Sl W [] a 4 n cell)(rows:∀i,i<n->okT Tryz.prog W d 119 (cell i)):∃l:List Ace,n=l.length/\Rw Ace.vals 4 W [] a l:=by
 obtain⟨l,h1,h2,_,_⟩:=Qh9 (vals:=Ace.vals) (Q:=λ_=>True) sl λi hi=>Qoe (rows i hi);exact⟨l,h1,h2⟩
end
end Go.Proofs
namespace Go.Proofs
open Go Go.RowKit Gx
attribute [local irreducible] Go.Calls Gx.S Gx.O Gx.D Gx.OpP Gx.OpQ Gx.OpH
set_option maxRecDepth 20000
theorem Xq:tsl Tryz.prog 26=some (119,4,32):=by kernel_rfl
theorem QaF:tsz Tryz.prog 119=some (4,true):=by kernel_rfl
instance:TSz Tryz.prog 119 4 true:=⟨QaF⟩
theorem Xa:Q8 Tryz.prog 119=some [.int .i64 0,.int .i64 0,.int .i64 0,.int .i64 0]:=by kernel_rfl
theorem Yd:tsl Tryz.prog 61=some (72,2,24):=by kernel_rfl
theorem YZ:tsz Tryz.prog 72=some (2,true):=by kernel_rfl
instance:TSz Tryz.prog 72 2 true:=⟨YZ⟩
theorem XJ:Q8 Tryz.prog 72=some [.int .i64 0,.string (bs [])]:=by kernel_rfl
theorem Qn4:QC Tryz.prog 194=true:=by kernel_rfl
instance:TFd Tryz.prog 28 4 4 26:=⟨by kernel_rfl⟩
theorem Qf3:tsz Tryz.prog 26=some (1,false):=by kernel_rfl
instance:TSz Tryz.prog 26 1 false:=⟨Qf3⟩
theorem c192(w:World)(a:Option Addr)(cap:Nat)(l:List Ace)(q:Nat)(cv:Array Value)(es:List Int)(hs:Rw Ace.vals 4 w [] a l)(hm:l.length<=1000000)(hq:QC Tryz.prog q=true)(he:es.length=l.length)(hc:∀k w1,k<l.length->(∀j,j<k->es.getD j 0=0)->HS w [] [] w1->Calls Tryz.prog q (#[]++[.int .i64 (k:Int),.agg (Ace.vals (nth l k)).toArray].toArray++cv) w1 λen w2=>en=.returned (.int .i64 (es.getD k 0))/\Below w1.heap.size w1 w2):CR 192 #[.slice a l.length cap,.func (.func q) #[] cv] w (.tuple #[.int .i64 (QM es 0).1,.int .i64 (QM es 0).2]):=by
 refine eN2 Tryz.func192 Tryz.ntmps192 ?_
 refine Qb9 ?_
 refine Qp (α:=Nat) [4,5,6,7,8,11,12,13,14,15,16,17,18,19,20,21,22,23,24] (λk=>[(11,.int .i64 (k:Int))]) (λ_=>HS w [] []) (λk=>k<=l.length/\QM es 0=QM (es.drop k) k/\∀j,j<k->es.getD j 0=0) (λk=>l.length-k) 0 ⟨om,rfl,λi h=>absurd h (Nat.not_lt_zero i)⟩ aSx (λw h=>h.ent aEt) (λk hk=>?_)
 obtain⟨hk1,hk2,hk3⟩:=hk
 refine aU5 ?_
 refine sCd rfl (λh1=>?_) λh1=>?_
 ·refine aU6 ?_
  refine o_p (Qa rfl rfl rfl Xq (k) om om (Rw.some hs om)) rfl (o_q (Qt _ rfl rfl QaF rfl (Rw.rd hs om)) rfl (oAl (λb2 _=>?_) Xa))
  refine aU8 ?_
  refine o_q (XM rfl rfl hq rfl (λw1 h1=>hc k w1 om hk3 (h1.ent aEt))) rfl (aU7 ?_)
  refine sCd rfl (λh3=>?_) λh3=>?_
  ·refine aU7 ?_
   exact Qg (rs:=[.tmp 4,.tmp 5]) rfl (.tmp rfl (.tmp rfl (.nil))) (λw' h'=>⟨by simp only[Qw];rw[hk2,Xh om,if_neg (by assumption)],h'.below⟩)
  refine aT4 ?_
  refine aU2 ?_
  exact sBk (k+1) om ⟨om,by rw[hk2,Xh om,if_pos (by assumption)],λj hj=>(Nat.lt_or_ge j k).elim (hk3 j) (λh=>by obtain rfl:j=k:=om;assumption)⟩
 refine Qk rfl ?_
 refine aU5 ?_
 exact Qg (rs:=[.tmp 4,.tmp 5]) rfl (.tmp rfl (.tmp rfl (.nil))) (λw' h'=>⟨by simp only[Qw];rw[hk2,QcP om],h'.below⟩)
theorem c193(w:World)(b m i:Nat)(ea:Option Addr)(ec:Nat)(a:Ace)(hr:Rd w [] b 4 (.slice ea m ec)):CR 193 #[.int .i64 (i:Int),.agg #[.int .i64 a.kd,.int .i64 a.fl,.int .i64 a.ms,.int .i64 a.wh],.pointer (some ⟨b,0,none⟩)] w (.int .i64 (Qar m i a)):=by
 have e1:((i:Int)>=(m:Int)) ↔ m<=i:=om
 refine eN3 Tryz.func193 Tryz.ntmps193 ?_
 refine aU2 ?_
 refine oBx λb1 _=>?_
 refine aU3 ?_
 refine Qq [] mixed ?_
 refine dLn 0 [] ?_
 refine dQ 1 [] rfl (Qe rfl Qn4 rfl (λw1 h1=>c194 w1 _)) (dFa 2 ?_)
 refine dLd 3 [] ?_
 refine dP 4 ?_
 refine dP 5 ?_
 refine dFa 6 ?_
 refine dQ 7 [] rfl (Qb rfl rfl Qf3 (hr)) (dV 8 rfl (Qx rfl rfl Tryz.underlying26) (dP 9 ?_))
 refine dV 10 rfl (QbF rfl rfl rfl Tryz.underlying4) (dQ 11 [] rfl (Qe rfl ZY rfl (λw1 h1=>Qdx w1 _ _)) (dH 12 rfl (Qc (cs:=[_,_]) rfl rfl Q6 Xx rfl rfl rfl) (λb2 _=>dBa ?_)))
 refine dQ 13 [] rfl (Qe rfl Qfg rfl (λw1 h1=>f99 h1 aPk (by rfl) (by rfl) (by decide))) (dP 14 ?_)
 refine dNi ?_
 exact rV (h:=by simp only[Qw,e1];rw[Qag];unfold Qar;simp only[cond_eq_ite,beq_iff_eq])
theorem QbR:Q8 Tryz.prog 5=some [.int .u8 0]:=by kernel_rfl
theorem QmV:QC Tryz.prog 85=true:=by kernel_rfl
theorem Qnf:QC Tryz.prog 148=true:=by kernel_rfl
theorem Qee:tsl Tryz.prog 211=some (26,1,24):=by kernel_rfl
instance:TFn Tryz.prog 138:=⟨by kernel_rfl⟩
theorem c85(w:World)(a:Option Addr)(cap:Nat)(l:List UInt8)(n:Int)(hw:HS w (fps [.own (.slice a l.length cap) 5 1 (l.length) ((l).map bv)]) [.own (.slice a l.length cap) 5 1 (l.length) ((l).map bv)] w)(hn:0<=n/\n<65536)(hl:l.length<=1000000):CE 85 #[.slice a l.length cap,.int .u16 n] w (fps [.own (.slice a l.length cap) 5 1 (l.length) ((l).map bv)]) (λg:Option Addr×Nat=>.slice g.1 (l++le2 n).length g.2) (λg=>True) λg=>[.own (.slice g.1 (l++le2 n).length g.2) 5 1 ((l++le2 n).length) ((l++le2 n).map bv)]:=by
 refine eW2 Tryz.func85 Tryz.ntmps85 hw ?_
 refine aU8 ?_
 refine o_p (Qm rfl rfl XE Yx) rfl (Qn (XS _) (aU ?_))
 refine o_p (Qci rfl rfl rfl (by decide) 8 rfl) rfl (o_p (Qm rfl rfl XE Yx) rfl (Qn (show _=bv (by8 (n/256))from XS _) (o_h (Qc (cs:=[_,_]) rfl rfl QD QbR rfl rfl rfl) rfl (λb1 _=>?_))))
 refine o_h (Qz _ rfl rfl rfl QD Tryz.underlying124 QbR rfl aPk (Q5 aPk) rfl (by intro u hu;simp only[List.mem_cons,List.mem_nil_iff,or_false]at hu;rcases hu with rfl|rfl<;>rfl) om (by simp only[maxLen];omega)) rfl (λb2 _=>aU2 ?_)
 exact rT rfl rfl (λw' h'=>⟨b2,by rw[List.length_append];rfl,trivial,by rw[List.length_append,List.map_append];exact h'.ent aEt⟩)
theorem c83(w:World)(a:Option Addr)(cap:Nat)(l:List UInt8)(n:Int)(hw:HS w (fps [.own (.slice a l.length cap) 5 1 (l.length) ((l).map bv)]) [.own (.slice a l.length cap) 5 1 (l.length) ((l).map bv)] w)(hn:0<=n/\n<4294967296)(hl:l.length<=1000000):CE 83 #[.slice a l.length cap,.int .u32 n] w (fps [.own (.slice a l.length cap) 5 1 (l.length) ((l).map bv)]) (λg:Option Addr×Nat=>.slice g.1 (l++le4 n).length g.2) (λg=>True) λg=>[.own (.slice g.1 (l++le4 n).length g.2) 5 1 ((l++le4 n).length) ((l++le4 n).map bv)]:=by
 have he9:l++le4 n=(l++le2 (n%65536))++[by8 (n/65536),by8 (n/16777216)]:=by rw[Qk0,Qlm,List.append_assoc]
 have hl2:(l++le2 (n%65536)).length=l.length+2:=by rw[List.length_append];rfl
 refine eW2 Tryz.func83 Tryz.ntmps83 hw ?_
 refine aU8 ?_
 refine o_p (Qm rfl rfl Xt XE) rfl (Qn (show _=Value.int .u16 (n%65536)from by rw[Qjy]) (o_h (Q1 (Cs:=[.own (.slice a l.length cap) 5 1 (l.length) ((l).map bv)]) rfl QmV rfl aPs (λw1 h1 hf=>c85 w1 a cap l (n%65536) hf om hl)) rfl (λga _=>aU ?_)))
 refine o_p (Qci rfl rfl rfl (by decide) 16 rfl) rfl (o_p (Qm rfl rfl Xt Yx) rfl (Qn (show _=bv (by8 (n/65536))from XS _) (aU ?_)))
 refine o_p (Qci rfl rfl rfl (by decide) 24 rfl) rfl (o_p (Qm rfl rfl Xt Yx) rfl (Qn (show _=bv (by8 (n/16777216))from XS _) (o_h (Qc (cs:=[_,_]) rfl rfl QD QbR rfl rfl rfl) rfl (λb1 _=>?_))))
 refine o_h (Qz _ rfl rfl rfl QD Tryz.underlying124 QbR rfl aPk (Q5 aPk) rfl (by intro u hu;simp only[List.mem_cons,List.mem_nil_iff,or_false]at hu;rcases hu with rfl|rfl<;>rfl) om (by simp only[maxLen];omega)) rfl (λb2 _=>aU2 ?_)
 exact rT rfl rfl (λw' h'=>⟨b2,by rw[he9,@List.length_append _ (l++le2 (n%65536)) _];rfl,trivial,by rw[he9,List.map_append (l₁:=l++le2 (n%65536)),@List.length_append _ (l++le2 (n%65536)) _];exact h'.ent aEt⟩)
theorem c148(w:World)(a:Option Addr)(cap:Nat)(l:List UInt8)(n:Int)(hw:HS w (fps [.own (.slice a l.length cap) 5 1 (l.length) ((l).map bv)]) [.own (.slice a l.length cap) 5 1 (l.length) ((l).map bv)] w)(hn:0<=n/\n<65536)(hl:l.length<=1000000):CE 148 #[.slice a l.length cap,.int .u16 n] w (fps [.own (.slice a l.length cap) 5 1 (l.length) ((l).map bv)]) (λg:Option Addr×Nat=>.slice g.1 (l++le2 n).length g.2) (λg=>True) λg=>[.own (.slice g.1 (l++le2 n).length g.2) 5 1 ((l++le2 n).length) ((l++le2 n).map bv)]:=by
 refine eW2 Tryz.func148 Tryz.ntmps148 hw ?_
 refine aU8 ?_
 refine o_p (Qm rfl rfl XE Yx) rfl (Qn (XS _) (aU ?_))
 refine o_p (Qci rfl rfl rfl (by decide) 8 rfl) rfl (o_p (Qm rfl rfl XE Yx) rfl (Qn (show _=bv (by8 (n/256))from XS _) (o_h (Qc (cs:=[_,_]) rfl rfl QD QbR rfl rfl rfl) rfl (λb1 _=>?_))))
 refine o_h (Qz _ rfl rfl rfl QD Tryz.underlying124 QbR rfl aPk (Q5 aPk) rfl (by intro u hu;simp only[List.mem_cons,List.mem_nil_iff,or_false]at hu;rcases hu with rfl|rfl<;>rfl) om (by simp only[maxLen];omega)) rfl (λb2 _=>aU2 ?_)
 exact rT rfl rfl (λw' h'=>⟨b2,by rw[List.length_append];rfl,trivial,by rw[List.length_append,List.map_append];exact h'.ent aEt⟩)
theorem c98(w:World)(a:Option Addr)(cap:Nat)(l:List UInt8)(n:Int)(hw:HS w (fps [.own (.slice a l.length cap) 5 1 (l.length) ((l).map bv)]) [.own (.slice a l.length cap) 5 1 (l.length) ((l).map bv)] w)(hn:0<=n/\n<4294967296)(hl:l.length<=1000000):CE 98 #[.slice a l.length cap,.int .u32 n] w (fps [.own (.slice a l.length cap) 5 1 (l.length) ((l).map bv)]) (λg:Option Addr×Nat=>.slice g.1 (l++le4 n).length g.2) (λg=>True) λg=>[.own (.slice g.1 (l++le4 n).length g.2) 5 1 ((l++le4 n).length) ((l++le4 n).map bv)]:=by
 have he9:l++le4 n=(l++le2 (n%65536))++[by8 (n/65536),by8 (n/16777216)]:=by rw[Qk0,Qlm,List.append_assoc]
 have hl2:(l++le2 (n%65536)).length=l.length+2:=by rw[List.length_append];rfl
 refine eW2 Tryz.func98 Tryz.ntmps98 hw ?_
 refine aU8 ?_
 refine o_p (Qm rfl rfl Xt XE) rfl (Qn (show _=Value.int .u16 (n%65536)from by rw[Qjy]) (o_h (Q1 (Cs:=[.own (.slice a l.length cap) 5 1 (l.length) ((l).map bv)]) rfl Qnf rfl aPs (λw1 h1 hf=>c148 w1 a cap l (n%65536) hf om hl)) rfl (λga _=>aU ?_)))
 refine o_p (Qci rfl rfl rfl (by decide) 16 rfl) rfl (o_p (Qm rfl rfl Xt Yx) rfl (Qn (show _=bv (by8 (n/65536))from XS _) (aU ?_)))
 refine o_p (Qci rfl rfl rfl (by decide) 24 rfl) rfl (o_p (Qm rfl rfl Xt Yx) rfl (Qn (show _=bv (by8 (n/16777216))from XS _) (o_h (Qc (cs:=[_,_]) rfl rfl QD QbR rfl rfl rfl) rfl (λb1 _=>?_))))
 refine o_h (Qz _ rfl rfl rfl QD Tryz.underlying124 QbR rfl aPk (Q5 aPk) rfl (by intro u hu;simp only[List.mem_cons,List.mem_nil_iff,or_false]at hu;rcases hu with rfl|rfl<;>rfl) om (by simp only[maxLen];omega)) rfl (λb2 _=>aU2 ?_)
 exact rT rfl rfl (λw' h'=>⟨b2,by rw[he9,@List.length_append _ (l++le2 (n%65536)) _];rfl,trivial,by rw[he9,List.map_append (l₁:=l++le2 (n%65536)),@List.length_append _ (l++le2 (n%65536)) _];exact h'.ent aEt⟩)
theorem c138(w:World)(n:Nat)(hn:n<=1000000):CE 138 #[.slice none 0 0,.int .i64 (n:Int)] w [] (λg:Option Addr×Nat=>.slice g.1 0 g.2) (λg=>True) λg=>[.own (.slice g.1 0 g.2) 119 4 0 []]:=by
 refine eN2 Tryz.func138 Tryz.ntmps138 ?_
 refine YO ?_
 refine sCd rfl (λh1=>?_) λh1=>?_
 ·exfalso;first|omega|(simp at h1;done)|(simp_all;done)
 refine aU6 ?_
 refine o_p (QmI rfl rfl Tryz.underlying26) rfl (aT3 ?_)
 refine aT ?_
 refine Qn (show _=Value.int .i64 (n:Int)from by first|rfl|(congr 1;omega)) (aU7 ?_)
 refine sCd rfl (λh2=>?_) λh2=>?_
 ·refine aU3 ?_
  refine o_p (QmI rfl rfl Tryz.underlying26) rfl (o_p (XU _ _ 0 0 rfl rfl Xq rfl ⟨_,_,rfl,rfl⟩ om om) rfl (Qn (show _=Value.slice none 0 0 from rfl) (aU ?_)))
  refine o_h (Qez (m:=n) (olds:=[]) rfl rfl rfl Xq X2 Xa rfl (by decide) om om (λw h hne=>absurd rfl hne) rfl om (by simp only[maxLen];omega)) rfl (λ⟨b3,c4⟩⟨h5,k6⟩=>aU2 ?_)
  refine o_p (XU _ _ 0 0 rfl rfl Xq rfl ⟨_,_,rfl,rfl⟩ om om) rfl ?_
  refine Qn (show _=Value.slice (some ⟨b3,0,none⟩) 0 c4 from by rw[Qi8]<;>rfl) (aU7 ?_)
  exact rT rfl rfl (λw' h'=>by first|exact⟨(some ⟨b3,0,none⟩,c4),rfl,trivial,(HS.to_own (n:=0) (xs:=[]) (ds:=QbU [.int .i64 0,.int .i64 0,.int .i64 0,.int .i64 0] (n*4)) aPk h' rfl rfl om om).ent aEt⟩|exact⟨(none,0),rfl,trivial,(h'.own_nil 119 4).ent aEt⟩)
 refine aU6 ?_
 exact rT rfl rfl (λw' h'=>by first|exact⟨(some ⟨b3,0,none⟩,c4),rfl,trivial,(HS.to_own (n:=0) (xs:=[]) (ds:=QbU [.int .i64 0,.int .i64 0,.int .i64 0,.int .i64 0] (n*4)) aPk h' rfl rfl om om).ent aEt⟩|exact⟨(none,0),rfl,trivial,(h'.own_nil 119 4).ent aEt⟩)
theorem c84(w:World)(a:Option Addr)(cap:Nat)(rs:List (RowV Ace))(hs:Vl w a (rs.map RowV.v))(hr:∀r∈rs,Rw Ace.vals 4 w [] r.a r.l)(hm:(rs.flatMap RowV.l).length<=1000000)(hn:rs.length<=1000):CE 84 #[.slice a rs.length cap] w [] (λg:Option Addr×Nat=>.slice g.1 (rs.flatMap RowV.l).length g.2) (λg=>True) λg=>[.own (.slice g.1 (rs.flatMap RowV.l).length g.2) 119 4 (rs.flatMap RowV.l).length ((rs.flatMap RowV.l).flatMap Ace.vals)]:=by
 refine eN1 Tryz.func84 Tryz.ntmps84 ?_
 refine Qmj ?_
 refine Qp (α:=Nat) [3,5,11,12,13,14,15,16,17,18,19,20,21,22] (λk=>[(11,.int .i64 (k:Int)),(3,.int .i64 ((((rs.take k).flatMap RowV.l).length:Nat):Int))]) (λ_=>HS w [] []) (λk=>k<=rs.length) (λk=>rs.length-k) 0 (Nat.zero_le _) aSx (λw h=>h.ent aEt) (λk hk1=>?_)
 refine aU5 ?_
 refine sCd rfl (λh1=>?_) λh1=>?_
 ·have hk:k<rs.length:=by omega
  have hst:=congrArg List.length (QiA hk)
  rw[List.length_append]at hst
  have hle:=QmW rs (k+1)
  refine aU5 ?_
  refine o_p (Qa rfl rfl rfl Qee (k) om om (hs.some (by rw[List.length_map];omega))) rfl (o_q (Qb rfl rfl Qf3 ((hs.rd (Qlc hk)))) rfl (aT8 ?_))
  refine Qn (show _=Value.int .i64 ((((rs.take k).flatMap RowV.l).length+(rs.getD k default).l.length:Nat):Int)from by congr 1) (aU7 ?_)
  refine sCd rfl (λh2=>?_) λh2=>?_
  ·exfalso;first|omega|(simp at h2;done)|(simp_all;done)
  refine aT4 ?_
  refine aU2 ?_
  exact sBk (k+1) om om (by rw[hst];exact aSx)
 obtain rfl:k=rs.length:=om
 rw[List.take_length]
 refine Qk rfl ?_
 refine aU3 ?_
 refine oCh rfl (λw1 h1=>c138 w1 (rs.flatMap RowV.l).length hm) (λgg _=>YO ?_)
 refine Qp (α:=Nat×Option Addr×Nat) [6,8,27,28,29,30,31,32,33,34] (λx=>[(27,.int .i64 (x.1:Int)),(6,.slice x.2.1 ((rs.take x.1).flatMap RowV.l).length x.2.2)]) (λx=>HS w [] [.own (.slice x.2.1 ((rs.take x.1).flatMap RowV.l).length x.2.2) 119 4 ((rs.take x.1).flatMap RowV.l).length (((rs.take x.1).flatMap RowV.l).flatMap Ace.vals)]) (λx=>x.1<=rs.length) (λx=>rs.length-x.1) (0,gg.1,gg.2) (Nat.zero_le _) aSx (λw h=>h.ent aEt) (λ⟨k,ga,gc⟩hk1=>?_)
 dsimp only
 simp only[]at hk1
 refine aU5 ?_
 refine sCd rfl (λh3=>?_) λh3=>?_
 ·have hk:k<rs.length:=by omega
  have hst:=QiA hk
  have hle:=QmW rs (k+1)
  rw[hst,List.length_append]at hle
  have hmem:rs.getD k default∈rs:=Yb hk
  refine aU5 ?_
  refine o_p (Qa rfl rfl rfl Qee (k) om om (hs.some (by rw[List.length_map];omega))) rfl (o_q (Qb rfl rfl Qf3 ((hs.rd (Qlc hk)))) rfl (aU5 ?_))
  refine o_h (Qz ((rs.getD k default).l.flatMap Ace.vals) rfl rfl rfl Xq Tryz.underlying26 Xa rfl aPk (λw h=>Rw.src av4 (hr _ hmem) h) (QR av4 _) (Ye av1 _) om (by simp only[maxLen];omega)) rfl (λb4 _=>aT5 ?_)
  refine aU2 ?_
  exact QH (k+1,b4.1,b4.2) (by(try simp only[]);omega) (by(try simp only[]);omega) (by dsimp only;rw[hst,List.length_append];exact aSx) (λw h=>by dsimp only;rw[hst,List.length_append,Xd];exact h.ent aEt)
 obtain rfl:k=rs.length:=om
 rw[List.take_length]
 refine Qk rfl ?_
 refine aU5 ?_
 exact rT rfl rfl (λw' h'=>⟨(ga,gc),rfl,trivial,h'.ent aEt⟩)
theorem Qlg:QC Tryz.prog 193=true:=by kernel_rfl
instance:TFd Tryz.prog 28 0 0 3:=⟨by kernel_rfl⟩
instance:TFd Tryz.prog 28 1 1 3:=⟨by kernel_rfl⟩
theorem Qog:QC Tryz.prog 191=true:=by kernel_rfl
instance:TFd Tryz.prog 28 5 5 26:=⟨by kernel_rfl⟩
instance:TFd Tryz.prog 28 3 3 4:=⟨by kernel_rfl⟩
theorem QjK:Q8 Tryz.prog 26=some [.slice none 0 0]:=by kernel_rfl
instance:TFn Tryz.prog 84:=⟨by kernel_rfl⟩
instance:TFn Tryz.prog 192:=⟨by kernel_rfl⟩
theorem XT:tsz Tryz.prog 28=some (6,true):=by kernel_rfl
instance:TSz Tryz.prog 28 6 true:=⟨XT⟩
instance:TFn Tryz.prog 137:=⟨by kernel_rfl⟩
instance:TFn Tryz.prog 109:=⟨by kernel_rfl⟩
theorem QfN:Yh Tryz.prog 119=some [(0,1),(1,1),(2,1),(3,1)]:=by kernel_rfl
instance:TFn Tryz.prog 110:=⟨by kernel_rfl⟩
instance:TFn Tryz.prog 58:=⟨by kernel_rfl⟩
def QdA(d:Dsc):Int:=if YD d.ow d.gr=0 then if d.en.length<=16/\d.au.length<=16 then if d.he||decide (d.en.length=0)then 0 else 3 else 8 else YD d.ow d.gr
theorem Qbd(d:Dsc){mx:Int}{b:Bool}(hm:mx<=16 ↔ ((d.en.length:Int)<=16/\(d.au.length:Int)<=16))(hb:b=(d.he||decide (d.en.length=0))):QV [.int .i64 (YD d.ow d.gr),.int .i64 (cond (decide (mx<=16)) 0 8),.int .i64 (cond b 0 3)]=QdA d:=by
  subst hb;unfold QdA;simp only[QV,cond_eq_ite,decide_eq_true_eq,hm];have:((d.en.length:Int)<=16/\(d.au.length:Int)<=16) ↔ (d.en.length<=16/\d.au.length<=16):=om
  simp only[this]
  grind
theorem Qdm(d:Dsc):QF d=if QdA d=0 then QM (ZA d.en.length (d.en++d.au)) 0 else(0,QdA d):=by
  unfold QF QdA;split
  · split
    · split
      · simp
      · simp
    · simp
  · rename_i h;simp[h]
theorem cat2(w:World){b t tot:Nat}{w0:World}{M:List Nat}{As As':List HA}(ea aa:Option Addr)(ec ac:Nat)(l m:List Ace)(hw:HS w0 M As w)(hp:QG As (.blk b t tot [.slice ea l.length ec,.slice aa m.length ac]) As')(hl:Rw Ace.vals 4 w [] ea l)(hm:Rw Ace.vals 4 w [] aa m)(h1:l.length<=100000)(h2:m.length<=100000) :
    Calls Tryz.prog 84 #[.slice (some ⟨b,0,none⟩) 2 2] w λen w'=>∃g:Option Addr×Nat,en=.returned (.slice g.1 (l++m).length g.2)/\True/\HS w [] [.own (.slice g.1 (l++m).length g.2) 119 4 (l++m).length ((l++m).flatMap Ace.vals)] w':=by
  have h9:=c84 w (some ⟨b,0,none⟩) 2 [⟨ea,ec,l⟩,⟨aa,ac,m⟩] (hw.vl_blk hp) (by intro r hr;simp only[List.mem_cons,List.mem_nil_iff,or_false]at hr;rcases hr with rfl|rfl;exact hl;exact hm) (by simp;omega) (by simp);rw[show([⟨ea,ec,l⟩,⟨aa,ac,m⟩]:List (RowV Ace)).flatMap RowV.l=l++m from by simp]at h9;exact h9
theorem c137(w:World)(d:Dsc)(ea:Option Addr)(eac:Nat)(aa:Option Addr)(aac:Nat)(hse:Rw Ace.vals 4 w [] ea d.en)(hsa:Rw Ace.vals 4 w [] aa d.au)(hme:d.en.length<=100000)(hma:d.au.length<=100000):CR 137 #[.agg #[.int .i64 d.ow,.int .i64 d.gr,.bool d.pr,.bool d.he,.slice ea d.en.length eac,.slice aa d.au.length aac]] w (.tuple #[.int .i64 (QF d).1,.int .i64 (QF d).2]):=by
 refine eN1 Tryz.func137 Tryz.ntmps137 ?_
 refine aU2 ?_
 refine oBx λb1 _=>?_
 refine aU4 ?_
 refine Qq [] mixed ?_
 refine dFa 0 ?_
 refine dLd 1 [] ?_
 refine dFa 2 ?_
 refine dLd 3 [] ?_
 refine dQ 4 [] rfl (Qe rfl Qog rfl (λw1 h1=>c191 w1 _ _)) (dFa 5 ?_)
 refine dLd 6 [] ?_
 refine dV 7 rfl (Qx rfl rfl Tryz.underlying26) (dFa 8 ?_)
 refine dLd 9 [] ?_
 refine dV 10 rfl (Qx rfl rfl Tryz.underlying26) (dV 11 rfl (QcD rfl rfl rfl ) (dP 12 ?_))
 refine dQ 13 [] rfl (Qe rfl ZY rfl (λw1 h1=>Qdx w1 _ _)) (dFa 14 ?_)
 refine dLd 15 [] ?_
 refine dP 16 ?_
 apply Xg 21
 ·exact rfl
 ·intro hg2
  have hs3:=hg2;skip
  refine dOf 17 21 hg2 ?_
  refine dOf 18 21 hg2 ?_
  refine dOf 19 21 hg2 ?_
  refine dOf 20 21 hg2 ?_
  refine dV 21 rfl (QZ rfl rfl hg2 rfl) (dQ 22 [] rfl (Qe rfl ZY rfl (λw1 h1=>Qdx w1 _ _)) (dH 23 rfl (Qc (cs:=[_,_,_]) rfl rfl Q6 Xx rfl rfl rfl) (λb4 _=>dBa ?_)))
  refine dQ 24 [] rfl (Qe rfl Qfg rfl (λw1 h1=>f99 h1 aPk (by rfl) (by rfl) (by decide))) (dP 25 ?_)
  refine dNi ?_
  refine aU2 ?_
  refine Qi (L':=[(1,_),(2,_),(3,_),(4,_)]) aSx (λ_ h=>h) ?_
  refine aU4 ?_
  refine sCd rfl (λh5=>?_) λh5=>?_
  ·have hp9:=Qbd d (mx:=if(d.au.length:Int)>d.en.length then(d.au.length:Int)else d.en.length) (b:=d.he||decide ((d.en.length:Int)=0)) (by split<;>omega) (by congr 1;exact decide_eq_decide.2 om)
   rw[show d.he=_ from hg2]at hp9
   have h0:¬QdA d=0:=by rw[<-hp9];exact h5
   have hse9:QF d=(0,QdA d):=by rw[Qdm,if_neg h0]
   refine aU6 ?_
   exact Qg (rs:=[.tmp 2,.tmp 3]) rfl (.tmp rfl (.tmp rfl (.nil))) (λw' h'=>⟨by rw[hse9,<-hp9];rfl,h'.below⟩)
  have hp9:=Qbd d (mx:=if(d.au.length:Int)>d.en.length then(d.au.length:Int)else d.en.length) (b:=d.he||decide ((d.en.length:Int)=0)) (by split<;>omega) (by congr 1;exact decide_eq_decide.2 om)
  rw[show d.he=_ from hg2]at hp9
  have h0:QdA d=0:=by rw[<-hp9];exact h5
  have hse9:QF d=QM (ZA d.en.length (d.en++d.au)) 0:=by rw[Qdm,if_pos h0]
  refine aU7 ?_
  refine o_h (Qc (cs:=[_,_]) rfl rfl Qee QjK rfl rfl rfl) rfl (λb6 _=>oCh rfl (λw1 h1=>cat2 w1 ea aa eac aac d.en d.au h1 aPk (hse.later h1) (hsa.later h1) hme hma) (λgl _=>aU ?_))
  refine oCq rfl (λw1 h1=>c192 w1 gl.1 gl.2 (d.en++d.au) 193 _ (ZA d.en.length (d.en++d.au)) (h1.rw_own av4 aPk rfl) (by simp;omega) Qlg (ZN _ _) (λk w2 hk _ h2=>by have h9:=c193 w2 b1 d.en.length k ea eac (nth (d.en++d.au) k) ((h1.rd_blk (i:=4) aPk rfl (by simp)).later h2 (by simp));rw[YQ hk];exact h9)) (aU5 ?_)
  exact Qg (rs:=[.tmp 2,.tmp 3]) rfl (.tmp rfl (.tmp rfl (.nil))) (λw' h'=>⟨by rw[hse9];rfl,h'.below⟩)
 intro hg7
 have hs8:=hg7;skip
 refine dFo 17 21 hg7 ?_
 refine dQo 18 21 [] hg7 rfl rfl rfl (XY rfl rfl Qf3 aPk rfl) ?_
 refine dVo 19 21 hg7 rfl rfl rfl (Qx rfl rfl Tryz.underlying26) ?_
 refine dPo 20 21 hg7 ?_
 refine dV 21 rfl (QN rfl rfl hg7 rfl) (dQ 22 [] rfl (Qe rfl ZY rfl (λw1 h1=>Qdx w1 _ _)) (dH 23 rfl (Qc (cs:=[_,_,_]) rfl rfl Q6 Xx rfl rfl rfl) (λb9 _=>dBa ?_)))
 refine dQ 24 [] rfl (Qe rfl Qfg rfl (λw1 h1=>f99 h1 aPk (by rfl) (by rfl) (by decide))) (dP 25 ?_)
 refine dNi ?_
 refine aU2 ?_
 refine Qi (L':=[(1,_),(2,_),(3,_),(4,_)]) aSx (λ_ h=>h) ?_
 refine aU4 ?_
 refine sCd rfl (λh10=>?_) λh10=>?_
 ·have hp9:=Qbd d (mx:=if(d.au.length:Int)>d.en.length then(d.au.length:Int)else d.en.length) (b:=d.he||decide ((d.en.length:Int)=0)) (by split<;>omega) (by congr 1;exact decide_eq_decide.2 om)
  rw[show d.he=_ from hg7]at hp9
  have h0:¬QdA d=0:=by rw[<-hp9];exact h10
  have hse9:QF d=(0,QdA d):=by rw[Qdm,if_neg h0]
  refine aU6 ?_
  exact Qg (rs:=[.tmp 2,.tmp 3]) rfl (.tmp rfl (.tmp rfl (.nil))) (λw' h'=>⟨by rw[hse9,<-hp9];rfl,h'.below⟩)
 have hp9:=Qbd d (mx:=if(d.au.length:Int)>d.en.length then(d.au.length:Int)else d.en.length) (b:=d.he||decide ((d.en.length:Int)=0)) (by split<;>omega) (by congr 1;exact decide_eq_decide.2 om)
 rw[show d.he=_ from hg7]at hp9
 have h0:QdA d=0:=by rw[<-hp9];exact h10
 have hse9:QF d=QM (ZA d.en.length (d.en++d.au)) 0:=by rw[Qdm,if_pos h0]
 refine aU7 ?_
 refine o_h (Qc (cs:=[_,_]) rfl rfl Qee QjK rfl rfl rfl) rfl (λb11 _=>oCh rfl (λw1 h1=>cat2 w1 ea aa eac aac d.en d.au h1 aPk (hse.later h1) (hsa.later h1) hme hma) (λgl _=>aU ?_))
 refine oCq rfl (λw1 h1=>c192 w1 gl.1 gl.2 (d.en++d.au) 193 _ (ZA d.en.length (d.en++d.au)) (h1.rw_own av4 aPk rfl) (by simp;omega) Qlg (ZN _ _) (λk w2 hk _ h2=>by have h9:=c193 w2 b1 d.en.length k ea eac (nth (d.en++d.au) k) ((h1.rd_blk (i:=4) aPk rfl (by simp)).later h2 (by simp));rw[YQ hk];exact h9)) (aU5 ?_)
 exact Qg (rs:=[.tmp 2,.tmp 3]) rfl (.tmp rfl (.tmp rfl (.nil))) (λw' h'=>⟨by rw[hse9];rfl,h'.below⟩)
theorem c82(w:World)(d:Dsc)(ea:Option Addr)(eac:Nat)(aa:Option Addr)(aac:Nat)(hse:Rw Ace.vals 4 w [] ea d.en)(hsa:Rw Ace.vals 4 w [] aa d.au)(hme:d.en.length<=100000)(hma:d.au.length<=100000):CR 82 #[.agg #[.int .i64 d.ow,.int .i64 d.gr,.bool d.pr,.bool d.he,.slice ea d.en.length eac,.slice aa d.au.length aac]] w (.int .i64 (QF d).2):=by
 refine eN1 Tryz.func82 Tryz.ntmps82 ?_
 refine aU2 ?_
 refine oBx λb1 _=>?_
 refine aU5 ?_
 refine oCq rfl (λw1 h1=>c137 w1 d ea eac aa aac (hse.later h1) (hsa.later h1) hme hma) (Y0 ?_)
 exact rV
theorem eachF_at{es:List Int}{k:Nat}(hk:k<es.length)(h:∀j,j<k->es.getD j 0=0)(h2:es.getD k 0≠0):QM es 0=((k:Int),es.getD k 0):=by
  have key:∀i,i<=k->QM es 0=QM (es.drop i) i:=by
    intro i
    induction i with
    | zero=>intro _;rfl
    | succ i ih=>
      intro hi;rw[ih om,Xh om,if_pos (h i om)]
  rw[key k (Nat.le_refl _),Xh hk,if_neg h2]
theorem eachF_all{es:List Int}(h:∀j,j<es.length->es.getD j 0=0):QM es 0=(0,0):=by
  have key:∀i,i<=es.length->QM es 0=QM (es.drop i) i:=by
    intro i
    induction i with
    | zero=>intro _;rfl
    | succ i ih=>
      intro hi;rw[ih om,Xh om,if_pos (h i om)]
  rw[key _ (Nat.le_refl _),List.drop_length];rfl
theorem Qk5{α:Type}[Inhabited α]{l m:List α}{k:Nat}(h:k<l.length):nth (l++m) k=nth l k:=by
  unfold nth;rw[List.getD_eq_getElem?_getD,List.getElem?_append_left h,<-List.getD_eq_getElem?_getD]
theorem Qi1{α:Type}[Inhabited α]{l m:List α}{k:Nat}(h:l.length<=k):nth (l++m) k=nth m (k-l.length):=by
  unfold nth;rw[List.getD_eq_getElem?_getD,List.getElem?_append_right h,<-List.getD_eq_getElem?_getD]
theorem c58(w:World)(d:Dsc)(ea:Option Addr)(eac:Nat)(aa:Option Addr)(aac:Nat)(hse:Rw Ace.vals 4 w [] ea d.en)(hsa:Rw Ace.vals 4 w [] aa d.au)(hme:d.en.length<=100000)(hma:d.au.length<=100000):CR 58 #[.agg #[.int .i64 d.ow,.int .i64 d.gr,.bool d.pr,.bool d.he,.slice ea d.en.length eac,.slice aa d.au.length aac]] w (.tuple #[.int .i64 (QF d).1,.int .i64 (QF d).2]):=by
 refine eN1 Tryz.func58 Tryz.ntmps58 ?_
 refine aU2 ?_
 refine oBx λb1 _=>?_
 refine YO ?_
 refine oCq rfl (λw1 h1=>c109 w1 _ _) (aU7 ?_)
 refine sCd rfl (λh2=>?_) λh2=>?_
 ·have h0:¬YD d.ow d.gr=0:=h2
  have h9:QF d=(0,YD d.ow d.gr):=by unfold QF;rw[if_neg h0]
  refine aU6 ?_
  exact Qg (rs:=[.tmp 2,.tmp 3]) rfl (.tmp rfl (.tmp rfl (.nil))) (λw' h'=>⟨by rw[h9];rfl,h'.below⟩)
 have h0:YD d.ow d.gr=0:=h2
 refine aU9 ?_
 refine oOr 5 21 26 rfl
  (λhg3 _=>by
   refine aU8 ?_
   exact oJf 5 26)
  (λhg5 _=>by
   refine aU4 ?_
   exact oJt 5 26) ?_
 refine aU ?_
 refine sCd rfl (λh7=>?_) λh7=>?_
 ·have h1:¬(d.en.length<=16/\d.au.length<=16):=by have hq:=h7;omega
  have h9:QF d=(0,8):=by unfold QF;rw[if_pos h0,if_neg h1]
  refine aU5 ?_
  exact Qg (rs:=[.tmp 2,.tmp 3]) rfl (.tmp rfl (.tmp rfl (.nil))) (λw' h'=>⟨by rw[h9];rfl,h'.below⟩)
 have h1:d.en.length<=16/\d.au.length<=16:=by have hq:=h7;omega
 refine aU9 ?_
 refine QJ 4 31 35 rfl
  (λhg8 _=>by
   refine aU6 ?_
   exact oJt 4 35)
  (λhg10 _=>by
   refine aU3 ?_
   exact oJf 4 35) ?_
 refine aU ?_
 refine sCd rfl (λh12=>?_) λh12=>?_
 ·have h2:¬(d.he||decide (d.en.length=0))=true:=by have hq:=h12;simp;exact⟨hq.2,by have:=hq.1;intro h;rw[h]at this;simp at this⟩
  have h9:QF d=(0,3):=by unfold QF;rw[if_pos h0,if_pos h1,if_neg h2]
  refine aU5 ?_
  exact Qg (rs:=[.tmp 2,.tmp 3]) rfl (.tmp rfl (.tmp rfl (.nil))) (λw' h'=>⟨by rw[h9];rfl,h'.below⟩)
 have h2:(d.he||decide (d.en.length=0))=true:=by have hq:=h12;rcases hq with hq|hq<;>simp at hq ⊢ <;>first|exact .inl hq|exact .inr om|exact .inr hq
 have h9:QF d=QM (ZA d.en.length (d.en++d.au)) 0:=by unfold QF;rw[if_pos h0,if_pos h1,if_pos h2]
 refine aU7 ?_
 refine Qi (L':=[(1,_),(2,_),(3,_),(5,_)]) aSx (λ_ h=>h) ?_
 refine Qp (α:=Nat) [2,3,5,6,7,8,36,37,38,39,40,41,42,43,44,45,46,47,48,49,50,51,52,53,54,55,56,57,58,59,60,61,62,63,64,65,66,67,68,69,70,71,72,73,74,75,76,77,78,79] (λk=>[(5,.int .i64 (k:Int))]) (λ_=>HS w [] [.blk b1 28 6 [.int .i64 d.ow,.int .i64 d.gr,.bool d.pr,.bool d.he,.slice ea d.en.length eac,.slice aa d.au.length aac]]) (λk=>k<=(d.en++d.au).length/\∀j,j<k->(ZA d.en.length (d.en++d.au)).getD j 0=0) (λk=>(d.en++d.au).length-k) 0 ⟨Nat.zero_le _,λj h=>absurd h (Nat.not_lt_zero j)⟩ aSx (λw h=>h.ent aEt) (λk hk1=>?_)
 obtain⟨hk1,hk2⟩:=hk1
 rw[List.length_append]at hk1
 refine aT11 ?_
 refine aU2 ?_
 refine sCd rfl (λh13=>?_) λh13=>?_
 ·have hk:k<(d.en++d.au).length:=by rw[List.length_append];omega
  refine Qg0 ?_
  refine o_p (Qs (cs:=[_,_,_,_]) rfl rfl QfN Xa rfl) rfl (oAl (λb14 _=>?_) Xa)
  refine aU7 ?_
  refine Qi (L':=[(1,_),(5,_),(6,_),(7,_),(53,_)]) aSx (λ_ h=>h) ?_
  refine Q7 (α:=Unit) [54,55,56,57,58,59,60,61,62,63,64,65,66,67] (λ_=>[]) (λ_=>HS w [] [.blk b14 119 4 (Ace.vals (nth (d.en++d.au) k)),.blk b1 28 6 [.int .i64 d.ow,.int .i64 d.gr,.bool d.pr,.bool d.he,.slice ea d.en.length eac,.slice aa d.au.length aac]]) (λ_=>True) ?_ ?_
  ·skip
   refine sCd rfl (λh15=>?_) λh15=>?_
   ·have ha4:d.en.length<=k:=by have hq:=h15;omega
    have hn4:nth (d.en++d.au) k=nth d.au (k-d.en.length):=Qi1 ha4
    refine aT8 ?_
    refine o_p (Qa rfl rfl rfl Xq (k-d.en.length) om om (Rw.some hsa om)) rfl (o_q (Qt _ rfl rfl QaF rfl (Rw.rd hsa (i:=k-d.en.length) om)) rfl (aU2 ?_))
    exact Qf () trivial aSx (λw h=>by rw[hn4];exact h.ent aEt)
   have ha4:k<d.en.length:=by have hq:=h15;omega
   have hn4:nth (d.en++d.au) k=nth d.en k:=Qk5 ha4
   refine aU4 ?_
   refine o_p (Qa rfl rfl rfl Xq (k) om om (Rw.some hse om)) rfl (o_q (Qt _ rfl rfl QaF rfl (Rw.rd hse (i:=k) om)) rfl (aU2 ?_))
   exact Qf () trivial aSx (λw h=>by rw[hn4];exact h.ent aEt)
  intro _ _
  refine aU4 ?_
  refine oCq rfl (λw1 h1=>c110 w1 _) (aU7 ?_)
  refine sCd rfl (λh16=>?_) λh16=>?_
  ·have ha5:¬Qbv (nth (d.en++d.au) k)=0:=h16
   have he5:=eachF_at (es:=(ZA d.en.length (d.en++d.au))) (by rw[ZN];exact hk) hk2 (by rw[YQ hk,Qar,if_neg ha5];exact ha5)
   rw[YQ hk,Qar,if_neg ha5]at he5
   refine aU7 ?_
   exact Qg (rs:=[.tmp 2,.tmp 3]) rfl (.tmp rfl (.tmp rfl (.nil))) (λw' h'=>⟨by rw[h9,he5];rfl,h'.below⟩)
  have ha5:Qbv (nth (d.en++d.au) k)=0:=h16
  refine aU7 ?_
  refine o_p (Qhx rfl rfl rfl Tryz.underlying4) rfl (aU ?_)
  refine sCd rfl (λh17=>?_) λh17=>?_
  ·have ha6:¬(decide ((nth (d.en++d.au) k).kd=2)=decide (d.en.length<=k)):=by have hq:=beq_eq_false_iff_ne.1 h17;intro h;exact hq (by rw[h];exact decide_eq_decide.2 om)
   have he5:=eachF_at (es:=(ZA d.en.length (d.en++d.au))) (by rw[ZN];exact hk) hk2 (by rw[YQ hk,Qar,if_pos ha5,if_neg ha6];decide)
   rw[YQ hk,Qar,if_pos ha5,if_neg ha6]at he5
   refine aU6 ?_
   exact Qg (rs:=[.tmp 2,.tmp 3]) rfl (.tmp rfl (.tmp rfl (.nil))) (λw' h'=>⟨by rw[h9,he5];rfl,h'.below⟩)
  have ha6:decide ((nth (d.en++d.au) k).kd=2)=decide (d.en.length<=k):=by have hq:=eq_of_beq h17;rw[hq];exact decide_eq_decide.2 om
  refine aT5 ?_
  refine aU2 ?_
  exact sBk (k+1) om ⟨om,λj hj=>(Nat.lt_or_ge j k).elim (hk2 j) (λh=>by obtain rfl:j=k:=om;rw[YQ hk,Qar,if_pos ha5,if_pos ha6])⟩
 obtain rfl:k=(d.en++d.au).length:=by rw[List.length_append];omega
 refine Qk rfl ?_
 refine aU5 ?_
 exact Qg (rs:=[.tmp 2,.tmp 3]) rfl (.tmp rfl (.tmp rfl (.nil))) (λw' h'=>⟨by rw[h9,eachF_all (by rw[ZN];exact hk2)];rfl,h'.below⟩)
theorem c14(w:World)(d:Dsc)(ea:Option Addr)(eac:Nat)(aa:Option Addr)(aac:Nat)(hse:Rw Ace.vals 4 w [] ea d.en)(hsa:Rw Ace.vals 4 w [] aa d.au)(hme:d.en.length<=100000)(hma:d.au.length<=100000):CR 14 #[.agg #[.int .i64 d.ow,.int .i64 d.gr,.bool d.pr,.bool d.he,.slice ea d.en.length eac,.slice aa d.au.length aac]] w (.int .i64 (QF d).2):=by
 refine eN1 Tryz.func14 Tryz.ntmps14 ?_
 refine aU2 ?_
 refine oBx λb1 _=>?_
 refine aU5 ?_
 refine oCq rfl (λw1 h1=>c58 w1 d ea eac aa aac (hse.later h1) (hsa.later h1) hme hma) (Y0 ?_)
 exact rV
end Go.Proofs
