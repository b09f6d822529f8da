/- Contracts of the program's functions, proved by walking them with the rules of the Gx texts; without conditions beyond those that each contract names. -/
import Derived.WalkKit
import Derived.Deep.Draws
import Derived.TacticsIn
import Derived.OrdersIn
import Derived.RangeFuncLeaves
import Derived.Lib.Strings
import Derived.Laws.BytesArg
import Derived.Laws.IdiomStrings
import Derived.Deep.Quiet
import Derived.ProofKit
import Derived.OpenShut
import Derived.Laws.StructEq
import Derived.ChangeKeysEq
import Derived.Laws.Externs
import Derived.Lib.Overlaps
import Derived.Carry
import Derived.Laws.Small
import Derived.Lib.Bytealg
import Derived.Lib.Builder
import Derived.Laws.Pointers
import Derived.RangeFuncRecord
import Derived.Test.YtpkhkcchibbhmaaGreatDoorProg
import Derived.KernelRfl
import Derived.Test.YtpkhkcchibbhmaaGreatDoorTie
import Derived.Test.YtpkhkcchibbhmaaGreatDoorCards
import Derived.SevenTiedAt
import Derived.LaidMore
import Derived.Lay
import Derived.Stop.Joined
import Derived.Test.YtpkhkcchibbhmaaGreatDoorP4
set_option linter.unusedSimpArgs false
set_option maxHeartbeats 1000000
set_option linter.unusedVariables false
set_option linter.unusedSectionVars false
set_option linter.unnecessarySimpa false
namespace Gx
def ltc(c:Nat->Nat->Int)(i j:Nat):Prop:=c i j<0\/(c i j=0/\i<j)
structure OrdC(c:Nat->Nat->Int)(N:Nat):Prop where
 tr:∀i j k,i<N->j<N->k<N->ltc c i j->ltc c j k->ltc c i k
 tot:∀i j,i<N->j<N->i≠j->ltc c i j\/ltc c j i
section
variable{c:Nat->Nat->Int}{N:Nat}
theorem OrdC.not(h:OrdC c N){l r:Nat}(hr:r<N)(hlr:l<r)(hn:¬c r l<0):ltc c l r:=by
 rcases h.tot l r om hr om with h1|h1
 ·exact h1
 ·rcases h1 with h1|h1
  ·exact absurd h1 hn
  ·omega
abbrev Z5(c:Nat->Nat->Int)(L:List Nat):Prop:=L.Pairwise (ltc c)
theorem Qnf(hO:OrdC c N){x:Nat}(hx:x<N)(S A:List Nat):∀(k:Nat)(P1 P2:List Nat),P1.length=k->Z5 c (P1++P2)->(∀p∈P2,ltc c x p)->(∀p∈P1,p<x) ->
  ∃X,bub c A.length (A.length+k) (A++(P1++x::(P2++S)))=A++(X++S)/\X.Perm (P1++x::P2)/\Z5 c X
 | 0,P1,P2,hk,hs,h2,h1=>by
  obtain rfl:=List.eq_nil_of_length_eq_zero hk;refine⟨x::P2,by rw[Nat.add_zero,Qj6];simp,.refl _,List.pairwise_cons.2 ⟨h2,hs⟩⟩
 | k+1,P1,P2,hk,hs,h2,h1=>by
  obtain⟨P,z,rfl⟩:∃P z,P1=P++[z]:=by
   rcases List.eq_nil_or_concat P1 with rfl|⟨P,z,rfl⟩
   ·cases hk
   ·exact⟨P,z,by simp⟩
  have hl:P.length=k:=by simpa using hk
  have hz:z<x:=h1 z (by simp);have hsp:=List.pairwise_append.1 hs;have e:A++(P++[z]++x::(P2++S))=(A++P)++z::x::(P2++S):=by simp
  have hlen:(A++P).length=A.length+k:=by simp[hl]
  have g1:(A++(P++[z]++x::(P2++S))).getD (A.length+k) 0=z:=by rw[e];exact Qfp hlen.symm
  have g2:(A++(P++[z]++x::(P2++S))).getD (A.length+k+1) 0=x:=by
   rw[show A++(P++[z]++x::(P2++S))=(A++P++[z])++x::(P2++S) by simp];exact Qfp (by simp[hl];omega)
  rw[show A.length+(k+1)=A.length+k+1 by omega,bub,g1,g2]
  by_cases hc:c x z<0
  ·rw[if_pos ⟨om,hc⟩,e,<-hlen,Qj8,hlen]
   obtain⟨X,e1,e2,e3⟩:=Qnf hO hx S A k P (z::P2) hl (by simpa using hs) (λp hp=>by
    rcases List.mem_cons.1 hp with rfl|hp
    ·exact .inl hc
    ·exact h2 p hp) (λp hp=>h1 p (by simp[hp]))
   refine⟨X,?_,e2.trans ?_,e3⟩
   ·rw[<-e1];simp
   ·rw[List.append_assoc];exact List.Perm.append_left P (List.Perm.swap ..)
  ·rw[if_neg λh=>hc h.2];have hzx:ltc c z x:=hO.not hx hz hc;refine⟨P++[z]++x::P2,by simp,.refl _,List.pairwise_append.2 ⟨hsp.1,List.pairwise_cons.2 ⟨h2,hsp.2.1⟩,λp hp q hq=>?_⟩⟩
   have hpx:ltc c p x:=by
    rcases List.mem_append.1 hp with hp'|hp'
    ·have h3:=(List.pairwise_append.1 hsp.1).2.2 p hp' z (List.mem_singleton.2 rfl);have:=h1 p (List.mem_append_left _ hp');exact hO.tr p z x om om hx h3 hzx
    ·obtain rfl:=List.mem_singleton.1 hp';exact hzx
   rcases List.mem_cons.1 hq with rfl|hq
   ·exact hpx
   ·exact hsp.2.2 p hp q hq
theorem Qka(hO:OrdC c N)(S A:List Nat):∀(Q P:List Nat),Z5 c P->(∀p∈P,∀q∈Q,p<q)->Q.Pairwise (· < ·)->(∀q∈Q,q<N) ->
  ∃X,insS c A.length Q.length (A.length+P.length) (A++(P++(Q++S)))=A++(X++S)/\X.Perm (P++Q)/\Z5 c X
 | [],P,hs,_,_,_=>⟨P,rfl,by simp,hs⟩
 | x::Q,P,hs,hpq,hq,hN=>by
  rw[List.length_cons,insS];obtain⟨X,e1,e2,e3⟩:=Qnf hO (hN x (List.mem_cons_self ..)) (Q++S) A P.length P [] rfl (by simpa using hs) (λp hp=>by cases hp) (λp hp=>hpq p hp x (List.mem_cons_self ..));have hq':=List.pairwise_cons.1 hq;rw[List.nil_append]at e1;rw[List.cons_append,e1];have hl:X.length=P.length+1:=by rw[e2.length_eq];simp
  obtain⟨Y,f1,f2,f3⟩:=Qka hO S A Q X e3 (λp hp q hqq=>by
   have hp':=e2.subset hp;rcases List.mem_append.1 hp' with h|h
   ·exact hpq p h q (List.mem_cons_of_mem _ hqq)
   ·obtain rfl:=List.mem_singleton.1 h;exact hq'.1 q hqq) hq'.2 (λq h=>hN q (List.mem_cons_of_mem _ h))
  rw[hl,show A.length+(P.length+1)=A.length+P.length+1 by omega]at f1;refine⟨Y,f1,f2.trans ?_,f3⟩;have:=List.Perm.append_right Q e2
  simpa using this
theorem QrN(hO:OrdC c N)(S A L:List Nat)(hq:L.Pairwise (· < ·))(hN:∀q∈L,q<N):∃X,ins c A.length (A.length+L.length) (A++(L++S))=A++(X++S)/\X.Perm L/\Z5 c X:=by
 unfold ins;cases L with
 | nil=>exact⟨[],by simp[insS],.refl _,.nil⟩
 | cons x L=>
  have h:=List.pairwise_cons.1 hq;obtain⟨X,e1,e2,e3⟩:=Qka hO S A L [x] (List.pairwise_singleton ..) (λp hp9 q hq9=>by rw[List.mem_singleton.1 hp9];exact h.1 q hq9) h.2 (λq hq=>hN q (List.mem_cons_of_mem _ hq));refine⟨X,?_,e2,e3⟩;rw[show A.length+(x::L).length-(A.length+1)=L.length by simp;omega];exact e1
theorem Qed(A B:List Nat)(k:Nat):(A++B).getD (A.length+k) 0=B.getD k 0:=by
 simp[List.getD_eq_getElem?_getD,List.getElem?_append_right]
theorem Y7{L:List Nat}{k:Nat}(h:k<L.length):L.getD k 0∈L:=by
 rw[List.getD_eq_getElem?_getD,List.getElem?_eq_getElem h];exact List.getElem_mem h
theorem QbD{A B:List Nat}{k:Nat}(h:k<A.length):(A++B).getD k 0=A.getD k 0:=by
 simp[List.getD_eq_getElem?_getD,List.getElem?_append_left h]
theorem Qgm{P:List Nat}{x:Nat}(hO:OrdC c N)(hs:Z5 c P)(hN:∀p∈P,p<N)(hx:x<N)(h:P=[]\/ltc c (P.getD (P.length-1) 0) x):∀p∈P,ltc c p x:=by
 rcases List.eq_nil_or_concat P with rfl|⟨Q,z,rfl⟩
 ·intro p hp;cases hp
 ·rcases h with h|h
  ·simp at h
  ·have e:(Q.concat z).getD ((Q.concat z).length-1) 0=z:=by simp[List.getD_eq_getElem?_getD]
   rw[e]at h;rw[List.concat_eq_append]at hs hN ⊢;have h1:=(List.pairwise_append.1 hs).2.2;intro p hp;rcases List.mem_append.1 hp with hp'|hp'
   ·exact hO.tr p z x (hN p hp) (hN z (by simp)) hx (h1 p hp' z (by simp)) h
   ·obtain rfl:=List.mem_singleton.1 hp';exact h
theorem Qew{R:List Nat}{x:Nat}(hO:OrdC c N)(hs:Z5 c R)(hN:∀p∈R,p<N)(hx:x<N)(h:R=[]\/ltc c x (R.getD 0 0)):∀p∈R,ltc c x p:=by
 cases R with
 | nil=>intro p hp;cases hp
 | cons z R=>
  rcases h with h|h
  ·cases h
  ·have h2:ltc c x z:=by simpa using h
   intro p hp;rcases List.mem_cons.1 hp with rfl|hp'
   ·exact h2
   ·exact hO.tr x z p hx (hN z (by simp)) (hN p hp) h2 ((List.pairwise_cons.1 hs).1 p hp')
theorem QhB{P R:List Nat}(hO:OrdC c N)(hsP:Z5 c P)(hsR:Z5 c R)(hP:∀p∈P,p<N)(hR:∀p∈R,p<N)(h:P=[]\/R=[]\/ltc c (P.getD (P.length-1) 0) (R.getD 0 0)):∀p∈P,∀r∈R,ltc c p r:=by
 rcases h with rfl|rfl|h
 ·intro p hp;cases hp
 ·intro p _ r hr;cases hr
 ·intro p hp r hr;have hP0:0<P.length:=List.length_pos_of_mem hp;have hl:=hP _ (Y7 (L:=P) (k:=P.length-1) om);exact Qgm hO hsP hP (hR r hr) (.inr (Qew hO hsR hR hl (.inr h) r hr)) p hp
theorem Ze{L:List Nat}(h:Z5 c L)(k:Nat):Z5 c (L.take k):=h.sublist (List.take_sublist ..)
theorem Zf{L:List Nat}(h:Z5 c L)(k:Nat):Z5 c (L.drop k):=h.sublist (List.drop_sublist ..)
theorem Qc9(L:List Nat)(k i:Nat):(L.drop k).getD i 0=L.getD (k+i) 0:=by simp[List.getD_eq_getElem?_getD,List.getElem?_drop]
theorem Qc7{L:List Nat}{k i:Nat}(h:i<k):(L.take k).getD i 0=L.getD i 0:=by simp[List.getD_eq_getElem?_getD,List.getElem?_take,h]
theorem QgY(hO:OrdC c N):∀(f:Nat)(A L R B:List Nat),L.length+R.length<=f->0<L.length->0<R.length->Z5 c L->Z5 c R->(∀l∈L,∀r∈R,l<r)->(∀r∈R,r<N) ->
  ∃X,symM c f A.length (A.length+L.length) (A.length+L.length+R.length) (A++(L++(R++B)))=A++(X++B)/\X.Perm (L++R)/\Z5 c X
 | 0,_,_,_,_,hf,h1,_,_,_,_,_=>by omega
 | f+1,A,L,R,B,hf,h1,h2,hL,hR,hlr,hN=>by
  have hNL:∀l∈L,l<N:=λl hl=>by
   have:=hlr l hl _ (Y7 h2);have:=hN _ (Y7 h2);omega
  unfold symM
  by_cases c1:A.length+L.length-A.length=1
  ·rw[if_pos c1]
   obtain⟨x,rfl⟩:∃x,L=[x]:=by
    rcases L with _|⟨x,_|⟨y,L⟩⟩
    ·cases h1
    ·exact⟨x,rfl⟩
    ·simp at c1
   have hx:=hNL x (by simp);have ha:(A++([x]++(R++B))).getD A.length 0=x:=by simp[List.getD_eq_getElem?_getD]
   have hp:∀k,p1 c (A++([x]++(R++B))) A.length (A.length+1+k)=decide (c ((R++B).getD k 0) x<0):=λk=>by
    unfold p1;rw[ha,show A.length+1+k=(A++[x]).length+k by simp,show A++([x]++(R++B))=(A++[x])++(R++B) by simp,Qed]
   obtain⟨s1,s2,s3,s4⟩:=Qd1 (p:=p1 c (A++([x]++(R++B))) A.length) (f:=A.length+[x].length+R.length-(A.length+[x].length)) (i:=A.length+[x].length) (j:=A.length+[x].length+R.length) om om;generalize Zh (p1 c (A++([x]++(R++B))) A.length) (A.length+[x].length+R.length-(A.length+[x].length)) (A.length+[x].length) (A.length+[x].length+R.length)=i at *;rw[List.length_singleton]at *;obtain⟨k,rfl⟩:∃k,i=A.length+1+k:=⟨i-(A.length+1),om⟩;have hk:k<=R.length:=om
   have q1:∀p∈R.take k,ltc c p x:=Qgm hO (Ze hR k) (λp hp=>hN p (List.mem_of_mem_take hp)) hx (by
    rcases s3 with s3|s3
    ·left;rw[show k=0 by omega];rfl
    ·rcases Nat.eq_zero_or_pos k with h0|h0
     ·left;rw[h0];rfl
     ·right;rw[show A.length+1+k-1=A.length+1+(k-1) by omega,hp,QbD om]at s3;rw[List.length_take,show min k R.length-1=k-1 by omega,Qc7 om];exact .inl (by simpa using s3))
   have q2:∀p∈R.drop k,ltc c x p:=Qew hO (Zf hR k) (λp hp=>hN p (List.mem_of_mem_drop hp)) hx (by
    rcases s4 with s4|s4
    ·left;exact List.drop_eq_nil_of_le om
    ·rcases Nat.lt_or_ge k R.length with h0|h0
     ·right;rw[hp,QbD h0]at s4;rw[Qc9];exact hO.not (hN _ (Y7 h0)) (hlr x (by simp) _ (Y7 h0)) (by simpa using s4)
     ·left;exact List.drop_eq_nil_of_le h0)
   refine⟨R.take k++x::R.drop k,?_,?_,List.pairwise_append.2 ⟨Ze hR k,List.pairwise_cons.2 ⟨q2,Zf hR k⟩,λp hp9 q hq9=>?_⟩⟩
   ·have h:=QlH x (R.drop k++B) (R.take k) A;rw[List.length_take,Nat.min_eq_left hk]at h;rw[show A.length+1+k-1-A.length=k by omega,show A++([x]++(R++B))=A++x::(R.take k++(R.drop k++B)) by rw[<-List.append_assoc (R.take k),List.take_append_drop];rfl,h];simp
   ·refine List.perm_middle.trans ?_;rw[List.take_append_drop];exact .refl _
   ·rcases List.mem_cons.1 hq9 with e9|hq8
    ·rw[e9];exact q1 p hp9
    ·have h:=hR;rw[<-List.take_append_drop k R]at h;exact(List.pairwise_append.1 h).2.2 p hp9 q hq8
  ·rw[if_neg c1]
   by_cases c2:A.length+L.length+R.length-(A.length+L.length)=1
   ·rw[if_pos c2]
    obtain⟨y,rfl⟩:∃y,R=[y]:=by
     rcases R with _|⟨x,_|⟨y,R⟩⟩
     ·cases h2
     ·exact⟨x,rfl⟩
     ·simp at c2
    have hy:=hN y (by simp);have ha:(A++(L++([y]++B))).getD (A.length+L.length) 0=y:=by rw[show A++(L++([y]++B))=(A++L)++y::B by simp];exact Qfp (by simp)
    have hp:∀k,k<L.length->p2 c (A++(L++([y]++B))) (A.length+L.length) (A.length+k)= !decide (c y (L.getD k 0)<0):=λk hk=>by
     unfold p2;rw[ha,Qed,QbD hk]
    obtain⟨s1,s2,s3,s4⟩:=Qd1 (p:=p2 c (A++(L++([y]++B))) (A.length+L.length)) (f:=A.length+L.length-A.length) (i:=A.length) (j:=A.length+L.length) om om;generalize Zh (p2 c (A++(L++([y]++B))) (A.length+L.length)) (A.length+L.length-A.length) A.length (A.length+L.length)=i at *;obtain⟨k,rfl⟩:∃k,i=A.length+k:=⟨i-A.length,om⟩;have hk:k<=L.length:=om
    have q1:∀p∈L.take k,ltc c p y:=Qgm hO (Ze hL k) (λp hp=>hNL p (List.mem_of_mem_take hp)) hy (by
     rcases s3 with s3|s3
     ·left;rw[show k=0 by omega];rfl
     ·rcases Nat.eq_zero_or_pos k with h0|h0
      ·left;rw[h0];rfl
      ·right;rw[show A.length+k-1=A.length+(k-1) by omega,hp _ om]at s3;rw[List.length_take,show min k L.length-1=k-1 by omega,Qc7 om];have hm:L.getD (k-1) 0∈L:=Y7 om;exact hO.not hy (hlr _ hm y (by simp)) (by simpa using s3))
    have q2:∀p∈L.drop k,ltc c y p:=Qew hO (Zf hL k) (λp hp=>hNL p (List.mem_of_mem_drop hp)) hy (by
     rcases s4 with s4|s4
     ·left;exact List.drop_eq_nil_of_le om
     ·rcases Nat.lt_or_ge k L.length with h0|h0
      ·right;rw[hp _ h0]at s4;rw[Qc9];exact .inl (by simpa using s4)
      ·left;exact List.drop_eq_nil_of_le h0)
    refine⟨L.take k++y::L.drop k,?_,?_,List.pairwise_append.2 ⟨Ze hL k,List.pairwise_cons.2 ⟨q2,Zf hL k⟩,λp hp9 q hq9=>?_⟩⟩
    ·have h:=Ql1 y B (L.length-k) (A++L.take k) (L.drop k) (by rw[List.length_drop]);rw[show A.length+L.length-(A.length+k)=L.length-k by omega];rw[show(A++L.take k).length+(L.length-k)=A.length+L.length by rw[List.length_append,List.length_take];omega]at h;rw[show A++(L++([y]++B))=A++L.take k++(L.drop k++y::B) by rw[List.append_assoc,<-List.append_assoc (L.take k),List.take_append_drop];rfl,h];simp
    ·have h:=List.perm_middle (a:=y) (l₁:=L.take k) (l₂:=L.drop k);rw[List.take_append_drop]at h;exact h.trans (List.perm_append_comm (l₁:=[y]))
    ·rcases List.mem_cons.1 hq9 with e9|hq8
     ·rw[e9];exact q1 p hp9
     ·have h:=hL;rw[<-List.take_append_drop k L]at h;exact(List.pairwise_append.1 h).2.2 p hp9 q hq8
   ·rw[if_neg c2];generalize hmid:(A.length+(A.length+L.length+R.length))/2=mid;have ha:∀k,k<L.length->(A++(L++(R++B))).getD (A.length+k) 0=L.getD k 0:=λk hk=>by rw[Qed,QbD hk]
    have hb:∀k,k<R.length->(A++(L++(R++B))).getD (A.length+L.length+k) 0=R.getD k 0:=λk hk=>by
     rw[show A++(L++(R++B))=(A++L)++(R++B) by simp,show A.length+L.length+k=(A++L).length+k by simp,Qed,QbD hk]
    have hs:Qay c (A++(L++(R++B))) A.length (A.length+L.length) (A.length+L.length+R.length)=Zh (p3 c (A++(L++(R++B))) (mid+(A.length+L.length)-1)) (A.length+L.length+R.length-A.length) (if mid<A.length+L.length then mid+(A.length+L.length)-(A.length+L.length+R.length)else A.length) (if mid<A.length+L.length then mid else A.length+L.length):=by
     unfold Qay;rw[hmid]
    rw[hs];generalize hs0:(if mid<A.length+L.length then mid+(A.length+L.length)-(A.length+L.length+R.length)else A.length)=s0;generalize hr0:(if mid<A.length+L.length then mid else A.length+L.length)=r0
    have b0:(mid<A.length+L.length/\s0=mid+(A.length+L.length)-(A.length+L.length+R.length)/\r0=mid)\/(¬mid<A.length+L.length/\s0=A.length/\r0=A.length+L.length):=by
     by_cases h:mid<A.length+L.length
     ·rw[if_pos h]at hs0 hr0;exact .inl ⟨h,hs0.symm,hr0.symm⟩
     ·rw[if_neg h]at hs0 hr0;exact .inr ⟨h,hs0.symm,hr0.symm⟩
    obtain⟨s1,s2,s3,s4⟩:=Qd1 (p:=p3 c (A++(L++(R++B))) (mid+(A.length+L.length)-1)) (f:=A.length+L.length+R.length-A.length) (i:=s0) (j:=r0) om om;generalize Zh (p3 c (A++(L++(R++B))) (mid+(A.length+L.length)-1)) (A.length+L.length+R.length-A.length) s0 r0=st at *;obtain⟨k,rfl⟩:∃k,st=A.length+k:=⟨st-A.length,om⟩;have hk:k<=L.length:=om
    obtain⟨j,hj⟩:∃j,mid+(A.length+L.length)-(A.length+k)=A.length+L.length+j:=⟨mid-(A.length+k),om⟩;have hjR:j<=R.length:=om
    have hjk:mid=A.length+k+j:=om
    rw[hj]
    have x1:∀p∈L.take k,∀r∈R.drop j,ltc c p r:=QhB hO (Ze hL k) (Zf hR j) (λp hp=>hNL p (List.mem_of_mem_take hp)) (λp hp=>hN p (List.mem_of_mem_drop hp)) (by
     rcases Nat.eq_zero_or_pos k with h0|h0
     ·left;rw[h0];rfl
     ·right;rcases Nat.lt_or_ge j R.length with h9|h9
      ·right
       have h8:p3 c (A++(L++(R++B))) (mid+(A.length+L.length)-1) (A.length+k-1)=true:=by
        rcases s3 with s3|s3
        ·omega
        ·exact s3
       unfold p3 at h8;rw[show mid+(A.length+L.length)-1-(A.length+k-1)=A.length+L.length+j by omega,show A.length+k-1=A.length+(k-1) by omega,hb _ h9,ha _ om]at h8;rw[List.length_take,show min k L.length-1=k-1 by omega,Qc7 om,Qc9,Nat.add_zero];exact hO.not (hN _ (Y7 h9)) (hlr _ (Y7 om) _ (Y7 h9)) (by simpa using h8)
      ·left;exact List.drop_eq_nil_of_le h9)
    have x2:∀p∈R.take j,∀r∈L.drop k,ltc c p r:=QhB hO (Ze hR j) (Zf hL k) (λp hp=>hN p (List.mem_of_mem_take hp)) (λp hp=>hNL p (List.mem_of_mem_drop hp)) (by
     rcases Nat.eq_zero_or_pos j with h0|h0
     ·left;rw[h0];rfl
     ·right;rcases Nat.lt_or_ge k L.length with h9|h9
      ·right
       have h8:p3 c (A++(L++(R++B))) (mid+(A.length+L.length)-1) (A.length+k)=false:=by
        rcases s4 with s4|s4
        ·omega
        ·exact s4
       unfold p3 at h8;rw[show mid+(A.length+L.length)-1-(A.length+k)=A.length+L.length+(j-1) by omega,hb _ om,ha _ h9]at h8;rw[List.length_take,show min j R.length-1=j-1 by omega,Qc7 om,Qc9,Nat.add_zero];exact .inl (by simpa using h8)
      ·left;exact List.drop_eq_nil_of_le h9)
    have hL1:(L.take k).length=k:=by rw[List.length_take];omega
    have hL2:(L.drop k).length=L.length-k:=List.length_drop;have hR1:(R.take j).length=j:=by rw[List.length_take];omega
    have hR2:(R.drop j).length=R.length-j:=List.length_drop
    have eI:A++(L++(R++B))=(A++L.take k)++(L.drop k++(R.take j++(R.drop j++B))):=by
     rw[<-List.append_assoc (R.take j),List.take_append_drop,List.append_assoc,<-List.append_assoc (L.take k),List.take_append_drop]
    have eJ:(if A.length+k<A.length+L.length/\A.length+L.length<A.length+L.length+j then rot (A.length+k) (A.length+L.length) (A.length+L.length+j) (A++(L++(R++B)))else A++(L++(R++B)))=A++(L.take k++(R.take j++(L.drop k++(R.drop j++B)))):=by
     by_cases hr:A.length+k<A.length+L.length/\A.length+L.length<A.length+L.length+j
     ·rw[if_pos hr,eI];have h:=QsJ (A++L.take k) (L.drop k) (R.take j) (R.drop j++B) om om;rw[List.length_append,hL1,hL2,hR1,show A.length+k+(L.length-k)=A.length+L.length by omega]at h;rw[h];simp
     ·rw[if_neg hr,eI];rcases Nat.lt_or_ge k L.length with h9|h9
      ·have h0:j=0:=by omega
       rw[h0];simp
      ·rw[List.drop_eq_nil_of_le h9];simp
    rw[eJ]
    have hsplit:=λ(l:List Nat)(k:Nat)(h:Z5 c l)=>by
     have h':=h;rw[<-List.take_append_drop k l]at h';exact(List.pairwise_append.1 h').2.2
    obtain⟨X1,u1,u2,u3⟩:∃X1,(if A.length<A.length+k/\A.length+k<mid then symM c f A.length (A.length+k) mid (A++(L.take k++(R.take j++(L.drop k++(R.drop j++B)))))else A++(L.take k++(R.take j++(L.drop k++(R.drop j++B)))))=A++(X1++(L.drop k++(R.drop j++B)))/\X1.Perm (L.take k++R.take j)/\Z5 c X1:=by
     by_cases hr:A.length<A.length+k/\A.length+k<mid
     ·rw[if_pos hr];have h:=QgY hO f A (L.take k) (R.take j) (L.drop k++(R.drop j++B)) om om om (Ze hL k) (Ze hR j) (λl hl r hr=>hlr l (List.mem_of_mem_take hl) r (List.mem_of_mem_take hr)) (λr hr=>hN r (List.mem_of_mem_take hr));rw[hL1,hR1,<-hjk]at h;exact h
     ·rw[if_neg hr];refine⟨L.take k++R.take j,by simp,.refl _,?_⟩;rcases Nat.eq_zero_or_pos k with h0|h0
      ·rw[h0];simpa using Ze hR j
      ·have h0:j=0:=by omega
       rw[h0];simpa using Ze hL k
    obtain⟨X2,v1,v2,v3⟩:∃X2,(if mid<A.length+L.length+j/\A.length+L.length+j<A.length+L.length+R.length then symM c f mid (A.length+L.length+j) (A.length+L.length+R.length) (A++(X1++(L.drop k++(R.drop j++B))))else A++(X1++(L.drop k++(R.drop j++B))))=A++(X1++(X2++B))/\X2.Perm (L.drop k++R.drop j)/\Z5 c X2:=by
     have hX1:X1.length=k+j:=by rw[u2.length_eq,List.length_append,hL1,hR1]
     by_cases hr:mid<A.length+L.length+j/\A.length+L.length+j<A.length+L.length+R.length
     ·rw[if_pos hr];obtain⟨X2,w1,w2,w3⟩:=QgY hO f (A++X1) (L.drop k) (R.drop j) B om om om (Zf hL k) (Zf hR j) (λl hl r hr=>hlr l (List.mem_of_mem_drop hl) r (List.mem_of_mem_drop hr)) (λr hr=>hN r (List.mem_of_mem_drop hr));rw[List.length_append,hX1,hL2,hR2,show A.length+(k+j)=mid by omega,show mid+(L.length-k)=A.length+L.length+j by omega,show A.length+L.length+j+(R.length-j)=A.length+L.length+R.length by omega]at w1;exact⟨X2,by rw[<-List.append_assoc A X1,w1,List.append_assoc],w2,w3⟩
     ·rw[if_neg hr];refine⟨L.drop k++R.drop j,by simp,.refl _,?_⟩;rcases Nat.lt_or_ge k L.length with h0|h0
      ·rw[List.drop_eq_nil_of_le (show R.length<=j by omega),List.append_nil];exact Zf hL k
      ·rw[List.drop_eq_nil_of_le h0];exact Zf hR j
    unfold symR;rw[u1,v1];refine⟨X1++X2,by simp,?_,List.pairwise_append.2 ⟨u3,v3,λp hp q hq=>?_⟩⟩
    ·refine(List.Perm.append u2 v2).trans ?_
     have h1:(L.take k++R.take j++(L.drop k++R.drop j)).Perm (L.take k++L.drop k++(R.take j++R.drop j)):=by
      rw[List.append_assoc,List.append_assoc];refine List.Perm.append_left _ ?_;rw[<-List.append_assoc,<-List.append_assoc];exact List.Perm.append_right _ List.perm_append_comm
     rwa[List.take_append_drop,List.take_append_drop]at h1
    ·rcases List.mem_append.1 (u2.subset hp)with hp|hp<;>rcases List.mem_append.1 (v2.subset hq)with hq|hq
     ·exact hsplit L k hL p hp q hq
     ·exact x1 p hp q hq
     ·exact x2 p hp q hq
     ·exact hsplit R j hR p hp q hq
end
def seg(I:List Nat)(x y:Nat):List Nat:=(I.drop x).take (y-x)
def Qce(c:Nat->Nat->Int)(I:List Nat)(x y:Nat):Prop:=(seg I x y).Perm (List.range' x (y-x))/\Z5 c (seg I x y)
theorem Qfl{I:List Nat}{x y:Nat}(h:x<=y)(hy:y<=I.length):I=I.take x++(seg I x y++I.drop y):=by
 unfold seg;have h1:I.drop y=(I.drop x).drop (y-x):=by rw[List.drop_drop];congr 1;omega
 rw[h1,List.take_append_drop,List.take_append_drop]
theorem QdO{I:List Nat}{x y:Nat}(hy:y<=I.length):(seg I x y).length=y-x:=by
 unfold seg;rw[List.length_take,List.length_drop];omega
theorem QvC{A X B:List Nat}{x y:Nat}(hA:A.length=x)(hX:X.length=y-x):seg (A++(X++B)) x y=X:=by
 subst hA;unfold seg;rw[List.drop_left,<-hX,List.take_left]
theorem Qi8{A C:List Nat}{u v:Nat}(h:v<=A.length):seg (A++C) u v=seg A u v:=by
 rcases Nat.lt_or_ge v u with h9|h9
 ·unfold seg;rw[show v-u=0 by omega];rfl
 unfold seg;rw[List.drop_append_of_le_length om,List.take_append_of_le_length (by rw[List.length_drop];omega)]
theorem Qhi{A X B:List Nat}{u v:Nat}(h:A.length+X.length<=u):seg (A++(X++B)) u v=seg B (u-(A.length+X.length)) (v-(A.length+X.length)):=by
 unfold seg;rw[<-List.append_assoc,show u=(A++X).length+(u-(A.length+X.length)) by rw[List.length_append];omega,<-List.drop_drop,List.drop_left];congr 1
 ·rw[List.length_append];omega
 ·congr 1;rw[List.length_append];omega
theorem Qot(a k m:Nat):(List.range' a m).take k=List.range' a (min k m):=by
 rcases Nat.lt_or_ge k m with h|h
 ·have h9:=List.range'_append (s:=a) (m:=k) (n:=m-k) (step:=1);rw[show k+(m-k)=m by omega]at h9;rw[<-h9,List.take_left' (by simp),Nat.min_eq_left om]
 ·rw[List.take_of_length_le (by rw[List.length_range'];exact h),Nat.min_eq_right h]
theorem Qra(a k m:Nat):(List.range' a m).drop k=List.range' (a+k) (m-k):=by
 rcases Nat.lt_or_ge k m with h|h
 ·have h9:=List.range'_append (s:=a) (m:=k) (n:=m-k) (step:=1);rw[show k+(m-k)=m by omega,Nat.one_mul]at h9;rw[<-h9,List.drop_left' (by simp)]
 ·rw[List.drop_eq_nil_of_le (by rw[List.length_range'];exact h),show m-k=0 by omega];rfl
structure Upd(c:Nat->Nat->Int)(x y:Nat)(I J:List Nat):Prop where
 len:J.length=I.length
 own:Qce c J x y
 left:∀u v,v<=x->seg J u v=seg I u v
 right:∀u v,y<=u->seg J u v=seg I u v
section
variable{c:Nat->Nat->Int}{N n:Nat}
theorem QoO{I X:List Nat}{x y:Nat}(h:x<=y)(hy:y<=I.length)(hl:X.Perm (List.range' x (y-x)))(hs:Z5 c X):Upd c x y I (I.take x++(X++I.drop y)):=by
 have hX:X.length=y-x:=by rw[hl.length_eq,List.length_range']
 have hA:(I.take x).length=x:=by rw[List.length_take];omega
 refine⟨by rw[List.length_append,List.length_append,hA,hX,List.length_drop];omega,?_,λu v hv=>?_,λu v hu=>?_⟩
 ·unfold Qce;rw[QvC hA hX];exact⟨hl,hs⟩
 ·rw[Qi8 om]
  conv=>rhs;rw[Qfl h hy,Qi8 om]
 ·rw[Qhi om]
  conv=>rhs;rw[Qfl h hy,Qhi (by rw[hA,QdO hy];omega)]
  rw[hA,hX,QdO hy]
theorem QiB(hO:OrdC c N){I:List Nat}{x y:Nat}(h:x<=y)(hy:y<=I.length)(hN:y<=N)(hs:seg I x y=List.range' x (y-x)):Upd c x y I (ins c x y I):=by
 have hA:(I.take x).length=x:=by rw[List.length_take];omega
 obtain⟨X,e1,e2,e3⟩:=QrN hO (I.drop y) (I.take x) (seg I x y) (by rw[hs];exact List.pairwise_lt_range') (λq hq=>by rw[hs]at hq;have:=List.mem_range'_1.1 hq;omega);rw[<-Qfl h hy,hA,QdO hy,show x+(y-x)=y by omega]at e1;rw[e1];exact QoO h hy (hs▸e2) e3
theorem Ql4(hO:OrdC c N){I:List Nat}{f x m y:Nat}(h1:x<m)(h2:m<y)(hy:y<=I.length)(hN:y<=N)(hf:y-x<=f)(hs1:Qce c I x m)(hs2:Qce c I m y):Upd c x y I (symM c f x m y I):=by
 have hA:(I.take x).length=x:=by rw[List.length_take];omega
 have hL:=QdO (I:=I) (x:=x) (y:=m) om;have hR:=QdO (I:=I) (x:=m) (y:=y) hy
 have hdec:I=I.take x++(seg I x m++(seg I m y++I.drop y)):=by
  have e1:=Qfl (I:=I) (x:=x) (y:=y) om hy
  have e2:seg I x y=seg I x m++seg I m y:=by
   unfold seg;rw[show y-x=(m-x)+(y-m) by omega,List.take_add,List.drop_drop,show x+(m-x)=m by omega]
  rw[e2,List.append_assoc]at e1;exact e1
 have m1:∀l∈seg I x m,x<=l/\l<m:=λl hl=>by have:=List.mem_range'_1.1 (hs1.1.subset hl);omega
 have m2:∀l∈seg I m y,m<=l/\l<y:=λl hl=>by have:=List.mem_range'_1.1 (hs2.1.subset hl);omega
 obtain⟨X,e1,e2,e3⟩:=QgY hO f (I.take x) (seg I x m) (seg I m y) (I.drop y) om om om hs1.2 hs2.2 (λl hl r hr=>by have:=m1 l hl;have:=m2 r hr;omega) (λr hr=>by have:=m2 r hr;omega);rw[<-hdec,hA,hL,hR,show x+(m-x)=m by omega,show m+(y-m)=y by omega]at e1;rw[e1];refine QoO om hy (e2.trans ((List.Perm.append hs1.1 hs2.1).trans ?_)) e3;have h9:=List.range'_append (s:=x) (m:=m-x) (n:=y-m) (step:=1);rw[Nat.one_mul,show x+(m-x)=m by omega,show m-x+(y-m)=y-x by omega]at h9;rw[h9]
theorem Qce.of{I J:List Nat}{x y:Nat}(h:Qce c I x y)(e:seg J x y=seg I x y):Qce c J x y:=by unfold Qce;rw[e];exact h
theorem Qpf(hO:OrdC c N)(hN:n<=N):∀(f a:Nat)(I:List Nat),I.length=n->20∣a->a<=n->n-a<=f->(∀x,20∣x->x+20<=a->Qce c I x (x+20))->seg I a n=List.range' a (n-a) ->
  (stI c n f a I).length=n/\∀x,20∣x->x<n->Qce c (stI c n f a I) x (min (x+20) n)
 | 0,a,I,hl,hd,ha,hf,hdone,hrest=>by
  obtain rfl:a=n:=by omega
  have h:=QiB hO (Nat.le_refl a) om hN hrest;refine⟨h.len.trans hl,λx hx hxn=>?_⟩;rw[show min (x+20) a=x+20 by omega];exact(hdone x hx om).of (h.left _ _ om)
 | f+1,a,I,hl,hd,ha,hf,hdone,hrest=>by
  unfold stI;split
  ·rename_i h20
   have e1:seg I a (a+20)=List.range' a (a+20-a):=by
    have h1:seg I a (a+20)=(seg I a n).take 20:=by
     unfold seg;rw[List.take_take];congr 1;omega
    rw[h1,hrest,Qot];congr 1;omega
   have h:=QiB hO (show a<=a+20 by omega) om om e1;refine Qpf hO hN f (a+20) _ (h.len.trans hl) om h20 om (λx hx hx2=>?_) ?_
   ·by_cases e:x=a
    ·subst e;exact h.own
    ·exact(hdone x hx om).of (h.left _ _ om)
   ·rw[h.right _ _ (Nat.le_refl _)]
    have h1:seg I (a+20) n=(seg I a n).drop 20:=by
     unfold seg;rw[List.drop_take,List.drop_drop]
     first|rfl|(congr 1;omega)
    rw[h1,hrest,Qra]
    first|rfl|(congr 1;omega)
  ·rename_i h20;have h:=QiB hO ha om hN hrest;refine⟨h.len.trans hl,λx hx hxn=>?_⟩
   by_cases e:x=a
   ·subst e;rw[show min (x+20) n=n by omega];exact h.own
   ·rw[show min (x+20) n=x+20 by omega];exact(hdone x hx om).of (h.left _ _ om)
theorem QhV{d x a:Nat}(h1:d∣x)(h2:d∣a)(h:x<a):x+d<=a:=by
 have:=Nat.le_of_dvd om (Nat.dvd_sub h2 h1);omega
theorem QqC(hO:OrdC c N)(hN:n<=N){bs:Nat}(hb:0<bs):∀(f a:Nat)(I:List Nat),I.length=n->2*bs∣a->a<=n->n-a<=f->(∀x,2*bs∣x->x+2*bs<=a->Qce c I x (x+2*bs))->(∀x,bs∣x->a<=x->x<n->Qce c I x (min (x+bs) n)) ->
  (stP c n bs f a I).length=n/\∀x,2*bs∣x->x<n->Qce c (stP c n bs f a I) x (min (x+2*bs) n)
 | 0,a,I,hl,hd,ha,hf,hdone,hrest=>by
  obtain rfl:a=n:=by omega
  refine⟨hl,λx hx hxn=>?_⟩;have:=QhV hx hd hxn;rw[show min (x+2*bs) a=x+2*bs by omega];exact hdone x hx this
 | f+1,a,I,hl,hd,ha,hf,hdone,hrest=>by
  have hba:bs∣a:=Nat.dvd_trans (Nat.dvd_mul_left ..) hd;have hba1:bs∣a+bs:=(Nat.dvd_add_right hba).2 (Nat.dvd_refl _);unfold stP;split
  ·rename_i h20;have hs1:=hrest a hba (Nat.le_refl _) om;have hs2:=hrest (a+bs) hba1 om om;rw[show min (a+bs) n=a+bs by omega]at hs1;rw[show min (a+bs+bs) n=a+2*bs by omega]at hs2;have h:=Ql4 (f:=n) hO (show a<a+bs by omega) om om om om hs1 hs2;refine QqC hO hN hb f (a+2*bs) _ (h.len.trans hl) ((Nat.dvd_add_right hd).2 (Nat.dvd_refl _)) h20 om (λx hx hx2=>?_) (λx hx hx2 hx3=>?_)
   ·by_cases e:x=a
    ·subst e;exact h.own
    ·have:x<a:=by
      rcases Nat.lt_or_ge x a with h9|h9
      ·exact h9
      ·omega
     have:=QhV hx hd this;exact(hdone x hx om).of (h.left _ _ om)
   ·exact(hrest x hx om hx3).of (h.right _ _ hx2)
  ·rename_i h20
   have fin:∀(J:List Nat),J.length=n->(a<n->Qce c J a n)->(∀u v,v<=a->seg J u v=seg I u v)->J.length=n/\∀x,2*bs∣x->x<n->Qce c J x (min (x+2*bs) n):=λJ hJ ho hleft=>by
    refine⟨hJ,λx hx hxn=>?_⟩
    by_cases e:x=a
    ·subst e;rw[show min (x+2*bs) n=n by omega];exact ho hxn
    ·have hxa:x<a:=by
      rcases Nat.lt_or_ge x a with h9|h9
      ·exact h9
      ·have:=QhV hd hx om;omega
     have:=QhV hx hd hxa;rw[show min (x+2*bs) n=x+2*bs by omega];exact(hdone x hx this).of (hleft _ _ this)
   split
   ·rename_i hm;have hs1:=hrest a hba (Nat.le_refl _) om;have hs2:=hrest (a+bs) hba1 om hm;rw[show min (a+bs) n=a+bs by omega]at hs1;rw[show min (a+bs+bs) n=n by omega]at hs2;have h:=Ql4 (f:=n) hO (show a<a+bs by omega) hm om hN om hs1 hs2;exact fin _ (h.len.trans hl) (λ_=>h.own) h.left
   ·rename_i hm;refine fin _ hl (λhan=>?_) λ_ _ _=>rfl;have hs1:=hrest a hba (Nat.le_refl _) han
    rwa[show min (a+bs) n=n by omega]at hs1
theorem Qms(hO:OrdC c N)(hN:n<=N):∀(f bs:Nat)(I:List Nat),I.length=n->0<bs->n<=bs+f->(∀x,bs∣x->x<n->Qce c I x (min (x+bs) n))->0<n->(Qip c n f bs I).length=n/\Qce c (Qip c n f bs I) 0 n
 | 0,bs,I,hl,hb,hf,hs,hn=>by
  have h:=hs 0 (Nat.dvd_zero _) hn;rw[show min (0+bs) n=n by omega]at h;exact⟨hl,h⟩
 | f+1,bs,I,hl,hb,hf,hs,hn=>by
  unfold Qip;split
  ·have h:=QqC hO hN hb n 0 I hl (Nat.dvd_zero _) (Nat.zero_le _) om (λx _ h=>om) (λx hx _ hxn=>hs x hx hxn);exact Qms hO hN f (2*bs) _ h.1 om om h.2 hn
  ·have h:=hs 0 (Nat.dvd_zero _) hn;rw[show min (0+bs) n=n by omega]at h;exact⟨hl,h⟩
theorem Qib(hO:OrdC c n):(stab c n (List.range n)).Perm (List.range n)/\Z5 c (stab c n (List.range n)):=by
 rcases Nat.eq_zero_or_pos n with h0|h0
 ·subst h0;exact⟨.refl _,.nil⟩
 ·have h1:=Qpf hO (Nat.le_refl n) n 0 (List.range n) List.length_range (Nat.dvd_zero _) (Nat.zero_le _) om (λx _ h=>om) (by
   unfold seg;rw[List.drop_zero,List.take_of_length_le (by rw[List.length_range];omega),List.range_eq_range'];rfl)
  obtain⟨hl,h2⟩:=Qms hO (Nat.le_refl n) n 20 _ h1.1 om om h1.2 h0;unfold stab;unfold Qce seg at h2;rw[List.drop_zero,List.take_of_length_le om]at h2;exact⟨h2.1.trans (by rw[List.range_eq_range'];exact .refl _),h2.2⟩
end
end Gx
namespace Gx
open Go Go.RowKit
section
variable(c:Nat->Nat->Int)
def Qbd:Nat->List Nat->List Nat
 | _,[]=>[]
 | p,a::l=>if c a p=0 then Qbd a l else a::Qbd a l
def cpt:List Nat->List Nat
 | []=>[]
 | a::l=>a::Qbd c a l
end
structure EqC(c:Nat->Nat->Int):Prop where
 swap:∀i j,c j i= -c i j
 lt:∀i j k,c i j<0->c j k<0->c i k<0
 eq:∀i j k,c i j=0->c i k=c j k
theorem EqC.eqr{c:Nat->Nat->Int}(h:EqC c){i j k:Nat}(h1:c j k=0):c i j=c i k:=by
 have h2:=h.eq j k i h1;have:=h.swap j i;have:=h.swap k i;omega
theorem EqC.ord{c:Nat->Nat->Int}(h:EqC c)(N:Nat):OrdC c N where
 tr:=λi j k _ _ _ h1 h2=>by
  rcases h1 with h1|⟨h1,l1⟩<;>rcases h2 with h2|⟨h2,l2⟩
  ·exact .inl (h.lt i j k h1 h2)
  ·exact .inl (by rw[<-h.eqr h2];exact h1)
  ·exact .inl (by rw[h.eq i j k h1];exact h2)
  ·exact .inr ⟨by rw[h.eq i j k h1];exact h2,om⟩
 tot:=λi j _ _ hn=>by
  have:=h.swap i j;unfold ltc;omega
section
variable{c:Nat->Nat->Int}
theorem Qem(h:EqC c):∀(l:List Nat)(p:Nat),Z5 c (p::l)->∀a∈Qbd c p l,a∈l/\c p a<0
 | [],_,_,a,ha=>by cases ha
 | b::l,p,hs,a,ha=>by
  have hs2:=(List.pairwise_cons.1 hs).2;have hpb:=(List.pairwise_cons.1 hs).1 b (List.mem_cons_self ..);have hsw:=h.swap p b;rw[Qbd]at ha;split at ha
  ·rename_i h0;obtain⟨q1,q2⟩:=Qem h l b hs2 a ha;exact⟨List.mem_cons_of_mem _ q1,by rw[h.eq p b a om];exact q2⟩
  ·rename_i h0
   have hlt:c p b<0:=by
    rcases hpb with h1|h1
    ·exact h1
    ·omega
   rcases List.mem_cons.1 ha with rfl|ha
   ·exact⟨List.mem_cons_self ..,hlt⟩
   ·obtain⟨q1,q2⟩:=Qem h l b hs2 a ha;exact⟨List.mem_cons_of_mem _ q1,h.lt p b a hlt q2⟩
theorem Qh9(h:EqC c):∀(l:List Nat)(p:Nat),Z5 c (p::l)->(Qbd c p l).Pairwise (λa b=>c a b<0)
 | [],_,_=>.nil
 | b::l,p,hs=>by
  have hs2:=(List.pairwise_cons.1 hs).2;rw[Qbd];split
  ·exact Qh9 h l b hs2
  ·exact List.pairwise_cons.2 ⟨λa ha=>(Qem h l b hs2 a ha).2,Qh9 h l b hs2⟩
theorem QfQ(h:EqC c):∀(l:List Nat)(p:Nat),Z5 c (p::l)->∀a∈l,∃y∈p::Qbd c p l,c y a=0/\y<=a
 | [],_,_,a,ha=>by cases ha
 | b::l,p,hs,a,ha=>by
  have hs2:=(List.pairwise_cons.1 hs).2;have hpb:=(List.pairwise_cons.1 hs).1 b (List.mem_cons_self ..);have hsw:=h.swap p b;have hbb:c b b=0:=by have:=h.swap b b;omega
  rw[Qbd];split
  ·rename_i h0
   have hle:p<=b:=by
    rcases hpb with h1|h1
    ·omega
    ·omega
   rcases List.mem_cons.1 ha with rfl|ha
   ·exact⟨p,List.mem_cons_self ..,om,hle⟩
   ·obtain⟨y,hy,q1,q2⟩:=QfQ h l b hs2 a ha;rcases List.mem_cons.1 hy with rfl|hy
    ·exact⟨p,List.mem_cons_self ..,by rw[h.eq p y a om];exact q1,om⟩
    ·exact⟨y,List.mem_cons_of_mem _ hy,q1,q2⟩
  ·rcases List.mem_cons.1 ha with rfl|ha
   ·exact⟨a,by simp,hbb,Nat.le_refl _⟩
   ·obtain⟨y,hy,q1,q2⟩:=QfQ h l b hs2 a ha;exact⟨y,List.mem_cons_of_mem _ hy,q1,q2⟩
theorem QuA(h:EqC c){L:List Nat}{n:Nat}(hp:L.Perm (List.range n))(hs:Z5 c L):(cpt c L).Pairwise (λa b=>c a b<0)/\∀x,x∈cpt c L ↔ x<n/\∀j,j<x->¬c j x=0:=by
 cases L with
 | nil=>
  have:=hp.length_eq;rw[List.length_range]at this;refine⟨.nil,λx=>⟨λhx=>(List.not_mem_nil hx).elim,λhx=>?_⟩⟩;simp only[List.length_nil]at this;omega
 | cons p l=>
  have hpw:(p::Qbd c p l).Pairwise (λa b=>c a b<0):=List.pairwise_cons.2 ⟨λa ha=>(Qem h l p hs a ha).2,Qh9 h l p hs⟩;have hm:∀x,x∈p::l ↔ x<n:=λx=>by rw[hp.mem_iff,List.mem_range]
  have hpp:c p p=0:=by have:=h.swap p p;omega
  have hall:∀a,a<n->∃y∈p::Qbd c p l,c y a=0/\y<=a:=λa ha=>by
   rcases List.mem_cons.1 ((hm a).2 ha)with rfl|h1
   ·exact⟨a,List.mem_cons_self ..,hpp,Nat.le_refl _⟩
   ·exact QfQ h l p hs a h1
  have hin:∀x∈p::Qbd c p l,x<n:=λx hx=>by
   rcases List.mem_cons.1 hx with rfl|hx
   ·exact(hm x).1 (List.mem_cons_self ..)
   ·exact(hm x).1 (List.mem_cons_of_mem _ (Qem h l p hs x hx).1)
  have huq:∀x∈p::Qbd c p l,∀y∈p::Qbd c p l,c y x=0->y=x:=λx hx y hy he=>by
   by_cases e:y=x
   ·exact e
   ·exfalso
    have h1:c y x<0\/c x y<0:=by
     have hq:=List.pairwise_iff_getElem.1 hpw;obtain⟨i,hi,rfl⟩:=List.getElem_of_mem hx;obtain⟨j,hj,rfl⟩:=List.getElem_of_mem hy;rcases Nat.lt_trichotomy i j with h2|h2|h2
     ·exact .inr (hq i j hi hj h2)
     ·subst h2;exact absurd rfl e
     ·exact .inl (hq j i hj hi h2)
    have:=h.swap x y;omega
  refine⟨hpw,λx=>⟨λhx=>⟨hin x hx,λj hj he=>?_⟩,λ⟨h1,h2⟩=>?_⟩⟩
  ·obtain⟨y,hy,q1,q2⟩:=hall j (by have:=hin x hx;omega);have h3:c y x=0:=by rw[h.eq y j x q1];exact he
   have:=huq x hx y hy h3;omega
  ·obtain⟨y,hy,q1,q2⟩:=hall x h1;rcases Nat.lt_or_ge y x with h3|h3
   ·exact absurd q1 (h2 y h3)
   ·obtain rfl:y=x:=by omega
    exact hy
end
def cI(co:Int)(l:List TEnt)(i j:Nat):Int:=QN co (nth l i).key (nth l j).key
theorem Qnr(co:Int)(l:List TEnt):EqC (cI co l) where
 swap:=λi j=>ZT co _ _
 lt:=λi j k=>Yu
 eq:=λi j k h=>by
  unfold cI at h ⊢;rw[Qbz,Qbz,QfC.1 h]
def Qfh(co:Int)(l:List TEnt):List Nat:=stab (cI co l) l.length (List.range l.length)
def QnS(co:Int)(l:List TEnt):List TEnt:=(cpt (cI co l) (Qfh co l)).map (nth l)
def Qpe(co:Int)(out:List TEnt)(x:TEnt):List TEnt:=if fnd co out x.key=true then out else QP out (plc co out x.key) x
def inD(co:Int)(l:List TEnt):List TEnt:=l.foldl (Qpe co) []
def Qvb(co:Int)(l:List TEnt)(i:Nat):Prop:=∀j,j<i->¬cI co l j i=0
theorem QkZ(co:Int)(l:List TEnt):∀k,k<=l.length->Srt co (inD co (l.take k))/\(∀x,x∈inD co (l.take k) ↔ ∃i,i<k/\x=nth l i/\Qvb co l i)/\∀i,i<k->Qg3 co (inD co (l.take k)) (nth l i).key
 | 0,_=>by
  refine⟨.nil,λx=>⟨λhx=>by simp[inD]at hx,λ⟨i,hi,_⟩=>by omega⟩,λi hi=>by omega⟩
 | k+1,hk=>by
  obtain⟨h1,h2,h3⟩:=QkZ co l k om
  have hst:inD co (l.take (k+1))=Qpe co (inD co (l.take k)) (nth l k):=by
   unfold inD;rw[List.take_add_one,List.foldl_append,QV om];rfl
  have hE:=Qnr co l
  have hfst:Qg3 co (inD co (l.take k)) (nth l k).key ↔ ¬Qvb co l k:=by
   constructor
   ·rintro⟨y,hy,he⟩ hf;obtain⟨i,hi,rfl,_⟩:=(h2 y).1 hy;exact hf i hi he
   ·intro hf
    have:∃j,j<k/\cI co l j k=0:=by
     apply Classical.byContradiction;intro h9;exact hf λj hj h8=>h9 ⟨j,hj,h8⟩
    obtain⟨j,hj,he⟩:=this;obtain⟨y,hy,hye⟩:=h3 j hj;obtain⟨i,hi,rfl,_⟩:=(h2 y).1 hy;exact⟨nth l i,hy,by have:=hE.eq i j k hye;unfold cI at this he;rw[this];exact he⟩
  rw[hst];unfold Qpe
  by_cases hf:fnd co (inD co (l.take k)) (nth l k).key=true
  ·rw[if_pos hf];have hh:=(Qbp h1).2 hf;refine⟨h1,λx=>?_,λi hi=>?_⟩
   ·rw[h2];constructor
    ·rintro⟨i,hi,q⟩;exact⟨i,om,q⟩
    ·rintro⟨i,hi,rfl,q⟩;rcases Nat.lt_or_ge i k with h9|h9
     ·exact⟨i,h9,rfl,q⟩
     ·obtain rfl:i=k:=by omega
      exact absurd q (hfst.1 hh)
   ·rcases Nat.lt_or_ge i k with h9|h9
    ·exact h3 i h9
    ·obtain rfl:i=k:=by omega
     exact hh
  ·rw[if_neg hf];have hh:¬Qg3 co (inD co (l.take k)) (nth l k).key:=λh9=>hf ((Qbp h1).1 h9);have hfk:Qvb co l k:=Classical.byContradiction λh9=>hh (hfst.2 h9)
   have hmem:∀y,y∈QP (inD co (l.take k)) (plc co (inD co (l.take k)) (nth l k).key) (nth l k) ↔ y∈inD co (l.take k)\/y=nth l k:=λy=>by
    unfold QP;have e:=List.take_append_drop (plc co (inD co (l.take k)) (nth l k).key) (inD co (l.take k));constructor
    ·intro hy;rcases List.mem_append.1 hy with h9|h9
     ·exact .inl (List.mem_of_mem_take h9)
     ·rcases List.mem_cons.1 h9 with h9|h9
      ·exact .inr h9
      ·exact .inl (List.mem_of_mem_drop h9)
    ·rintro(h9|h9)
     ·rw[<-e]at h9;rcases List.mem_append.1 h9 with h8|h8
      ·exact List.mem_append_left _ h8
      ·exact List.mem_append_right _ (List.mem_cons_of_mem _ h8)
     ·exact List.mem_append_right _ (by rw[h9];exact List.mem_cons_self ..)
   refine⟨QiI h1 hh,λx=>?_,λi hi=>?_⟩
   ·rw[hmem,h2];constructor
    ·rintro(⟨i,hi,q⟩|rfl)
     ·exact⟨i,om,q⟩
     ·exact⟨k,om,rfl,hfk⟩
    ·rintro⟨i,hi,rfl,q⟩;rcases Nat.lt_or_ge i k with h9|h9
     ·exact .inl ⟨i,h9,rfl,q⟩
     ·obtain rfl:i=k:=by omega
      exact .inr rfl
   ·rcases Nat.lt_or_ge i k with h9|h9
    ·obtain⟨y,hy,q⟩:=h3 i h9;exact⟨y,(hmem y).2 (.inl hy),q⟩
    ·obtain rfl:i=k:=by omega
     exact⟨nth l i,(hmem _).2 (.inr rfl),by have:=hE.swap i i;unfold cI at this;omega⟩
theorem Qmz{α:Type}{R:α->α->Prop}(ha:∀x y,R x y->¬R y x):∀{A B:List α},A.Pairwise R->B.Pairwise R->(∀x,x∈A ↔ x∈B)->A=B
 | [],[],_,_,_=>rfl
 | [],b::B,_,_,h=>by have:=(h b).2 (List.mem_cons_self ..);cases this
 | a::A,[],_,_,h=>by have:=(h a).1 (List.mem_cons_self ..);cases this
 | a::A,b::B,hA,hB,h=>by
  obtain⟨a1,a2⟩:=List.pairwise_cons.1 hA;obtain⟨b1,b2⟩:=List.pairwise_cons.1 hB
  have e:a=b:=by
   rcases List.mem_cons.1 ((h a).1 (List.mem_cons_self ..))with e|e
   ·exact e
   ·rcases List.mem_cons.1 ((h b).2 (List.mem_cons_self ..))with e2|e2
    ·exact e2.symm
    ·exact absurd (a1 b e2) (ha _ _ (b1 a e))
  subst e;rw[Qmz ha a2 b2 λx=>?_];have hi:¬R a a:=λh9=>ha a a h9 h9;constructor
  ·intro hx;rcases List.mem_cons.1 ((h x).1 (List.mem_cons_of_mem _ hx))with e|e
   ·subst e;exact absurd (a1 _ hx) hi
   ·exact e
  ·intro hx;rcases List.mem_cons.1 ((h x).2 (List.mem_cons_of_mem _ hx))with e|e
   ·subst e;exact absurd (b1 _ hx) hi
   ·exact e
theorem Qt1(co:Int)(l:List TEnt):QnS co l=inD co l:=by
 have hE:=Qnr co l;obtain⟨p1,p2⟩:=Qib (hE.ord l.length);obtain⟨q1,q2⟩:=QuA hE p1 p2;obtain⟨r1,r2,_⟩:=QkZ co l l.length (Nat.le_refl _);rw[List.take_length]at r1 r2;refine Qmz (R:=λa b:TEnt=>QN co a.key b.key<0) (λx y h1 h2=>by have:=ZT co x.key y.key;omega) ?_ r1 λx=>?_
 ·exact List.pairwise_map.2 q1
 ·unfold QnS;rw[List.mem_map,r2];constructor
  ·rintro⟨i,hi,rfl⟩;obtain⟨h1,h2⟩:=(q2 i).1 hi;exact⟨i,h1,rfl,h2⟩
  ·rintro⟨i,hi,rfl,h2⟩;exact⟨i,(q2 i).2 ⟨hi,h2⟩,rfl⟩
end Gx
namespace Go.Proofs
open Go Go.RowKit Gx
attribute [local irreducible] Go.Calls Gx.S Gx.O Gx.D Gx.OpP Gx.OpQ Gx.OpH
set_option maxRecDepth 20000
def bdLk(x:Ixs):Nat->List Nat
  | 0=>[]
  | k+1=>if Yb x (k+1)=true/\¬(Xl (x.blk (k+1)) ((k+1:Nat):Int)).e=0 then bdLk x k++[k+1]else bdLk x k
theorem QjS(x:Ixs):∀k,(bdLk x k).length<=k
  | 0=>Nat.le_refl _
  | k+1=>by
    have:=QjS x k;rw[bdLk];split
    · rw[List.length_append,List.length_singleton];omega
    · omega
def bdI(x:Ixs):List Nat:=if ixE x=0 then bdLk x x.n else[]
theorem Qu3{x:Ixs}{i:Nat}(h1:Yb x i=true)(h2:¬(Xl (x.blk i) ((i:Nat):Int)).e=0):bdLk x (i+1-1)=bdLk x (i-1)++[i]:=by
  obtain⟨h3,_⟩:=Qes h1;obtain⟨k,rfl⟩:∃k,i=k+1:=⟨i-1,om⟩;rw[Nat.add_sub_cancel,bdLk,if_pos ⟨h1,h2⟩,Nat.add_sub_cancel]
theorem Qtf{x:Ixs}{i:Nat}(h:¬(Yb x i=true/\¬(Xl (x.blk i) ((i:Nat):Int)).e=0)):bdLk x (i+1-1)=bdLk x (i-1):=by
  cases i with
  | zero=>rfl
  | succ k=>rw[Nat.add_sub_cancel,bdLk,if_neg h,Nat.add_sub_cancel]
theorem c47(w:World)(x:Ixs)(hl:x.al.length<=900000)(hr:x.ro.length<=1000000)(hb:x.bm.length<=100000):CE 47 #[.agg #[.string (bs x.ro),.string (bs x.al),.string (bs x.bm)]] w [] (λg:Option Addr×Nat=>.tuple #[.slice g.1 (bdI x).length g.2,.int .i64 (ixE x)]) (λg=>True) λg=>[.own (.slice g.1 (bdI x).length g.2) 3 1 (bdI x).length ((bdI x).map λi:Nat=>Value.int .i64 (i:Int))]:=by
 have hn9:x.n<=x.al.length:=Nat.div_le_self _ _
 have hn8:x.n=x.al.length/512:=rfl
 refine eN1 Tryz.func47 Tryz.ntmps47 ?_
 refine aU2 ?_
 refine oBx λb1 _=>?_
 refine aU6 ?_
 refine oCh rfl (λw1 h1=>c56 w1 x hl hr hb) (λ⟨⟨c1,m1,r1⟩,⟨ra,rc⟩,RL⟩hRL=>aU3 ?_)
 refine oAl (λb2 _=>?_) Qas
 refine aU9 ?_
 refine sCd rfl (λh3=>?_) λh3=>?_
 ·have hR:bdI x=[]:=if_neg h3
  refine aU6 ?_
  exact Qj (rs:=[.tmp 2,.tmp 3]) rfl (.tmp rfl (.tmp rfl (.nil))) (λw' h'=>⟨(none,0),by rw[hR];rfl,trivial,by rw[hR];exact(h'.nil.own_nil 3 1).ent aEt⟩)
 have hE:ixE x=0:=h3
 obtain⟨hA,hB,hC,hO,hLs⟩:=QbO hE
 have hb8:x.n<=8*x.bm.length:=by have:=Yx ((x.n+7)/8);omega
 have hR:bdI x=bdLk x x.n:=if_pos hE
 refine aU9 ?_
 refine oCq rfl (λw1 h1=>QiL w1 x c1 m1 r1 ra RL.length rc om) (aT ?_)
 refine aU3 ?_
 refine Qe (L':=[(2,_),(3,_),(4,_),(6,_),(20,_),(21,_)]) aSx (λ_ h=>h) ?_
 refine Qo (α:=Nat×Option Addr×Nat) [6,7,8,9,21,22,23,24,25,26,27,28,29,30,31,32,33,34,35,36,37,38,39,40,41] (λy=>[(21,.int .i64 (y.1:Int)),(6,.slice y.2.1 (bdLk x (y.1-1)).length y.2.2)]) (λy=>HS w [] [.own (.slice y.2.1 ((bdLk x (y.1-1))).length y.2.2) 3 1 ((bdLk x (y.1-1))).length (((bdLk x (y.1-1))).map λi:Nat=>Value.int .i64 (i:Int)),.blk b1 23 3 [.string (bs x.ro),.string (bs x.al),.string (bs x.bm)],.blk b2 108 7 [.string (bs x.ro),.string (bs x.al),.string (bs x.bm),.int .i64 c1,.int .i64 m1,.int .i64 r1,.slice ra RL.length rc]]) (λy=>y.1<=x.n+1) (λy=>x.n+1-y.1) (0,none,0) (Nat.zero_le _) aSx (λw h=>(h.own_nil 3 1).ent aEt) (λ⟨i,ga,gc⟩hi1=>?_)
 dsimp only
 simp only[]at hi1
 have hkl:=QjS x (i-1)
 refine aU5 ?_
 refine sCd rfl (λh4=>?_) λh4=>?_
 ·have hi:i<x.n+1:=by have hq:=h4;omega
  refine Zg ?_
  refine oCq rfl (λw1 h1=>c61 w1 x c1 m1 r1 ra RL.length rc i om hb8) (aU ?_)
  refine sCd rfl (λh5=>?_) λh5=>?_
  ·have hnm9:Yb x i=true:=h5
   obtain⟨hb1,hb2,hb3⟩:=Qes hnm9
   have hbl9:1<=i/\i*512<=x.al.length:=⟨hb1,hb3⟩
   have hb5:=Qb3 hbl9
   refine aU4 ?_
   refine oCq rfl (λw1 h1=>c64 w1 x c1 m1 r1 ra RL.length rc i om hbl9) (aU ?_)
   refine oCh rfl (λw1 h1=>c63 w1 (x.blk i) ((i:Nat):Int) om) (λg2 hg2=>aU3 ?_)
   refine oAl (λb6 _=>?_) ZK
   refine aU8 ?_
   refine sCd rfl (λh7=>?_) λh7=>?_
   ·have hst:=Qu3 hnm9 h7
    refine aU3 ?_
    refine o_h (Qg (cs:=[_]) rfl rfl QM YP rfl rfl rfl) rfl (λb8 _=>o_h (QO [_] rfl rfl rfl QM Tryz.underlying28 YP rfl aPk (Q7 aPk) rfl (by intro u hu;simp only[List.mem_cons,List.mem_nil_iff,or_false]at hu;subst hu;rfl) om (by simp only[maxLen];omega)) rfl (λb9 _=>aT5 ?_))
    refine aU2 ?_
    exact QK (i+1,b9.1,b9.2) (by(try simp only[]);omega) (by(try simp only[]);omega) (by dsimp only;rw[hst];simp only[List.length_append,List.length_singleton];exact aSx) (λw h=>by have h2:=h;dsimp only;rw[hst];simp only[List.length_append,List.length_singleton,List.map_append,List.map_cons,List.map_nil];exact h2.ent aEt)
   have hst:=Qtf (x:=x) (i:=i) (λh9=>h9.2 h7)
   refine aT4 ?_
   refine aU2 ?_
   exact QK (i+1,ga,gc) (by(try simp only[]);omega) (by(try simp only[]);omega) (by dsimp only;rw[hst];exact aSx) (λw h=>by dsimp only;rw[hst];exact h.ent aEt)
  have hnm9:¬Yb x i=true:=by have hq:=h5;simp[hq]
  have hst:=Qtf (x:=x) (i:=i) (λh9=>hnm9 h9.1)
  refine aT4 ?_
  refine aU2 ?_
  exact QK (i+1,ga,gc) (by(try simp only[]);omega) (by(try simp only[]);omega) (by dsimp only;rw[hst];exact aSx) (λw h=>by dsimp only;rw[hst];exact h.ent aEt)
 obtain rfl:i=x.n+1:=by have hq:=h4;omega
 refine Qh rfl ?_
 refine aU6 ?_
 exact Qj (rs:=[.tmp 2,.tmp 3]) rfl (.tmp rfl (.tmp rfl (.nil))) (λw' h'=>⟨(ga,gc),by rw[hR,hE];rfl,trivial,by rw[hR];exact h'.ent aEt⟩)
end Go.Proofs
namespace Gx
open Go Go.RowKit
theorem HS.trans1{w0 w w':World}{M:List Nat}{As:List HA}(h0:HS w0 M [] w)(h:HS w M As w'):HS w0 M [] w':=
 ⟨h.os.trans h0.os,h.tape.trans h0.tape,h.output.trans h0.output,Nat.le_trans h0.size h.size,λb hb hm=>(h.old b (Nat.lt_of_lt_of_le hb h0.size) hm).trans (h0.old b hb hm),λ_ h=>(by cases h),λ_ h=>(by cases h),.nil⟩
section
variable{vv:Nat->List Value}{sz:Nat}{J:List Nat}{p q k:Nat}
theorem nget{J:List Nat}{k:Nat}(h:k<J.length):J[k]?=some (J.getD k 0):=by
 rw[List.getD_eq_getElem?_getD,List.getElem?_eq_getElem h];rfl
theorem Yw(hv:∀i,(vv i).length=sz){w0 w:World}{M:List Nat}{As As':List HA}{b t tot:Nat}(h:HS w0 M As w)(hp:QD As (.blk b t tot (J.flatMap vv)) As')(hk:k<J.length):∀j v,(vv (J.getD k 0))[j]?=some v->Rd w [] b (0+k*sz+j) v:=λj v hj=>by
 have hlt:j<sz:=by
  rcases Nat.lt_or_ge j (vv (J.getD k 0)).length with h|h
  ·rwa[hv]at h
  ·rw[List.getElem?_eq_none h]at hj;cases hj
 rw[Nat.zero_add];exact h.rd_blk (Mc:=[]) hp (by rw[QaI hv _ k j _ (nget hk) hlt];exact hj) (by simp)
theorem Qof(hv:∀i,(vv i).length=sz)(hp:p<J.length)(hq:q<J.length):Qq (Qq (J.flatMap vv) (0+p*sz) (vv (J.getD q 0))) (0+q*sz) (vv (J.getD p 0))=(swp J p q).flatMap vv:=by
 have one:∀(K:List Nat)(k y:Nat),k<K.length->Qq (K.flatMap vv) (0+k*sz) (vv y)=(K.set k y).flatMap vv:=λK k y hk=>by
  have h:=Z2 hv K k 0 (vv y) (K.getD k 0) y (nget hk) (by
   have e1:=hv (K.getD k 0);have e2:=hv y;rw[Qaz _ _ _ om,List.take_zero,List.drop_eq_nil_of_le om];simp) (by rw[hv];omega)
  rw[Nat.add_zero]at h;rw[Nat.zero_add];exact h
 rw[one J p _ hp,one _ q _ (by rw[List.length_set];exact hq)];rfl
theorem Qfo{w0 w:World}{M:List Nat}{As:List HA}{b t tot:Nat}(hv:∀i,(vv i).length=sz)(hp:p<J.length)(hq:q<J.length)(h:HS w0 M (.blk b t tot (Qq (Qq (J.flatMap vv) (0+p*sz) (vv (J.getD q 0))) (0+q*sz) (vv (J.getD p 0)))::As) w):HS w0 M (.blk b t tot ((swp J p q).flatMap vv)::As) w:=by
 rw[Qof hv hp hq]at h;exact h
end
end Gx
namespace Go.Proofs
open Go Go.RowKit Gx
attribute [local irreducible] Go.Calls Gx.S Gx.O Gx.D Gx.OpP Gx.OpQ Gx.OpH
set_option maxRecDepth 20000
theorem QkU:QQ Tryz.prog 267=true:=by kernel_rfl
theorem QtE:QQ Tryz.prog 253=true:=by kernel_rfl
theorem QiJ:QQ Tryz.prog 223=true:=by kernel_rfl
theorem QkS:QQ Tryz.prog 222=true:=by kernel_rfl
instance:TFn Tryz.prog 222:=⟨QkS⟩
theorem QpT:QQ Tryz.prog 177=true:=by kernel_rfl
instance:TFn Tryz.prog 177:=⟨QpT⟩
def sV(l:List TEnt)(i:Nat):List Value:=TEnt.vals (nth l i)
theorem XJ(l:List TEnt)(i:Nat):(sV l i).length=2:=rfl
theorem QtU(w:World)(l:List TEnt)(b n cap tot N:Nat)(I:List Nat)(x y k:Nat)(fv:Value)(hI:Xk N n I)(hw:HS w [b] [.blk b 27 tot ((I).flatMap (sV l))] w)(hn:n<=1000000)(hx:x+k<=n)(hy:y+k<=n):CE 267 #[.slice (some ⟨b,0,none⟩) n cap,.int .i64 (x:Int),.int .i64 (y:Int),.int .i64 (k:Int),fv] w [b] (λg:Unit=>.tuple #[]) (λg=>True) λg=>[.blk b 27 tot ((swr k x y I).flatMap (sV l))]:=by
 refine eW5 Tryz.func267 Tryz.ntmps267 hw ?_
 refine aU5 ?_
 refine Qo (α:=Nat×List Nat) [10,11,12,13,14,15,16,17,18,19,20,21,22,23,24,25,26,27,28,29,30,31,32,33,34,35,36,37] (λz=>[(10,.int .i64 (z.1:Int))]) (λz=>HS w [b] [.blk b 27 tot ((z.2).flatMap (sV l))]) (λz=>z.1<=k/\Xk N n z.2/\swr (k-z.1) (x+z.1) (y+z.1) z.2=swr k x y I) (λz=>k-z.1) (0,I) ⟨Nat.zero_le _,hI,rfl⟩ aSx (λw h=>h.ent aEt) (λ⟨i,J⟩hz=>?_)
 dsimp only
 obtain⟨hi,hJ,hR⟩:=hz
 simp only[]at hi hJ hR
 refine aU7 ?_
 refine sCd rfl (λh1=>?_) λh1=>?_
 ·refine aU3 ?_
  refine Qu [21,23] QG ?_
  refine dP 0 ?_
  refine dP 1 ?_
  refine dP 2 ?_
  refine dP 3 ?_
  try refine dWr ?_
  refine dP 4 ?_
  refine dP 5 ?_
  refine dP 6 ?_
  refine dP 7 ?_
  try refine dWr ?_
  refine dP 8 ?_
  refine dP 9 ?_
  refine dP 10 ?_
  refine dP 11 ?_
  try refine dWr ?_
  refine dV 12 rfl (Qa rfl rfl rfl Qy (y+i) om om rfl) (dQ 13 [[],[]] rfl (QU _ rfl rfl Xb rfl (λw h=>Yw (XJ l) h aPk (k:=y+i) (by have h9:=hJ.1;omega))) (dP 14 ?_))
  refine dP 15 ?_
  refine dP 16 ?_
  refine dP 17 ?_
  try refine dWr ?_
  refine dV 18 rfl (Qa rfl rfl rfl Qy (x+i) om om rfl) (dQ 19 [[],[]] rfl (QU _ rfl rfl Xb rfl (λw h=>Yw (XJ l) h aPk (k:=x+i) (by have h9:=hJ.1;omega))) (dV 20 rfl (Qa rfl rfl rfl Qy (x+i) om om rfl) (Qep 21 rfl (Q8 rfl rfl rfl Xb rfl aPt (by(try rw[Qk]);rw[Qi (XJ l)];have h9:=hJ.1;have h8:(x+i)*2+2<=n*2:=om;omega) rfl) (by kernel_rfl) (λw h=>h.ent aEt) (λ_ _=>?_))))
  refine dTu [23] ?_
  refine dV 22 rfl (Qa rfl rfl rfl Qy (y+i) om om rfl) (Qep 23 rfl (Q8 rfl rfl rfl Xb rfl aPt (by(try rw[Qk]);rw[Qi (XJ l)];have h9:=hJ.1;have h8:(y+i)*2+2<=n*2:=om;omega) rfl) (by kernel_rfl) (λw h=>h.ent aEt) (λ_ _=>?_))
  refine dTu [] ?_
  refine dNi ?_
  refine aU ?_
  refine Qe (L':=[(0,_),(1,_),(2,_),(3,_),(4,_),(10,_)]) aSx (λ_ h=>h) ?_
  refine aT3 ?_
  refine aU2 ?_
  exact QK (i+1,swp J (x+i) (y+i)) (by(try simp only[]);omega) ⟨by(try simp only[]);omega,hJ.swp _ _,by rw[<-hR,show k-i=(k-(i+1))+1 by omega,swr];rfl⟩ aSx (λw h=>by exact Qfo (vv:=(sV l)) (J:=J) (p:=x+i) (q:=y+i) (XJ l) (by have h9:=hJ.1;omega) (by have h9:=hJ.1;omega) h)
 refine Qh rfl ?_
 exact Za rfl (λw' h'=>⟨(),rfl,trivial,by obtain rfl:i=k:=om;rw[Nat.sub_self]at hR;rw[<-hR];exact h'⟩)
theorem c253(w:World)(l:List TEnt)(b n cap tot N:Nat)(I:List Nat)(x m y:Nat)(fv:Value)(hI:Xk N n I)(hw:HS w [b] [.blk b 27 tot ((I).flatMap (sV l))] w)(hn:n<=1000000)(hxm:x<m)(hmy:m<y)(hy:y<=n):CE 253 #[.slice (some ⟨b,0,none⟩) n cap,.int .i64 (x:Int),.int .i64 (m:Int),.int .i64 (y:Int),fv] w [b] (λg:Unit=>.tuple #[]) (λg=>True) λg=>[.blk b 27 tot ((rot x m y I).flatMap (sV l))]:=by
 refine eW5 Tryz.func253 Tryz.ntmps253 hw ?_
 refine aT5 ?_
 refine Qf (show _=Value.int .i64 ((m-x:Nat):Int)from by first|rfl|(congr 1;omega)) (aT7 ?_)
 refine Qf (show _=Value.int .i64 ((y-m:Nat):Int)from by first|rfl|(congr 1;omega)) (aU4 ?_)
 refine Qo (α:=Nat×Nat×Nat×List Nat) [10,11,18,19,20,21,22,23,24,25,26,27,28,29,30,31,32,33,34,35,36,37,38,39,40,41,42,43,44,45,46,47,48,49] (λz=>[(10,.int .i64 (z.2.1:Int)),(11,.int .i64 (z.2.2.1:Int))]) (λz=>HS w [b] [.blk b 27 tot ((z.2.2.2).flatMap (sV l))]) (λz=>0<z.2.1/\0<z.2.2.1/\z.2.1+z.2.2.1<=z.1/\z.2.1<=m/\m+z.2.2.1<=y/\Xk N n z.2.2.2/\rotS z.1 z.2.1 z.2.2.1 m z.2.2.2=rot x m y I) (λz=>z.1) ((m-x)+(y-m),m-x,y-m,I) ⟨by(try simp only[]);omega,by(try simp only[]);omega,Nat.le_refl _,by(try simp only[]);omega,by(try simp only[]);omega,hI,rfl⟩ aSx (λw h=>h.ent aEt) (λ⟨f,i,j,J⟩hz=>?_)
 dsimp only
 obtain⟨hi,hj,hf9,him,hjy,hJ,hR⟩:=hz
 simp only[]at hi hj hf9 him hjy hJ hR
 obtain⟨g,rfl⟩:∃g,f=g+1:=⟨f-1,om⟩
 refine aU7 ?_
 refine sCd rfl (λh1=>?_) λh1=>?_
 ·refine aU8 ?_
  refine sCd rfl (λh2=>?_) λh2=>?_
  ·refine aT6 ?_
   refine Qf (show _=Value.int .i64 ((m-i:Nat):Int)from by first|rfl|(congr 1;omega)) (aU3 ?_)
   refine o_h (QE (Cs:=[.blk b 27 tot ((J).flatMap (sV l))]) rfl QkU rfl aPs (λw1 h1 hf=>QtU w1 l b n cap tot N J (m-i) (m) (j) _ hJ hf hn om om)) rfl (λ_ _=>aT5 ?_)
   refine Qf (show _=Value.int .i64 ((i-j:Nat):Int)from by first|rfl|(congr 1;omega)) (aU3 ?_)
   exact sBk (g,i-j,j,swr j (m-i) m J) (by(try simp only[]);omega) ⟨by(try simp only[]);omega,hj,by(try simp only[]);omega,by(try simp only[]);omega,hjy,hJ.swr _ _ _,by rw[<-hR,rotS,if_neg om,if_pos om]⟩
  refine aT6 ?_
  refine Qf (show _=Value.int .i64 ((m-i:Nat):Int)from by first|rfl|(congr 1;omega)) (aT3 ?_)
  refine aT2 ?_
  refine Qf (show _=Value.int .i64 ((m+j-i:Nat):Int)from by first|rfl|(congr 1;omega)) (aU2 ?_)
  refine o_h (QE (Cs:=[.blk b 27 tot ((J).flatMap (sV l))]) rfl QkU rfl aPs (λw1 h1 hf=>QtU w1 l b n cap tot N J (m-i) (m+j-i) (i) _ hJ hf hn om om)) rfl (λ_ _=>aU ?_)
  refine Qe (L':=[(0,_),(1,_),(2,_),(3,_),(4,_),(10,_),(11,_),(12,_),(13,_),(14,_),(15,_),(16,_),(17,_)]) aSx (λ_ h=>h) ?_
  refine aT4 ?_
  refine Qf (show _=Value.int .i64 ((j-i:Nat):Int)from by first|rfl|(congr 1;omega)) (aU3 ?_)
  exact sBk (g,i,j-i,swr i (m-i) (m+j-i) J) (by(try simp only[]);omega) ⟨hi,by(try simp only[]);omega,by(try simp only[]);omega,him,by(try simp only[]);omega,hJ.swr _ _ _,by rw[<-hR,rotS,if_neg om,if_neg om]⟩
 refine Qh rfl ?_
 refine aT5 ?_
 refine Qf (show _=Value.int .i64 ((m-i:Nat):Int)from by first|rfl|(congr 1;omega)) (aU3 ?_)
 refine o_h (QE (Cs:=[.blk b 27 tot ((J).flatMap (sV l))]) rfl QkU rfl aPs (λw1 h1 hf=>QtU w1 l b n cap tot N J (m-i) (m) (i) _ hJ hf hn om om)) rfl (λ_ _=>aU ?_)
 exact Za rfl (λw' h'=>⟨(),rfl,trivial,by rw[<-hR,rotS,if_pos om];exact h'.ent aEt⟩)
theorem c222(w:World)(l:List TEnt)(b n cap tot N:Nat)(I:List Nat)(x y:Nat)(w00:World)(q:Nat)(cv:Array Value)(c:Nat->Nat->Int)(hI:Xk N n I)(hw:HS w [b] [.blk b 27 tot ((I).flatMap (sV l))] w)(hn:n<=1000000)(hxy:x<=y)(hy:y<=n)(h0:HS w00 [b] [] w)(hq:QQ Tryz.prog q=true)(hc:∀p p1 w1,p<N->p1<N->HS w00 [b] [] w1->Calls Tryz.prog q (#[]++[.agg (sV l (p)).toArray,.agg (sV l (p1)).toArray].toArray++cv) w1 λen w2=>en=.returned (.int .i64 (c p p1))/\Below w1.heap.size w1 w2):CE 222 #[.slice (some ⟨b,0,none⟩) n cap,.int .i64 (x:Int),.int .i64 (y:Int),.func (.func q) #[] cv] w [b] (λg:Unit=>.tuple #[]) (λg=>True) λg=>[.blk b 27 tot ((ins c x y I).flatMap (sV l))]:=by
 refine eW4 Tryz.func222 Tryz.ntmps222 hw ?_
 refine aT4 ?_
 refine aU3 ?_
 refine Qo (α:=Nat×List Nat) [8,9,12,13,14,15,16,17,18,19,20,21,22,23,24,25,26,27,28,29,30,31,32,33,34,35,36,37,38,39,40,41,42,43,44,45,46,47,48,49,50,51,52] (λz=>[(8,.int .i64 (z.1:Int))]) (λz=>HS w [b] [.blk b 27 tot ((z.2).flatMap (sV l))]) (λz=>x+1<=z.1/\Xk N n z.2/\insS c x (y-z.1) z.1 z.2=ins c x y I) (λz=>y-z.1) (x+1,I) ⟨Nat.le_refl _,hI,rfl⟩ aSx (λw h=>h.ent aEt) (λ⟨i,J⟩hz=>?_)
 dsimp only
 obtain⟨hi,hJ,hR⟩:=hz
 simp only[]at hi hJ hR
 refine aU7 ?_
 refine sCd rfl (λh1=>?_) λh1=>?_
 ·refine aU9 ?_
  refine Qo (α:=Nat×List Nat) [9,18,19,20,21,22,23,24,25,26,27,28,29,30,31,32,33,34,35,36,37,38,39,40,41,42,43,44,45,46,47,48,49,50,51,52] (λz=>[(9,.int .i64 (z.1:Int))]) (λz=>HS w [b] [.blk b 27 tot ((z.2).flatMap (sV l))]) (λz=>x<=z.1/\z.1<=i/\Xk N n z.2/\bub c x z.1 z.2=bub c x i J) (λz=>z.1) (i,J) ⟨by(try simp only[]);omega,Nat.le_refl _,hJ,rfl⟩ aSx (λw h=>h.ent aEt) (λ⟨j,K⟩hz=>?_)
  dsimp only
  obtain⟨hj,hji,hK,hB⟩:=hz
  simp only[]at hj hji hK hB
  refine aU2 ?_
  refine QbX (α:=Bool) [18,19,20,21,22,23,24,25,26,27,28,29,30,31,32,33,34] (λz=>[(34,.bool z)]) (λz=>z=decide (x<j/\c (K.getD j 0) (K.getD (j-1) 0)<0)) ?_ ?_
  ·skip
   refine Qu [] QG ?_
   refine dP 0 ?_
   refine dP 1 ?_
   refine dP 2 ?_
   refine dP 3 ?_
   apply Xu 21
   ·exact rfl
   ·intro hg2
    have hs3:=hg2;try simp only[dT]at hs3
    refine dPo 4 21 hg2 ?_
    refine dPo 5 21 hg2 ?_
    refine dPo 6 21 hg2 ?_
    refine dVo 7 21 hg2 rfl rfl rfl (Qa rfl rfl rfl Qy (j) om om rfl) ?_
    refine dQo 8 21 [] hg2 rfl rfl rfl (QU _ rfl rfl Xb rfl (λw h=>Yw (XJ l) h aPk (k:=j) (by have h9:=hK.1;omega))) ?_
    refine dPo 9 21 hg2 ?_
    refine dPo 10 21 hg2 ?_
    refine dPo 11 21 hg2 ?_
    try refine dWr ?_
    refine dVo 12 21 hg2 rfl rfl rfl (Qa rfl rfl rfl Qy (j-1) om om rfl) ?_
    refine dQo 13 21 [] hg2 rfl rfl rfl (QU _ rfl rfl Xb rfl (λw h=>Yw (XJ l) h aPk (k:=j-1) (by have h9:=hK.1;omega))) ?_
    refine dQo 14 21 [] hg2 rfl rfl rfl (Xj rfl rfl hq rfl (λw1 h1=>hc (K.getD (j) 0) (K.getD (j-1) 0) w1 (hK.get om) (hK.get om) (h0.trans1 h1))) ?_
    refine dPo 15 21 hg2 ?_
    refine dV 16 rfl (Xq rfl rfl hg2 rfl) (dNi ?_)
    exact Qp (decide (c (K.getD j 0) (K.getD (j-1) 0)<0)) (by have hq9:x<j:=(by have hq:=hg2;simp at hq;omega);simp[hq9]) aSx (λw h=>h.ent aEt)
   intro hg4
   have hs5:=hg4;try simp only[dN]at hs5
   refine dOf 4 21 hg4 ?_
   refine dOf 5 21 hg4 ?_
   refine dOf 6 21 hg4 ?_
   refine dOf 7 21 hg4 ?_
   refine dOf 8 21 hg4 ?_
   refine dOf 9 21 hg4 ?_
   refine dOf 10 21 hg4 ?_
   refine dOf 11 21 hg4 ?_
   refine dOf 12 21 hg4 ?_
   refine dOf 13 21 hg4 ?_
   refine dOf 14 21 hg4 ?_
   refine dOf 15 21 hg4 ?_
   refine dV 16 rfl (Xe rfl rfl hg4 rfl) (dNi ?_)
   exact Qp false (by have hq9:¬x<j:=(by have hq:=hg4;simp at hq;omega);simp[hq9]) aSx (λw h=>h.ent aEt)
  intro z9 hz9
  subst hz9
  refine sCd rfl (λh6=>?_) λh6=>?_
  ·have hcc:x<j/\c (K.getD j 0) (K.getD (j-1) 0)<0:=by simpa using h6
   refine aU3 ?_
   refine Qu [15,17] QG ?_
   refine dP 0 ?_
   refine dP 1 ?_
   refine dP 2 ?_
   refine dP 3 ?_
   refine dP 4 ?_
   try refine dWr ?_
   refine dP 5 ?_
   refine dP 6 ?_
   refine dP 7 ?_
   try refine dWr ?_
   refine dV 8 rfl (Qa rfl rfl rfl Qy (j-1) om om rfl) (dQ 9 [[],[]] rfl (QU _ rfl rfl Xb rfl (λw h=>Yw (XJ l) h aPk (k:=j-1) (by have h9:=hK.1;omega))) (dP 10 ?_))
   refine dP 11 ?_
   refine dV 12 rfl (Qa rfl rfl rfl Qy (j) om om rfl) (dQ 13 [[],[]] rfl (QU _ rfl rfl Xb rfl (λw h=>Yw (XJ l) h aPk (k:=j) (by have h9:=hK.1;omega))) (dV 14 rfl (Qa rfl rfl rfl Qy (j) om om rfl) (Qep 15 rfl (Q8 rfl rfl rfl Xb rfl aPt (by(try rw[Qk]);rw[Qi (XJ l)];have h9:=hK.1;have h8:(j)*2+2<=n*2:=om;omega) rfl) (by kernel_rfl) (λw h=>h.ent aEt) (λ_ _=>?_))))
   refine dTu [17] ?_
   refine dV 16 rfl (Qa rfl rfl rfl Qy (j-1) om om rfl) (Qep 17 rfl (Q8 rfl rfl rfl Xb rfl aPt (by(try rw[Qk]);rw[Qi (XJ l)];have h9:=hK.1;have h8:(j-1)*2+2<=n*2:=om;omega) rfl) (by kernel_rfl) (λw h=>h.ent aEt) (λ_ _=>?_))
   refine dTu [] ?_
   refine dNi ?_
   refine aT4 ?_
   refine aU2 ?_
   exact QK (j-1,swp K j (j-1)) (by(try simp only[]);omega) ⟨by(try simp only[]);omega,by(try simp only[]);omega,hK.swp _ _,by rw[<-hB];exact(QtN (c:=c) hcc).symm⟩ (by refine Zm (congrArg (λe=>some (Value.int .i64 e)) (show(j:Int)-1=((j-1:Nat):Int) by omega)) ?_;repeat (first|exact QdL|refine Zm rfl ?_)) (λw h=>by exact Qfo (vv:=(sV l)) (J:=K) (p:=j) (q:=j-1) (XJ l) (by have h9:=hK.1;omega) (by have h9:=hK.1;omega) h)
  have hcc:¬(x<j/\c (K.getD j 0) (K.getD (j-1) 0)<0):=by simpa using h6
  have hE:bub c x j K=K:=QsG (c:=c) hj hcc
  refine Qh rfl ?_
  refine aT4 ?_
  refine aU2 ?_
  exact sBk (i+1,K) (by(try simp only[]);omega) ⟨by(try simp only[]);omega,hK,by rw[<-hR,show y-i=(y-(i+1))+1 by omega,insS,<-hB,hE]⟩
 refine Qh rfl ?_
 exact Za rfl (λw' h'=>⟨(),rfl,trivial,by rw[show y-i=0 by omega]at hR;rw[<-hR];exact h'⟩)
set_option maxHeartbeats 4000000 in
theorem QvJ(w:World)(l:List TEnt)(b n cap tot N:Nat)(I:List Nat)(f x m y:Nat)(w00:World)(q:Nat)(cv:Array Value)(c:Nat->Nat->Int)(hI:Xk N n I)(hw:HS w [b] [.blk b 27 tot ((I).flatMap (sV l))] w)(hn:n<=1000000)(hxm:x<m)(hmy:m<y)(hy:y<=n)(hf0:y-x<=f+1)(h0:HS w00 [b] [] w)(hq:QQ Tryz.prog q=true)(hc:∀p p1 w1,p<N->p1<N->HS w00 [b] [] w1->Calls Tryz.prog q (#[]++[.agg (sV l (p)).toArray,.agg (sV l (p1)).toArray].toArray++cv) w1 λen w2=>en=.returned (.int .i64 (c p p1))/\Below w1.heap.size w1 w2)(hrec:∀(w1:World)(J:List Nat)(x1 m1 y1:Nat),Xk N n J->HS w00 [b] [] w1->HS w1 [b] [.blk b 27 tot ((J).flatMap (sV l))] w1->x1<m1->m1<y1->y1<=n->y1-x1<=f->Calls Tryz.prog 223 #[.slice (some ⟨b,0,none⟩) n cap,.int .i64 (x1:Int),.int .i64 (m1:Int),.int .i64 (y1:Int),.func (.func q) #[] cv] w1 λen w2=>∃g:Unit,en=.returned (.tuple #[])/\True/\HS w1 [b] [.blk b 27 tot ((symM c f x1 m1 y1 J).flatMap (sV l))] w2):CE 223 #[.slice (some ⟨b,0,none⟩) n cap,.int .i64 (x:Int),.int .i64 (m:Int),.int .i64 (y:Int),.func (.func q) #[] cv] w [b] (λg:Unit=>.tuple #[]) (λg=>True) λg=>[.blk b 27 tot ((symM c (f+1) x m y I).flatMap (sV l))]:=by
 refine eW5 Tryz.func223 Tryz.ntmps223 hw ?_
 refine aT6 ?_
 refine Qf (show _=Value.int .i64 ((m-x:Nat):Int)from by first|rfl|(congr 1;omega)) (aU2 ?_)
 refine sCd rfl (λh1=>?_) λh1=>?_
 ·refine Zg ?_
  refine Qo (α:=Nat×Nat×Nat) [10,11,12,31,32,33,34,35,36,37,38,39,40,41,42,43,44,45,46,47,48,49,50,51,52,53] (λz=>[(10,.int .i64 (z.2.1:Int)),(11,.int .i64 (z.2.2:Int))]) (λ_=>HS w [b] [.blk b 27 tot ((I).flatMap (sV l))]) (λz=>m<=z.2.1/\z.2.1<=z.2.2/\z.2.2<=y/\z.2.2-z.2.1<=z.1/\Zh (p1 c I x) z.1 z.2.1 z.2.2=Zh (p1 c I x) (y-m) m y) (λz=>z.1) (y-m,m,y) ⟨Nat.le_refl _,by(try simp only[]);omega,Nat.le_refl _,by(try simp only[]);omega,rfl⟩ aSx (λw h=>h.ent aEt) (λ⟨f9,i,j⟩hz=>?_)
  dsimp only
  obtain⟨hi1,hi2,hi3,hi4,hR⟩:=hz
  simp only[]at hi1 hi2 hi3 hi4 hR
  refine aU7 ?_
  refine sCd rfl (λh2=>?_) λh2=>?_
  ·obtain⟨g9,rfl,hS9⟩:=QeE (p:=p1 c I x) (show i<j by omega) hi4
   refine aT7 ?_
   refine o_p (Qm rfl rfl Yn Qa6) rfl ?_
   rw[show IntKind.u64.wrap ((i:Int)+(j:Int))=((i+j:Nat):Int)from Qge _ om]
   refine o_p (Qbl rfl rfl rfl (by decide) 1 rfl) rfl (o_p (Qm rfl rfl Qa6 Yn) rfl ?_)
   try refine oWr ?_
   refine Qf (show _=Value.int .i64 (((i+j)/2:Nat):Int)from by congr 1) (aU3 ?_)
   refine Qu [] QG ?_
   refine dP 0 ?_
   refine dP 1 ?_
   refine dP 2 ?_
   refine dV 3 rfl (Qa rfl rfl rfl Qy ((i+j)/2) om om rfl) (dQ 4 [] rfl (QU _ rfl rfl Xb rfl (λw h=>Yw (XJ l) h aPk (k:=(i+j)/2) (by have h9:=hI.1;omega))) (dP 5 ?_))
   refine dP 6 ?_
   refine dV 7 rfl (Qa rfl rfl rfl Qy (x) om om rfl) (dQ 8 [] rfl (QU _ rfl rfl Xb rfl (λw h=>Yw (XJ l) h aPk (k:=x) (by have h9:=hI.1;omega))) (dQ 9 [] rfl (Xj rfl rfl hq rfl (λw1 h1=>hc (I.getD ((i+j)/2) 0) (I.getD (x) 0) w1 (hI.get om) (hI.get om) (h0.trans1 h1))) (dP 10 ?_)))
   refine dNi ?_
   refine sCd rfl (λh3=>?_) λh3=>?_
   ·refine Qe (L':=[(0,_),(1,_),(2,_),(3,_),(4,_),(10,_),(11,_),(12,_),(25,_),(26,_),(27,_),(28,_),(29,_),(30,_)]) aSx (λ_ h=>h) ?_
    refine aT3 ?_
    refine aU3 ?_
    exact sBk (g9,(i+j)/2+1,j) (by(try simp only[]);omega) ⟨by(try simp only[]);omega,by(try simp only[]);omega,hi3,by(try simp only[]);omega,by rw[<-hR,hS9,if_pos (by unfold p1;simpa using h3)]⟩ (by refine Zm (congrArg (λe=>some (Value.int .i64 e)) (show(((i+j)/2:Nat):Int)+1=(((i+j)/2+1:Nat):Int) by omega)) ?_;repeat (first|exact QdL|refine Zm rfl ?_))
   refine Qe (L':=[(0,_),(1,_),(2,_),(3,_),(4,_),(10,_),(11,_),(12,_),(25,_),(26,_),(27,_),(28,_),(29,_),(30,_)]) aSx (λ_ h=>h) ?_
   refine aU5 ?_
   exact sBk (g9,i,(i+j)/2) (by(try simp only[]);omega) ⟨hi1,by(try simp only[]);omega,by(try simp only[]);omega,by(try simp only[]);omega,by rw[<-hR,hS9,if_neg (by unfold p1;simpa using h3)]⟩
  have hE9:Zh (p1 c I x) (y-m) m y=i:=by rw[<-hR,QgZ om]
  refine Qh rfl ?_
  refine aU7 ?_
  refine Qo (α:=Nat×List Nat) [13,55,56,57,58,59,60,61,62,63,64,65,66,67,68,69,70,71,72,73,74,75,76] (λz=>[(13,.int .i64 (z.1:Int))]) (λz=>HS w [b] [.blk b 27 tot ((z.2).flatMap (sV l))]) (λz=>x<=z.1/\z.1<=i-1/\Xk N n z.2/\mvR (i-1-z.1) z.1 z.2=mvR (i-1-x) x I) (λz=>i-1-z.1) (x,I) ⟨Nat.le_refl _,by(try simp only[]);omega,hI,rfl⟩ aSx (λw h=>h.ent aEt) (λ⟨k,J⟩hz=>?_)
  dsimp only
  obtain⟨hk1,hk2,hJ,hR2⟩:=hz
  simp only[]at hk1 hk2 hJ hR2
  refine aT6 ?_
  refine aU2 ?_
  refine sCd rfl (λh4=>?_) λh4=>?_
  ·refine aU3 ?_
   refine Qu [15,17] QG ?_
   refine dP 0 ?_
   refine dP 1 ?_
   refine dP 2 ?_
   refine dP 3 ?_
   refine dP 4 ?_
   try refine dWr ?_
   refine dP 5 ?_
   refine dP 6 ?_
   refine dP 7 ?_
   try refine dWr ?_
   refine dV 8 rfl (Qa rfl rfl rfl Qy (k+1) om om rfl) (dQ 9 [[],[]] rfl (QU _ rfl rfl Xb rfl (λw h=>Yw (XJ l) h aPk (k:=k+1) (by have h9:=hJ.1;omega))) (dP 10 ?_))
   refine dP 11 ?_
   refine dV 12 rfl (Qa rfl rfl rfl Qy (k) om om rfl) (dQ 13 [[],[]] rfl (QU _ rfl rfl Xb rfl (λw h=>Yw (XJ l) h aPk (k:=k) (by have h9:=hJ.1;omega))) (dV 14 rfl (Qa rfl rfl rfl Qy (k) om om rfl) (Qep 15 rfl (Q8 rfl rfl rfl Xb rfl aPt (by(try rw[Qk]);rw[Qi (XJ l)];have h9:=hJ.1;have h8:(k)*2+2<=n*2:=om;omega) rfl) (by kernel_rfl) (λw h=>h.ent aEt) (λ_ _=>?_))))
   refine dTu [17] ?_
   refine dV 16 rfl (Qa rfl rfl rfl Qy (k+1) om om rfl) (Qep 17 rfl (Q8 rfl rfl rfl Xb rfl aPt (by(try rw[Qk]);rw[Qi (XJ l)];have h9:=hJ.1;have h8:(k+1)*2+2<=n*2:=om;omega) rfl) (by kernel_rfl) (λw h=>h.ent aEt) (λ_ _=>?_))
   refine dTu [] ?_
   refine dNi ?_
   refine aU ?_
   refine Qe (L':=[(0,_),(1,_),(2,_),(3,_),(4,_),(10,_),(11,_),(13,_),(25,_),(26,_),(27,_),(28,_),(29,_),(30,_),(31,_),(32,_),(33,_),(54,_)]) aSx (λ_ h=>h) ?_
   refine aT3 ?_
   refine aU2 ?_
   exact QK (k+1,swp J k (k+1)) (by(try simp only[]);omega) ⟨by(try simp only[]);omega,by(try simp only[]);omega,hJ.swp _ _,by rw[<-hR2,show i-1-k=(i-1-(k+1))+1 by omega,mvR]⟩ aSx (λw h=>by exact Qfo (vv:=(sV l)) (J:=J) (p:=k) (q:=k+1) (XJ l) (by have h9:=hJ.1;omega) (by have h9:=hJ.1;omega) h)
  refine Qh rfl ?_
  exact Qqn rfl (λw' h'=>⟨(),rfl,trivial,by rw[symM,if_pos om,hE9];obtain rfl:k=i-1:=om;rw[Nat.sub_self]at hR2;rw[show i-1-x=i-1-x from rfl,<-hR2];exact h'⟩)
 refine aT7 ?_
 refine Qf (show _=Value.int .i64 ((y-m:Nat):Int)from by first|rfl|(congr 1;omega)) (aU2 ?_)
 refine sCd rfl (λh5=>?_) λh5=>?_
 ·refine Zg ?_
  refine Qe (L':=[(0,_),(1,_),(2,_),(3,_),(4,_),(14,_),(15,_)]) aSx (λ_ h=>h) ?_
  refine Qo (α:=Nat×Nat×Nat) [14,15,16,83,84,85,86,87,88,89,90,91,92,93,94,95,96,97,98,99,100,101,102,103,104,105,106] (λz=>[(14,.int .i64 (z.2.1:Int)),(15,.int .i64 (z.2.2:Int))]) (λ_=>HS w [b] [.blk b 27 tot ((I).flatMap (sV l))]) (λz=>x<=z.2.1/\z.2.1<=z.2.2/\z.2.2<=m/\z.2.2-z.2.1<=z.1/\Zh (p2 c I m) z.1 z.2.1 z.2.2=Zh (p2 c I m) (m-x) x m) (λz=>z.1) (m-x,x,m) ⟨Nat.le_refl _,by(try simp only[]);omega,Nat.le_refl _,by(try simp only[]);omega,rfl⟩ aSx (λw h=>h.ent aEt) (λ⟨f9,i,j⟩hz=>?_)
  dsimp only
  obtain⟨hi1,hi2,hi3,hi4,hR⟩:=hz
  simp only[]at hi1 hi2 hi3 hi4 hR
  refine aU7 ?_
  refine sCd rfl (λh6=>?_) λh6=>?_
  ·obtain⟨g9,rfl,hS9⟩:=QeE (p:=p2 c I m) (show i<j by omega) hi4
   refine aT7 ?_
   refine o_p (Qm rfl rfl Yn Qa6) rfl ?_
   rw[show IntKind.u64.wrap ((i:Int)+(j:Int))=((i+j:Nat):Int)from Qge _ om]
   refine o_p (Qbl rfl rfl rfl (by decide) 1 rfl) rfl (o_p (Qm rfl rfl Qa6 Yn) rfl ?_)
   try refine oWr ?_
   refine Qf (show _=Value.int .i64 (((i+j)/2:Nat):Int)from by congr 1) (aU3 ?_)
   refine Qu [] QG ?_
   refine dP 0 ?_
   refine dP 1 ?_
   refine dP 2 ?_
   refine dV 3 rfl (Qa rfl rfl rfl Qy (m) om om rfl) (dQ 4 [] rfl (QU _ rfl rfl Xb rfl (λw h=>Yw (XJ l) h aPk (k:=m) (by have h9:=hI.1;omega))) (dP 5 ?_))
   refine dP 6 ?_
   refine dV 7 rfl (Qa rfl rfl rfl Qy ((i+j)/2) om om rfl) (dQ 8 [] rfl (QU _ rfl rfl Xb rfl (λw h=>Yw (XJ l) h aPk (k:=(i+j)/2) (by have h9:=hI.1;omega))) (dQ 9 [] rfl (Xj rfl rfl hq rfl (λw1 h1=>hc (I.getD (m) 0) (I.getD ((i+j)/2) 0) w1 (hI.get om) (hI.get om) (h0.trans1 h1))) (dP 10 ?_)))
   refine dP 11 ?_
   refine dNi ?_
   refine sCd rfl (λh7=>?_) λh7=>?_
   ·refine aT3 ?_
    refine aU3 ?_
    exact sBk (g9,(i+j)/2+1,j) (by(try simp only[]);omega) ⟨by(try simp only[]);omega,by(try simp only[]);omega,hi3,by(try simp only[]);omega,by rw[<-hR,hS9,if_pos (by unfold p2;simpa using h7)]⟩ (by refine Zm (congrArg (λe=>some (Value.int .i64 e)) (show(((i+j)/2:Nat):Int)+1=(((i+j)/2+1:Nat):Int) by omega)) ?_;repeat (first|exact QdL|refine Zm rfl ?_))
   refine aU5 ?_
   exact sBk (g9,i,(i+j)/2) (by(try simp only[]);omega) ⟨hi1,by(try simp only[]);omega,by(try simp only[]);omega,by(try simp only[]);omega,by rw[<-hR,hS9,if_neg (by unfold p2;simpa using h7)]⟩
  have hE9:Zh (p2 c I m) (m-x) x m=i:=by rw[<-hR,QgZ om]
  refine Qh rfl ?_
  refine aU7 ?_
  refine Qo (α:=Nat×List Nat) [17,108,109,110,111,112,113,114,115,116,117,118,119,120,121,122,123,124,125,126,127,128] (λz=>[(17,.int .i64 (z.1:Int))]) (λz=>HS w [b] [.blk b 27 tot ((z.2).flatMap (sV l))]) (λz=>i<=z.1/\z.1<=m/\Xk N n z.2/\mvL (z.1-i) z.1 z.2=mvL (m-i) m I) (λz=>z.1) (m,I) ⟨by(try simp only[]);omega,Nat.le_refl _,hI,rfl⟩ aSx (λw h=>h.ent aEt) (λ⟨k,J⟩hz=>?_)
  dsimp only
  obtain⟨hk1,hk2,hJ,hR2⟩:=hz
  simp only[]at hk1 hk2 hJ hR2
  refine aU7 ?_
  refine sCd rfl (λh8=>?_) λh8=>?_
  ·refine aU3 ?_
   refine Qu [15,17] QG ?_
   refine dP 0 ?_
   refine dP 1 ?_
   refine dP 2 ?_
   refine dP 3 ?_
   refine dP 4 ?_
   try refine dWr ?_
   refine dP 5 ?_
   refine dP 6 ?_
   refine dP 7 ?_
   try refine dWr ?_
   refine dV 8 rfl (Qa rfl rfl rfl Qy (k-1) om om rfl) (dQ 9 [[],[]] rfl (QU _ rfl rfl Xb rfl (λw h=>Yw (XJ l) h aPk (k:=k-1) (by have h9:=hJ.1;omega))) (dP 10 ?_))
   refine dP 11 ?_
   refine dV 12 rfl (Qa rfl rfl rfl Qy (k) om om rfl) (dQ 13 [[],[]] rfl (QU _ rfl rfl Xb rfl (λw h=>Yw (XJ l) h aPk (k:=k) (by have h9:=hJ.1;omega))) (dV 14 rfl (Qa rfl rfl rfl Qy (k) om om rfl) (Qep 15 rfl (Q8 rfl rfl rfl Xb rfl aPt (by(try rw[Qk]);rw[Qi (XJ l)];have h9:=hJ.1;have h8:(k)*2+2<=n*2:=om;omega) rfl) (by kernel_rfl) (λw h=>h.ent aEt) (λ_ _=>?_))))
   refine dTu [17] ?_
   refine dV 16 rfl (Qa rfl rfl rfl Qy (k-1) om om rfl) (Qep 17 rfl (Q8 rfl rfl rfl Xb rfl aPt (by(try rw[Qk]);rw[Qi (XJ l)];have h9:=hJ.1;have h8:(k-1)*2+2<=n*2:=om;omega) rfl) (by kernel_rfl) (λw h=>h.ent aEt) (λ_ _=>?_))
   refine dTu [] ?_
   refine dNi ?_
   refine aU ?_
   refine Qe (L':=[(0,_),(1,_),(2,_),(3,_),(4,_),(14,_),(15,_),(17,_),(83,_),(84,_),(85,_),(107,_)]) aSx (λ_ h=>h) ?_
   refine aT3 ?_
   refine aU2 ?_
   exact QK (k-1,swp J k (k-1)) (by(try simp only[]);omega) ⟨by(try simp only[]);omega,by(try simp only[]);omega,hJ.swp _ _,by rw[<-hR2,show k-i=(k-1-i)+1 by omega,mvL]⟩ (by refine Zm (congrArg (λe=>some (Value.int .i64 e)) (show(k:Int)-1=((k-1:Nat):Int) by omega)) ?_;repeat (first|exact QdL|refine Zm rfl ?_)) (λw h=>by exact Qfo (vv:=(sV l)) (J:=J) (p:=k) (q:=k-1) (XJ l) (by have h9:=hJ.1;omega) (by have h9:=hJ.1;omega) h)
  refine Qh rfl ?_
  exact Qqn rfl (λw' h'=>⟨(),rfl,trivial,by rw[symM,if_neg om,if_pos om,hE9];obtain rfl:k=i:=om;rw[Nat.sub_self]at hR2;rw[<-hR2];exact h'⟩)
 refine aT6 ?_
 refine o_p (Qm rfl rfl Yn Qa6) rfl ?_
 rw[show IntKind.u64.wrap ((x:Int)+(y:Int))=((x+y:Nat):Int)from Qge _ om]
 refine o_p (Qbl rfl rfl rfl (by decide) 1 rfl) rfl (o_p (Qm rfl rfl Qa6 Yn) rfl ?_)
 try refine oWr ?_
 refine Qf (show _=Value.int .i64 (((x+y)/2:Nat):Int)from by congr 1) ?_
 generalize hmid:(x+y)/2=mid
 refine aT7 ?_
 refine Qf (show _=Value.int .i64 ((mid+m:Nat):Int)from rfl) (QgE ?_)
 refine Qe (L':=[(0,_),(1,_),(2,_),(3,_),(4,_),(18,_),(19,_),(20,_),(21,_),(140,_)]) aSx (λ_ h=>h) ?_
 refine QbX (α:=Nat×Nat) [20,21,141,142,143,144,145,146] (λz=>[(20,.int .i64 (z.1:Int)),(21,.int .i64 (z.2:Int))]) (λz=>(mid<m/\z.1=mid+m-y/\z.2=mid)\/(¬mid<m/\z.1=x/\z.2=m)) ?_ ?_
 ·skip
  refine sCd rfl (λh9=>?_) λh9=>?_
  ·refine aT5 ?_
   refine Qf (show _=Value.int .i64 ((mid+m-y:Nat):Int)from by congr 1;omega) (aU6 ?_)
   exact Qp (mid+m-y,mid) (.inl ⟨om,rfl,rfl⟩) aSx (λw h=>h.ent aEt)
  refine aU9 ?_
  exact Qp (x,m) (.inr ⟨om,rfl,rfl⟩) aSx (λw h=>h.ent aEt)
 intro⟨s0,r0⟩ hz
 dsimp only
 simp only[]at hz
 have hs0:s0=(if mid<m then mid+m-y else x):=by rcases hz with h9|h9<;>simp[h9]
 have hr0:r0=(if mid<m then mid else m):=by rcases hz with h9|h9<;>simp[h9]
 have hsr:x<=s0/\s0<=r0/\r0<=mid/\r0<=m/\mid+m-r0<=y/\mid+m-s0<=y/\mid<y/\x<=mid:=om
 clear hz
 refine aT4 ?_
 refine Qf (show _=Value.int .i64 ((mid+m-1:Nat):Int)from by first|rfl|(congr 1;omega)) (aU4 ?_)
 refine Qo (α:=Nat×Nat×Nat) [20,21,23,149,150,151,152,153,154,155,156,157,158,159,160,161,162,163,164,165,166,167,168,169,170,171,172,173,174] (λz=>[(20,.int .i64 (z.2.1:Int)),(21,.int .i64 (z.2.2:Int))]) (λ_=>HS w [b] [.blk b 27 tot ((I).flatMap (sV l))]) (λz=>s0<=z.2.1/\z.2.1<=z.2.2/\z.2.2<=r0/\z.2.2-z.2.1<=z.1/\Zh (p3 c I (mid+m-1)) z.1 z.2.1 z.2.2=Zh (p3 c I (mid+m-1)) (y-x) s0 r0) (λz=>z.1) (y-x,s0,r0) ⟨Nat.le_refl _,by(try simp only[]);omega,Nat.le_refl _,by(try simp only[]);omega,rfl⟩ aSx (λw h=>h.ent aEt) (λ⟨f9,i,j⟩hz=>?_)
 dsimp only
 obtain⟨hi1,hi2,hi3,hi4,hR⟩:=hz
 simp only[]at hi1 hi2 hi3 hi4 hR
 refine aU7 ?_
 refine sCd rfl (λh10=>?_) λh10=>?_
 ·obtain⟨g9,rfl,hS9⟩:=QeE (p:=p3 c I (mid+m-1)) (show i<j by omega) hi4
  refine aT7 ?_
  refine o_p (Qm rfl rfl Yn Qa6) rfl ?_
  rw[show IntKind.u64.wrap ((i:Int)+(j:Int))=((i+j:Nat):Int)from Qge _ om]
  refine o_p (Qbl rfl rfl rfl (by decide) 1 rfl) rfl (o_p (Qm rfl rfl Qa6 Yn) rfl ?_)
  try refine oWr ?_
  refine Qf (show _=Value.int .i64 (((i+j)/2:Nat):Int)from by congr 1) (aU3 ?_)
  refine Qu [] QG ?_
  refine dP 0 ?_
  refine dP 1 ?_
  refine dP 2 ?_
  refine dP 3 ?_
  refine dP 4 ?_
  try refine dWr ?_
  refine dV 5 rfl (Qa rfl rfl rfl Qy (mid+m-1-(i+j)/2) om om rfl) (dQ 6 [] rfl (QU _ rfl rfl Xb rfl (λw h=>Yw (XJ l) h aPk (k:=mid+m-1-(i+j)/2) (by have h9:=hI.1;omega))) (dP 7 ?_))
  refine dP 8 ?_
  refine dV 9 rfl (Qa rfl rfl rfl Qy ((i+j)/2) om om rfl) (dQ 10 [] rfl (QU _ rfl rfl Xb rfl (λw h=>Yw (XJ l) h aPk (k:=(i+j)/2) (by have h9:=hI.1;omega))) (dQ 11 [] rfl (Xj rfl rfl hq rfl (λw1 h1=>hc (I.getD (mid+m-1-(i+j)/2) 0) (I.getD ((i+j)/2) 0) w1 (hI.get om) (hI.get om) (h0.trans1 h1))) (dP 12 ?_)))
  refine dP 13 ?_
  refine dNi ?_
  refine sCd rfl (λh11=>?_) λh11=>?_
  ·refine Qe (L':=[(0,_),(1,_),(2,_),(3,_),(4,_),(18,_),(19,_),(20,_),(21,_),(22,_),(23,_),(140,_),(147,_),(148,_)]) aSx (λ_ h=>h) ?_
   refine aT3 ?_
   refine aU3 ?_
   exact sBk (g9,(i+j)/2+1,j) (by(try simp only[]);omega) ⟨by(try simp only[]);omega,by(try simp only[]);omega,hi3,by(try simp only[]);omega,by rw[<-hR,hS9,if_pos (by unfold p3;simpa using h11)]⟩ (by refine Zm (congrArg (λe=>some (Value.int .i64 e)) (show(((i+j)/2:Nat):Int)+1=(((i+j)/2+1:Nat):Int) by omega)) ?_;repeat (first|exact QdL|refine Zm rfl ?_))
  refine Qe (L':=[(0,_),(1,_),(2,_),(3,_),(4,_),(18,_),(19,_),(20,_),(21,_),(22,_),(23,_),(140,_),(147,_),(148,_)]) aSx (λ_ h=>h) ?_
  refine aU5 ?_
  exact sBk (g9,i,(i+j)/2) (by(try simp only[]);omega) ⟨hi1,by(try simp only[]);omega,by(try simp only[]);omega,by(try simp only[]);omega,by rw[<-hR,hS9,if_neg (by unfold p3;simpa using h11)]⟩
 have hE9:Zh (p3 c I (mid+m-1)) (y-x) s0 r0=i:=by rw[<-hR,QgZ om]
 have hS:Qay c I x m y=i:=(QnV (c:=c) hmid hs0 hr0).trans hE9
 obtain⟨s,hs9⟩:∃s,s=i:=⟨i,rfl⟩
 subst hs9
 have hsb:x<=s/\s<=m/\s<=mid:=om
 refine Qh rfl ?_
 refine aT5 ?_
 refine Qf (show _=Value.int .i64 ((mid+m-s:Nat):Int)from by first|rfl|(congr 1;omega)) (aU9 ?_)
 refine X0 4 181 185 rfl
  (λhg12 _=>by
   refine aU6 ?_
   exact oJt 4 185)
  (λhg14 _=>by
   refine aU3 ?_
   exact oJf 4 185) ?_
 refine aU ?_
 refine Qe (L':=[(0,_),(1,_),(2,_),(3,_),(4,_),(18,_),(19,_),(20,_),(21,_),(22,_),(24,_),(140,_),(147,_),(148,_),(185,_)]) aSx (λ_ h=>h) ?_
 refine XP (α:=List Nat) [186,187,188,189,190,191] (λ_=>[]) (λz=>HS w [b] [.blk b 27 tot ((z).flatMap (sV l))]) (λz=>Xk N n z/\z=(if s<m/\m<mid+m-s then rot s m (mid+m-s) I else I)) ?_ ?_
 ·skip
  refine sCd rfl (λh16=>?_) λh16=>?_
  ·refine aU6 ?_
   refine o_h (QE (Cs:=[.blk b 27 tot ((I).flatMap (sV l))]) rfl QtE rfl aPs (λw1 h1 hf=>c253 w1 l b n cap tot N I s m (mid+m-s) _ hI hf hn (by have hq:=h16;simp at hq;omega) (by have hq:=h16;simp at hq;omega) om)) rfl (λ_ _=>aU ?_)
   exact Qp (rot s m (mid+m-s) I) ⟨hI.rot,(if_pos (by have hq:=h16;simp at hq;omega)).symm⟩ aSx (λw h=>h.ent aEt)
  refine aU ?_
  exact Qp I ⟨hI,(if_neg (by have hq:=h16;simp at hq;omega)).symm⟩ aSx (λw h=>h.ent aEt)
 intro J1 hz
 obtain⟨hJ1,hV1⟩:=hz
 refine aU7 ?_
 refine X0 4 195 199 rfl
  (λhg17 _=>by
   refine aU6 ?_
   exact oJt 4 199)
  (λhg19 _=>by
   refine aU3 ?_
   exact oJf 4 199) ?_
 refine aU ?_
 refine XP (α:=List Nat) [200,201,202,203,204,205] (λ_=>[]) (λz=>HS w [b] [.blk b 27 tot ((z).flatMap (sV l))]) (λz=>Xk N n z/\z=(if x<s/\s<mid then symM c f x s mid J1 else J1)) ?_ ?_
 ·skip
  refine sCd rfl (λh21=>?_) λh21=>?_
  ·refine aU6 ?_
   refine o_h (QE (Cs:=[.blk b 27 tot ((J1).flatMap (sV l))]) rfl QiJ rfl aPs (λw1 h1 hf=>hrec w1 J1 (x) (s) (mid) hJ1 (h0.trans1 h1) hf (by have hq:=h21;simp at hq;omega) (by have hq:=h21;simp at hq;omega) om om)) rfl (λ_ _=>aU ?_)
   exact Qp (symM c f x s mid J1) ⟨hJ1.symM _ _ _ _,(if_pos (by have hq:=h21;simp at hq;omega)).symm⟩ aSx (λw h=>h.ent aEt)
  refine aU ?_
  exact Qp J1 ⟨hJ1,(if_neg (by have hq:=h21;simp at hq;omega)).symm⟩ aSx (λw h=>h.ent aEt)
 intro J2 hz
 obtain⟨hJ2,hV2⟩:=hz
 refine aU6 ?_
 refine X0 4 209 213 rfl
  (λhg22 _=>by
   refine aU6 ?_
   exact oJt 4 213)
  (λhg24 _=>by
   refine aU3 ?_
   exact oJf 4 213) ?_
 refine aU ?_
 refine Qe (L':=[(0,_),(1,_),(2,_),(3,_),(4,_),(18,_),(19,_),(20,_),(21,_),(22,_),(24,_),(140,_),(147,_),(148,_),(213,_)]) aSx (λ_ h=>h) ?_
 refine XP (α:=List Nat) [214,215,216,217,218,219] (λ_=>[]) (λz=>HS w [b] [.blk b 27 tot ((z).flatMap (sV l))]) (λz=>Xk N n z/\z=(if mid<mid+m-s/\mid+m-s<y then symM c f mid (mid+m-s) y J2 else J2)) ?_ ?_
 ·skip
  refine sCd rfl (λh26=>?_) λh26=>?_
  ·refine aU6 ?_
   refine o_h (QE (Cs:=[.blk b 27 tot ((J2).flatMap (sV l))]) rfl QiJ rfl aPs (λw1 h1 hf=>hrec w1 J2 (mid) ((mid+m-s)) (y) hJ2 (h0.trans1 h1) hf (by have hq:=h26;simp at hq;omega) (by have hq:=h26;simp at hq;omega) om om)) rfl (λ_ _=>aU ?_)
   exact Qp (symM c f mid (mid+m-s) y J2) ⟨hJ2.symM _ _ _ _,(if_pos (by have hq:=h26;simp at hq;omega)).symm⟩ aSx (λw h=>h.ent aEt)
  refine aU ?_
  exact Qp J2 ⟨hJ2,(if_neg (by have hq:=h26;simp at hq;omega)).symm⟩ aSx (λw h=>h.ent aEt)
 intro J3 hz
 obtain⟨hJ3,hV3⟩:=hz
 exact Za rfl (λw' h'=>⟨(),rfl,trivial,by rw[symM,if_neg om,if_neg om,hmid,hS,<-hV1];unfold symR;rw[<-hV2,<-hV3];exact h'⟩)
theorem Qug(l:List TEnt)(b n cap tot N:Nat)(w00:World)(q:Nat)(cv:Array Value)(c:Nat->Nat->Int)(hn:n<=1000000)(hq:QQ Tryz.prog q=true)(hc:∀p p1 w1,p<N->p1<N->HS w00 [b] [] w1->Calls Tryz.prog q (#[]++[.agg (sV l (p)).toArray,.agg (sV l (p1)).toArray].toArray++cv) w1 λen w2=>en=.returned (.int .i64 (c p p1))/\Below w1.heap.size w1 w2):∀(f:Nat)(w:World)(I:List Nat)(x m y:Nat),Xk N n I->HS w00 [b] [] w->HS w [b] [.blk b 27 tot ((I).flatMap (sV l))] w->x<m->m<y->y<=n->y-x<=f->Calls Tryz.prog 223 #[.slice (some ⟨b,0,none⟩) n cap,.int .i64 (x:Int),.int .i64 (m:Int),.int .i64 (y:Int),.func (.func q) #[] cv] w λen w'=>∃g:Unit,en=.returned (.tuple #[])/\True/\HS w [b] [.blk b 27 tot ((symM c f x m y I).flatMap (sV l))] w'
  | 0,w,I,x,m,y,hI,h0,hw,hxm,hmy,hy,hf=>by omega
  | f+1,w,I,x,m,y,hI,h0,hw,hxm,hmy,hy,hf=>QvJ w l b n cap tot N I f x m y w00 q cv c hI hw hn hxm hmy hy hf h0 hq hc λw1 J x1 m1 y1 hJ h01 hw1 hx hm hy1 hf1=>Qug l b n cap tot N w00 q cv c hn hq hc f w1 J x1 m1 y1 hJ h01 hw1 hx hm hy1 hf1
set_option maxHeartbeats 4000000 in
theorem c177(w:World)(l:List TEnt)(b n cap tot N:Nat)(I:List Nat)(w00:World)(q:Nat)(cv:Array Value)(c:Nat->Nat->Int)(hI:Xk N n I)(hw:HS w [b] [.blk b 27 tot ((I).flatMap (sV l))] w)(hn:n<=1000000)(h0:HS w00 [b] [] w)(hq:QQ Tryz.prog q=true)(hc:∀p p1 w1,p<N->p1<N->HS w00 [b] [] w1->Calls Tryz.prog q (#[]++[.agg (sV l (p)).toArray,.agg (sV l (p1)).toArray].toArray++cv) w1 λen w2=>en=.returned (.int .i64 (c p p1))/\Below w1.heap.size w1 w2):CE 177 #[.slice (some ⟨b,0,none⟩) n cap,.int .i64 (n:Int),.func (.func q) #[] cv] w [b] (λg:Unit=>.tuple #[]) (λg=>True) λg=>[.blk b 27 tot ((stab c n I).flatMap (sV l))]:=by
 refine eW3 Tryz.func177 Tryz.ntmps177 hw ?_
 refine Zg ?_
 refine Qo (α:=Nat×Nat×List Nat) [7,8,11,12,13,14,15,16,17,18,19,20,21,22] (λz=>[(7,.int .i64 (z.2.1:Int)),(8,.int .i64 ((z.2.1+20:Nat):Int))]) (λz=>HS w [b] [.blk b 27 tot ((z.2.2).flatMap (sV l))]) (λz=>z.2.1<=n/\n-z.2.1<=z.1/\Xk N n z.2.2/\stI c n z.1 z.2.1 z.2.2=stI c n n 0 I) (λz=>z.1) (n,0,I) ⟨Nat.zero_le _,Nat.sub_le _ _,hI,rfl⟩ aSx (λw h=>h.ent aEt) (λ⟨f9,a,J⟩hz=>?_)
 dsimp only
 obtain⟨ha,hf9,hJ,hR⟩:=hz
 simp only[]at ha hf9 hJ hR
 refine aU7 ?_
 refine sCd rfl (λh1=>?_) λh1=>?_
 ·refine aU8 ?_
  refine o_h (QE (Cs:=[.blk b 27 tot ((J).flatMap (sV l))]) rfl QkS rfl aPs (λw1 h1 hf=>c222 w1 l b n cap tot N J (a) (a+20) w00 q cv c hJ hf hn om om (h0.trans1 h1) hq hc)) rfl (λ_ _=>QjE ?_)
  refine aU3 ?_
  obtain⟨g9,rfl⟩:∃g,f9=g+1:=⟨f9-1,om⟩
  exact sBk (g9,a+20,ins c a (a+20) J) (by(try simp only[]);omega) ⟨by(try simp only[]);omega,by(try simp only[]);omega,hJ.ins,by rw[<-hR,stI,if_pos om]⟩ (by refine Zm rfl ?_;refine Zm (congrArg (λe=>some (Value.int .i64 e)) (show _=((a+20+20:Nat):Int) by(try simp only[]);omega)) ?_;repeat (first|exact QdL|refine Zm rfl ?_))
 have hE9:ins c a n J=stI c n n 0 I:=by rw[<-hR];cases f9 with|zero=>rfl|succ f9=>rw[stI,if_neg om]
 refine Qh rfl ?_
 refine aU6 ?_
 refine o_h (QE (Cs:=[.blk b 27 tot ((J).flatMap (sV l))]) rfl QkS rfl aPs (λw1 h1 hf=>c222 w1 l b n cap tot N J (a) (n) w00 q cv c hJ hf hn om om (h0.trans1 h1) hq hc)) rfl (λ_ _=>aU2 ?_)
 rw[hE9]
 refine Qo (α:=Nat×Nat×List Nat) [6,7,8,9,28,29,30,31,32,33,34,35,36,37,38,39,40,41,42,43,44,45,46,47,48,49,50,51,52,53,54,55,56,57,58,59,60,61,62] (λz=>[(6,.int .i64 (z.2.1:Int))]) (λz=>HS w [b] [.blk b 27 tot ((z.2.2).flatMap (sV l))]) (λz=>0<z.2.1/\z.2.1<=20+2*n/\n<=z.2.1+z.1/\Xk N n z.2.2/\Qip c n z.1 z.2.1 z.2.2=Qip c n n 20 (stI c n n 0 I)) (λz=>z.1) (n,20,stI c n n 0 I) ⟨by(try simp only[]);omega,by(try simp only[]);omega,by(try simp only[]);omega,hI.stI _ _,rfl⟩ aSx (λw h=>h.ent aEt) (λ⟨f8,bs,J⟩hz=>?_)
 dsimp only
 clear hJ hR hE9
 obtain⟨hb1,hb2,hf8,hJ,hR2⟩:=hz
 simp only[]at hb1 hb2 hf8 hJ hR2
 refine aU7 ?_
 refine sCd rfl (λh2=>?_) λh2=>?_
 ·obtain⟨f9,rfl⟩:∃g,f8=g+1:=⟨f8-1,om⟩
  refine aT6 ?_
  refine Qf (show _=Value.int .i64 ((2*bs:Nat):Int)from by first|rfl|(congr 1;omega)) (aU5 ?_)
  refine Qo (α:=Nat×Nat×List Nat) [7,8,33,34,35,36,37,38,39,40,41,42,43,44,45,46,47,48] (λz=>[(7,.int .i64 (z.2.1:Int)),(8,.int .i64 ((z.2.1+2*bs:Nat):Int))]) (λz=>HS w [b] [.blk b 27 tot ((z.2.2).flatMap (sV l))]) (λz=>z.2.1<=n/\n-z.2.1<=z.1/\Xk N n z.2.2/\stP c n bs z.1 z.2.1 z.2.2=stP c n bs n 0 J) (λz=>z.1) (n,0,J) ⟨Nat.zero_le _,Nat.sub_le _ _,hJ,rfl⟩ (by refine Zm rfl ?_;refine Zm (congrArg (λe=>some (Value.int .i64 e)) (show _=((0+2*bs:Nat):Int) by(try simp only[]);omega)) ?_;repeat (first|exact QdL|refine Zm rfl ?_)) (λw h=>h.ent aEt) (λ⟨f7,a,K⟩hz=>?_)
  dsimp only
  obtain⟨ha,hf7,hK,hR3⟩:=hz
  simp only[]at ha hf7 hK hR3
  refine aU7 ?_
  refine sCd rfl (λh3=>?_) λh3=>?_
  ·refine aT9 ?_
   refine Qf (show _=Value.int .i64 ((a+bs:Nat):Int)from by first|rfl|(congr 1;omega)) (aU2 ?_)
   refine o_h (QE (Cs:=[.blk b 27 tot ((K).flatMap (sV l))]) rfl QiJ rfl aPs (λw1 h1 hf=>Qug l b n cap tot N w00 q cv c hn hq hc n w1 K (a) (a+bs) (a+2*bs) hK (h0.trans1 h1) hf om om om om)) rfl (λ_ _=>aU2 ?_)
   refine Qe (L':=[(0,_),(1,_),(2,_),(6,_),(7,_),(8,_),(10,_),(11,_),(12,_),(13,_),(23,_),(24,_),(25,_),(26,_),(27,_),(28,_),(29,_),(30,_),(31,_),(32,_)]) aSx (λ_ h=>h) ?_
   refine aT8 ?_
   refine Qf (show _=Value.int .i64 ((2*bs:Nat):Int)from by first|rfl|(congr 1;omega)) (aT ?_)
   refine aU3 ?_
   obtain⟨g7,rfl⟩:∃g,f7=g+1:=⟨f7-1,om⟩
   exact sBk (g7,a+2*bs,symM c n a (a+bs) (a+2*bs) K) (by(try simp only[]);omega) ⟨by(try simp only[]);omega,by(try simp only[]);omega,hK.symM _ _ _ _,by rw[<-hR3,stP,if_pos om]⟩ (by refine Zm rfl ?_;refine Zm (congrArg (λe=>some (Value.int .i64 e)) (show _=((a+2*bs+2*bs:Nat):Int) by(try simp only[]);omega)) ?_;repeat (first|exact QdL|refine Zm rfl ?_))
  refine Qh rfl ?_
  refine aT6 ?_
  refine Qf (show _=Value.int .i64 ((a+bs:Nat):Int)from by first|rfl|(congr 1;omega)) (aU8 ?_)
  refine XP (α:=List Nat) [55,56,57,58,59,60] (λ_=>[]) (λz=>HS w [b] [.blk b 27 tot ((z).flatMap (sV l))]) (λz=>Xk N n z/\z=stP c n bs n 0 J) ?_ ?_
  ·skip
   refine sCd rfl (λh4=>?_) λh4=>?_
   ·refine aU6 ?_
    refine o_h (QE (Cs:=[.blk b 27 tot ((K).flatMap (sV l))]) rfl QiJ rfl aPs (λw1 h1 hf=>Qug l b n cap tot N w00 q cv c hn hq hc n w1 K (a) (a+bs) (n) hK (h0.trans1 h1) hf om om om om)) rfl (λ_ _=>aU ?_)
    exact Qp (symM c n a (a+bs) n K) ⟨hK.symM _ _ _ _,by rw[<-hR3];cases f7 with|zero=>omega|succ f7=>rw[stP,if_neg om,if_pos om]⟩ aSx (λw h=>h.ent aEt)
   refine aU ?_
   exact Qp K ⟨hK,by rw[<-hR3];cases f7 with|zero=>rfl|succ f7=>rw[stP,if_neg om,if_neg om]⟩ aSx (λw h=>h.ent aEt)
  intro Z hz
  obtain⟨hZ,hV⟩:=hz
  refine Qe (L':=[(0,_),(1,_),(2,_),(6,_),(7,_),(8,_),(10,_),(11,_),(12,_),(13,_),(23,_),(24,_),(25,_),(26,_),(27,_),(28,_),(29,_),(30,_),(31,_),(32,_)]) aSx (λ_ h=>h) ?_
  refine aT3 ?_
  refine Qf (show _=Value.int .i64 ((2*bs:Nat):Int)from by first|rfl|(congr 1;omega)) (aU3 ?_)
  exact sBk (f9,2*bs,Z) (by(try simp only[]);omega) ⟨by(try simp only[]);omega,by(try simp only[]);omega,by(try simp only[]);omega,hZ,by rw[<-hR2,Qip,if_pos om,hV]⟩
 have hE8:J=stab c n I:=by unfold stab;rw[<-hR2];cases f8 with|zero=>rfl|succ f8=>rw[Qip,if_neg om]
 refine Qh rfl ?_
 exact Za rfl (λw' h'=>⟨(),rfl,trivial,by rw[<-hE8];exact h'⟩)
theorem c118(w:World)(l:List TEnt)(b n cap tot N:Nat)(I:List Nat)(w00:World)(q:Nat)(cv:Array Value)(c:Nat->Nat->Int)(hI:Xk N n I)(hw:HS w [b] [.blk b 27 tot ((I).flatMap (sV l))] w)(hn:n<=1000000)(h0:HS w00 [b] [] w)(hq:QQ Tryz.prog q=true)(hc:∀p p1 w1,p<N->p1<N->HS w00 [b] [] w1->Calls Tryz.prog q (#[]++[.agg (sV l (p)).toArray,.agg (sV l (p1)).toArray].toArray++cv) w1 λen w2=>en=.returned (.int .i64 (c p p1))/\Below w1.heap.size w1 w2):CE 118 #[.slice (some ⟨b,0,none⟩) n cap,.func (.func q) #[] cv] w [b] (λg:Unit=>.tuple #[]) (λg=>True) λg=>[.blk b 27 tot ((stab c n I).flatMap (sV l))]:=by
 refine eW2 Tryz.func118 Tryz.ntmps118 hw ?_
 refine aU5 ?_
 refine o_h (QE (Cs:=[.blk b 27 tot ((I).flatMap (sV l))]) rfl QpT rfl aPs (λw1 h1 hf=>c177 w1 l b n cap tot N I w00 q cv c hI hf hn (h0.trans1 h1) hq hc)) rfl (λ_ _=>aU ?_)
 exact Za rfl (λw' h'=>⟨(),rfl,trivial,h'⟩)
end Go.Proofs
namespace Gx
open Go Go.RowKit
section
variable{w0 w:World}{M:List Nat}{As As':List HA}{b t tot:Nat}{l:List TEnt}
theorem QiR(h:HS w0 M As w)(hp:QD As (.blk b t tot (l.flatMap TEnt.vals)) As'){k:Nat}(hk:k<l.length):∀j v,(TEnt.vals (nth l k))[j]?=some v->Rd w [] b (0+k*2+j) v:=λj v hj=>by
 have hlt:j<2:=by
  rcases Nat.lt_or_ge j (TEnt.vals (nth l k)).length with h|h
  ·exact h
  ·rw[List.getElem?_eq_none h]at hj;cases hj
 rw[Nat.zero_add];exact h.rd_blk (Mc:=[]) hp (by rw[QaI ev2 l k j _ (QV hk) hlt];exact hj) (by simp)
theorem Qfs(h:HS w0 M As w)(hp:QD As (.blk b t tot (l.flatMap TEnt.vals)) As'){k o:Nat}{x:TEnt}(hk:k<l.length)(ho:o=k*2)(hx:nth l k=x):∀j v,(TEnt.vals x)[j]?=some v->Rd w [] b (o+j) v:=by
 subst hx ho;intro j v hv;have h9:=QiR h hp hk j v hv
 rwa[Nat.zero_add]at h9
theorem Qvu(h:HS w0 M As w)(hp:QD As (.blk b t tot (l.flatMap TEnt.vals)) As'):Rw TEnt.vals 2 w [] (some ⟨b,0,none⟩) l:=⟨λh0=>⟨b,0,rfl,λi hi=>⟨rfl,λj v hv=>QiR h hp hi j v hv⟩⟩⟩
end
theorem Qr9{l:List TEnt}{i:Nat}(hi:i<l.length)(x:TEnt):Qq (l.flatMap TEnt.vals) (0+i*2) (TEnt.vals x)=(l.set i x).flatMap TEnt.vals:=by
 have h:=Z2 ev2 l i 0 (TEnt.vals x) (nth l i) x (QV hi) rfl (by simp[TEnt.vals])
 rwa[Nat.add_zero,<-Nat.zero_add (i*2)]at h
theorem QsQ{l:List TEnt}{i:Nat}(hi:i<=l.length){zs:List Value}(hz:zs.length=(l.length-i)*2):Qq (l.flatMap TEnt.vals) (i*2) zs=(l.take i).flatMap TEnt.vals++zs:=by
 have hl:=Qi ev2 l;have ht:((l.take i).flatMap TEnt.vals).length=i*2:=by rw[Qi ev2,List.length_take];omega
 rw[Qaz _ _ _ om];have e:l.flatMap TEnt.vals=(l.take i).flatMap TEnt.vals++(l.drop i).flatMap TEnt.vals:=by rw[<-List.flatMap_append,List.take_append_drop]
 rw[List.drop_eq_nil_of_le om,List.append_nil];congr 1;rw[e,List.take_left' ht]
def Qdn(K l:List TEnt):List TEnt:=K++l.drop K.length
theorem Y0{K l:List TEnt}(h:K.length<=l.length):(Qdn K l).length=l.length:=by
 unfold Qdn;rw[List.length_append,List.length_drop];omega
theorem Qeo{K l:List TEnt}{j:Nat}(h:K.length<=j)(hj:j<l.length):nth (Qdn K l) j=nth l j:=by
 apply QS;unfold Qdn;rw[List.getElem?_append_right h,List.getElem?_drop,show K.length+(j-K.length)=j by omega];exact QV hj
theorem QoZ{K l:List TEnt}(h:K.length<l.length)(x:TEnt):(Qdn K l).set K.length x=Qdn (K++[x]) l:=by
 unfold Qdn;rw[List.drop_eq_getElem_cons h,List.set_append_right _ _ (Nat.le_refl _),Nat.sub_self,List.set_cons_zero,List.length_append,List.length_singleton,List.append_assoc];rfl
theorem Qhg(l:List TEnt)(i:Nat):Qdn (l.take i) l=l:=by
 unfold Qdn;rw[List.length_take];rcases Nat.le_total i l.length with h|h
 ·rw[Nat.min_eq_left h,List.take_append_drop]
 ·rw[Nat.min_eq_right h,List.drop_length,List.append_nil,List.take_of_length_le h]
theorem Qrz(K l:List TEnt):(Qdn K l).take K.length=K:=by
 unfold Qdn;rw[List.take_left' rfl]
section
variable{w0 w:World}{M:List Nat}{As As':List HA}{b t tot:Nat}{K l:List TEnt}{x:TEnt}{zs:List Value}
theorem QjW(hK:K.length<l.length)(hp:QD As (.blk b t tot (Qq ((Qdn K l).flatMap TEnt.vals) (0+K.length*2) (TEnt.vals x))) As')(h:HS w0 M As w):HS w0 M (.blk b t tot ((Qdn (K++[x]) l).flatMap TEnt.vals)::As') w:=by
 have h1:=h.pick hp;rw[Qr9 (by rw[Y0 om];exact hK),QoZ hK]at h1;exact h1
theorem Qkw(h:HS w0 M As w)(hp:QD As (.blk b t tot (Qq ((Qdn K l).flatMap TEnt.vals) (K.length*2) zs)) As')(hK:K.length<=l.length)(hz:zs.length=(l.length-K.length)*2):HS w0 M (.blk b t tot (K.flatMap TEnt.vals)::As') w:=by
 have h1:=h.pick hp;rw[QsQ (by rw[Y0 hK];exact hK) (by rw[Y0 hK];exact hz),Qrz]at h1;exact HS.blk_less .here h1
end
def kpt(p:TEnt->Bool)(l:List TEnt)(j:Nat):List TEnt:=(l.take j).filter λx=>!p x
section
variable{p:TEnt->Bool}{l:List TEnt}{j:Nat}
theorem Qsf:(kpt p l j).length<=j/\(kpt p l j).length<=l.length:=by
 have:=List.length_filter_le (λx=>!p x) (l.take j);rw[List.length_take]at this;unfold kpt;omega
theorem QjO(hj:j<l.length):kpt p l (j+1)=if p (nth l j)=true then kpt p l j else kpt p l j++[nth l j]:=by
 unfold kpt;rw[List.take_add_one,QV hj,List.filter_append]
 by_cases h:p (nth l j)=true
 ·simp[h]
 ·simp[h]
theorem Qh0:kpt p l l.length=l.filter λx=>!p x:=by unfold kpt;rw[List.take_length]
theorem QjB(h:∀k,k<j->p (nth l k)=false)(hj:j<=l.length):kpt p l j=l.take j:=by
 unfold kpt;rw[List.filter_eq_self];intro x hx;obtain⟨i,hi,rfl⟩:=List.getElem_of_mem hx;rw[List.length_take]at hi;have h1:=h i om;rw[List.getElem_take];rw[show nth l i=l[i]from QS (List.getElem?_eq_getElem om)]at h1;rw[h1];rfl
end
theorem Qtv(bt:List Bool):(ixI bt= -1/\∀k,k<bt.length->bt.getD k false=false)\/∃i,i<bt.length/\ixI bt=(i:Int)/\bt.getD i false=true/\∀k,k<i->bt.getD k false=false:=by
 have key:∀l:List Bool,(∀k,k<ixB l->l.getD k false=false)/\(ixB l<l.length->l.getD (ixB l) false=true):=λl=>by
  induction l with
  | nil=>exact⟨λk hk=>by simp[ixB]at hk,λh=>by simp at h⟩
  | cons a l ih=>
   rw[ixB];cases a with
   | true=>exact⟨λk hk=>by simp at hk,λ_=>by simp⟩
   | false=>
    refine⟨λk hk=>?_,λh=>?_⟩
    ·cases k with
     | zero=>rfl
     | succ k=>simpa using ih.1 k (by simpa using hk)
    ·simpa using ih.2 (by simpa using h)
 obtain⟨h1,h2⟩:=key bt;unfold ixI;split
 ·rename_i h;exact .inr ⟨ixB bt,h,rfl,h2 h,h1⟩
 ·rename_i h;exact .inl ⟨rfl,λk hk=>h1 k om⟩
def cpT(e:TEnt->TEnt->Bool)(l:List TEnt):Nat->List TEnt
 | 0=>[]
 | j+1=>if j≠0/\e (nth l j) (nth l (j-1))=true then cpT e l j else cpT e l j++[nth l j]
section
variable{e:TEnt->TEnt->Bool}{l:List TEnt}
theorem Qmm:∀j,(cpT e l j).length<=j
 | 0=>Nat.le_refl _
 | j+1=>by
  have:=Qmm j;rw[cpT];split
  ·omega
  ·rw[List.length_append,List.length_singleton];omega
theorem QoK{j:Nat}(hj:j<l.length)(h:j=0\/¬e (nth l j) (nth l (j-1))=true)(ht:cpT e l j=l.take j):cpT e l (j+1)=l.take (j+1):=by
 rw[cpT,if_neg (λh9=>h.elim h9.1 λh8=>h8 h9.2),ht,List.take_add_one,QV hj];rfl
theorem QlZ{j:Nat}(h0:j≠0)(h:e (nth l j) (nth l (j-1))=true):cpT e l (j+1)=cpT e l j:=by rw[cpT,if_pos ⟨h0,h⟩]
theorem QsI{j:Nat}(h:¬e (nth l j) (nth l (j-1))=true):cpT e l (j+1)=cpT e l j++[nth l j]:=by rw[cpT,if_neg λh9=>h h9.2]
end
theorem Qob{e:TEnt->TEnt->Bool}{l:List TEnt}(h:l.length<2):cpT e l l.length=l:=by
 match l,h with
 | [],_=>rfl
 | [x],_=>rfl
theorem QhO{c:Nat->Nat->Int}{a:Nat}:∀(l:List Nat)(p:Nat),Qbd c p (l++[a])=if c a (l.getLastD p)=0 then Qbd c p l else Qbd c p l++[a]
 | [],p=>by simp[Qbd]
 | b::l,p=>by
  rw[List.cons_append,Qbd,Qbd,QhO l b,List.getLastD_cons];generalize l.getLastD b=z
  by_cases h1:c b p=0<;>by_cases h2:c a z=0<;>simp only[h1,h2,if_true,if_false,List.cons_append]
theorem QqY(co:Int)(l:List TEnt)(S:List Nat):∀j,j<=S.length->cpT (λx y=>decide (QN co x.key y.key=0)) (S.map (nth l)) j=(cpt (cI co l) (S.take j)).map (nth l)
 | 0,_=>rfl
 | j+1,hj=>by
  have hn:∀k,k<S.length->nth (S.map (nth l)) k=nth l (S.getD k 0):=λk hk=>by
   apply QS;rw[List.getElem?_map,List.getElem?_eq_getElem hk,List.getD_eq_getElem?_getD,List.getElem?_eq_getElem hk];rfl
  rw[cpT,QqY co l S j om,List.take_add_one,List.getElem?_eq_getElem (show j<S.length by omega),hn j om];have hg:S.getD j 0=S[j]:=by rw[List.getD_eq_getElem?_getD,List.getElem?_eq_getElem (show j<S.length by omega)];rfl
  cases j with
  | zero=>
   rw[if_neg (λh=>h.1 rfl),hg];rfl
  | succ j=>
   rw[hn (j+1-1) om,Nat.add_sub_cancel];cases hS:S.take (j+1)with
   | nil=>
    have:=congrArg List.length hS;rw[List.length_take]at this;simp only[List.length_nil]at this;omega
   | cons a r=>
    have hl:r.getLastD a=S.getD j 0:=by
     have h1:(S.take (j+1)).getLastD 0=S.getD j 0:=by
      rw[List.getLastD_eq_getLast?,List.getLast?_take];simp[List.getElem?_eq_getElem (show j<S.length by omega)]
     rw[hS,List.getLastD_cons]at h1;exact h1
    show _=((a::Qbd (cI co l) a (r++[S[j+1]])).map (nth l));rw[QhO,hl,<-hg]
    by_cases h2:QN co (nth l (S.getD (j+1) 0)).key (nth l (S.getD j 0)).key=0
    ·rw[if_pos ⟨om,decide_eq_true h2⟩,if_pos (show cI co l (S.getD (j+1) 0) (S.getD j 0)=0 from h2)];rfl
    ·rw[if_neg (λh=>h2 (of_decide_eq_true h.2)),if_neg (show¬cI co l (S.getD (j+1) 0) (S.getD j 0)=0 from h2)];simp[cpt]
end Gx
namespace Go.Proofs
open Go Go.RowKit Gx
attribute [local irreducible] Go.Calls Gx.S Gx.O Gx.D Gx.OpP Gx.OpQ Gx.OpH
set_option maxRecDepth 20000
theorem Qqi:tsz Tryz.prog 174=some (1,false):=by kernel_rfl
instance:TSz Tryz.prog 174 1 false:=⟨Qqi⟩
theorem Qo5:QQ Tryz.prog 117=true:=by kernel_rfl
theorem c116(w:World)(b4:Nat)(co:Int)(x:TEnt)(hb:Rd w [] b4 3 (.int .i64 co))(hco:QC co=0)(hx:x.key.length<=1000000):CR 116 #[.agg #[.string (bs x.key),.string (bs x.val)],.pointer (some ⟨b4,0,none⟩)] w (.bool (!QL co x.key)):=by
 refine eN2 Tryz.func116 Tryz.ntmps116 ?_
 refine aU2 ?_
 refine oBx λb1 _=>?_
 refine aU6 ?_
 refine o_q (Qc rfl rfl Ye (hb)) rfl (aU4 ?_)
 refine oCq rfl (λw1 h1=>c58 w1 co x.key x.key hx hx) (Zg ?_)
 exact rV (h:=by simp only[Q3];congr 2;unfold Qbw;rw[if_pos hco];unfold X3;cases QL co x.key<;>rfl)
theorem c117(w:World)(b4:Nat)(co:Int)(x y:TEnt)(hb:Rd w [] b4 3 (.int .i64 co))(hco:QC co=0)(hx:x.key.length<=1000000)(hy:y.key.length<=1000000)(hkx:QL co x.key=true)(hky:QL co y.key=true):CR 117 #[.agg #[.string (bs x.key),.string (bs x.val)],.agg #[.string (bs y.key),.string (bs y.val)],.pointer (some ⟨b4,0,none⟩)] w (.int .i64 (QN co x.key y.key)):=by
 refine eN3 Tryz.func117 Tryz.ntmps117 ?_
 refine aU2 ?_
 refine oBx λb1 _=>?_
 refine oBx λb2 _=>?_
 refine aU6 ?_
 refine o_q (Qc rfl rfl Ye (hb)) rfl (aU4 ?_)
 refine oCq rfl (λw1 h1=>c58 w1 co x.key y.key hx hy) (Zw ?_)
 exact rV (h:=by simp only[Q3];rw[if_pos];unfold Qbw X3;rw[if_pos hco,if_pos hkx];simp[hky])
theorem c120(w:World)(b10 b4:Nat)(co:Int)(x y:TEnt)(hb10:Rd w [] b10 0 (.func (.func 117) #[] #[.pointer (some ⟨b4,0,none⟩)]))(hb:Rd w [] b4 3 (.int .i64 co))(hco:QC co=0)(hx:x.key.length<=1000000)(hy:y.key.length<=1000000)(hkx:QL co x.key=true)(hky:QL co y.key=true):CR 120 #[.agg #[.string (bs x.key),.string (bs x.val)],.agg #[.string (bs y.key),.string (bs y.val)],.pointer (some ⟨b10,0,none⟩)] w (.bool (decide (QN co x.key y.key=0))):=by
 refine eN3 Tryz.func120 Tryz.ntmps120 ?_
 refine aU2 ?_
 refine oBx λb1 _=>?_
 refine oBx λb2 _=>?_
 refine aU4 ?_
 refine o_q (Qc rfl rfl Qqi (hb10)) rfl (aU2 ?_)
 refine o_q (Xj rfl rfl Qo5 rfl (λw1 h1=>c117 w1 b4 co x y (hb.next h1) hco hx hy hkx hky)) rfl (aU3 ?_)
 exact rV
theorem c115(w:World)(b cap tot:Nat)(l:List TEnt)(w00:World)(q:Nat)(cv:Array Value)(p:TEnt->Bool)(h0:HS w00 [b] [] w)(hw:HS w [b] [.blk b 27 tot (l.flatMap TEnt.vals)] w)(hn:l.length<=1000000)(hnc:l.length<=cap)(hq:QQ Tryz.prog q=true)(hc:∀x w1,x∈l->HS w00 [b] [] w1->Calls Tryz.prog q (#[]++[.agg (TEnt.vals (x)).toArray].toArray++cv) w1 λen w2=>en=.returned (.bool (p x))/\Below w1.heap.size w1 w2):CE 115 #[.slice (some ⟨b,0,none⟩) l.length cap,.func (.func q) #[] cv] w [b] (λg:Unit=>.slice (some ⟨b,0,none⟩) (l.filter λx=>!p x).length cap) (λg=>True) λg=>[.blk b 27 tot ((l.filter λx=>!p x).flatMap TEnt.vals)]:=by
 have hix:=Qtv (l.map p)
 rw[List.length_map]at hix
 have hg9:∀k,k<l.length->(l.map p).getD k false=p (nth l k):=λk hk=>YX (d:=default) hk
 refine eW2 Tryz.func115 Tryz.ntmps115 hw ?_
 refine aU8 ?_
 refine oCq rfl (λw1 h1=>QuN w1 (some ⟨b,0,none⟩) cap l q cv (l.map p) (Qvu h1 aPk) hn hq (by simp) (λk w2 hk h2=>by rw[hg9 k hk];exact hc (nth l k) w2 (Qz hk) ((h0.trans1 h1).call h2))) (aU8 ?_)
 refine sCd rfl (λh1=>?_) λh1=>?_
 ·have hfl:(l.filter λx=>!p x)=l:=by rw[<-Qh0,QjB (λk hk=>?_) (Nat.le_refl _),List.take_length];rcases hix with h9|⟨i,h9,h8,_⟩;rw[<-hg9 k hk];exact h9.2 k hk;have hq8:=h1;omega
  refine aU5 ?_
  exact rT rfl rfl (λw' h'=>⟨(),by rw[hfl];rfl,trivial,by rw[hfl];exact h'.ent aEt⟩)
 obtain⟨i,hil,hie,hip,hin⟩:=hix.resolve_left (λh9=>h1 h9.1)
 rw[hie]
 have hki2:(kpt p l (i+1))=l.take i:=by rw[QjO hil,<-hg9 i hil,if_pos hip,QjB (λk hk=>by rw[<-hg9 k om];exact hin k hk) om]
 have hki:(kpt p l (i+1)).length=i:=by rw[hki2,List.length_take];omega
 refine aT6 ?_
 refine aU3 ?_
 refine Qo (α:=Nat) [5,6,7,16,17,18,19,20,21,22,23,24,25,26,27,28,29,30,31,32,33,34,35] (λj=>[(6,.int .i64 (j:Int)),(5,.int .i64 ((kpt p l j).length:Int))]) (λj=>HS w [b] [.blk b 27 tot ((Qdn (kpt p l j) l).flatMap TEnt.vals)]) (λj=>j<=l.length) (λj=>l.length-j) (i+1) om (by rw[hki];exact aSx) (λw h=>by rw[hki2,Qhg];exact h.ent aEt) (λj hj1=>?_)
 have hkl:=Qsf (p:=p) (l:=l) (j:=j)
 refine aU8 ?_
 refine sCd rfl (λh2=>?_) λh2=>?_
 ·have hj:j<l.length:=by have hq8:=h2;omega
  have hst:=QjO (p:=p) hj
  refine aU7 ?_
  refine o_p (Qa rfl rfl rfl Qy (j) om om rfl) rfl (o_q (QU _ rfl rfl Xb rfl (λw h=>Qfs h aPk (k:=j) (by rw[Y0 om];omega) (Nat.zero_add _) (Qeo om hj))) rfl (oAl (λb3 _=>?_) XD))
  refine aU6 ?_
  refine o_q (Xj rfl rfl hq rfl (λw1 h1=>hc (nth l j) w1 (Qz hj) (h0.trans1 h1))) rfl (aU2 ?_)
  refine sCd rfl (λh4=>?_) λh4=>?_
  ·rw[if_neg (by have hq8:=h4;simp[hq8])]at hst
   refine aU5 ?_
   refine o_p (Qa rfl rfl rfl Qy ((kpt p l j).length) om om rfl) rfl (Qah (Q8 rfl rfl rfl Xb rfl aPt (by(try rw[Qk]);rw[Qi ev2,Y0 om];omega) rfl) (λ_ _=>aT4 ?_))
   refine aU3 ?_
   refine Qe (L':=[(0,_),(1,_),(4,_),(5,_),(6,_),(8,_),(9,_),(10,_),(11,_),(12,_),(14,_),(15,_)]) aSx (λ_ h=>h) ?_
   refine aT3 ?_
   refine aU2 ?_
   exact QK (j+1) om om (by rw[hst,List.length_append,List.length_singleton];exact aSx) (λw h=>by have h2:=QjW (K:=(kpt p l j)) (x:=nth l j) (l:=l) om aPk h;rw[hst];exact h2.ent aEt)
  rw[if_pos (by have hq8:=h4;simpa using hq8)]at hst
  refine aT5 ?_
  refine aU2 ?_
  exact QK (j+1) om om (by rw[hst];exact aSx) (λw h=>by rw[hst];exact h.ent aEt)
 obtain rfl:j=l.length:=by have hq8:=h2;omega
 refine Qh rfl ?_
 refine aU4 ?_
 refine o_p (QJ _ _ (kpt p l l.length).length l.length rfl rfl Qy ⟨_,_,rfl,rfl⟩ rfl om om) rfl (Qah (Qih rfl rfl Qy XD rfl rfl (by simp) aPt (λhn=>XL om) (by rw[Qi ev2,Y0 om];omega)) (λ_ _=>aU5 ?_))
 refine o_p (QJ _ _ 0 (kpt p l l.length).length rfl rfl Qy rfl ⟨_,_,rfl,rfl⟩ om om) rfl ?_
 refine Qf (show _=Value.slice (some ⟨b,0,none⟩) (kpt p l l.length).length cap from by rw[Y8]<;>rfl) (aU2 ?_)
 exact rT rfl rfl (λw' h'=>⟨(),by rw[<-Qh0];rfl,trivial,by rw[<-Qh0];exact(Qkw (K:=(kpt p l l.length)) (l:=l) h' aPk om (by rw[QW])).ent aEt⟩)
theorem c119(w:World)(b cap tot:Nat)(l:List TEnt)(w00:World)(q:Nat)(cv:Array Value)(e:TEnt->TEnt->Bool)(h0:HS w00 [b] [] w)(hw:HS w [b] [.blk b 27 tot (l.flatMap TEnt.vals)] w)(hn:l.length<=1000000)(hnc:l.length<=cap)(hq:QQ Tryz.prog q=true)(hc:∀x y w1,x∈l->y∈l->HS w00 [b] [] w1->Calls Tryz.prog q (#[]++[.agg (TEnt.vals (x)).toArray,.agg (TEnt.vals (y)).toArray].toArray++cv) w1 λen w2=>en=.returned (.bool (e x y))/\Below w1.heap.size w1 w2):CE 119 #[.slice (some ⟨b,0,none⟩) l.length cap,.func (.func q) #[] cv] w [b] (λg:Unit=>.slice (some ⟨b,0,none⟩) (cpT e l l.length).length cap) (λg=>True) λg=>[.blk b 27 tot ((cpT e l l.length).flatMap TEnt.vals)]:=by
 refine eW2 Tryz.func119 Tryz.ntmps119 hw ?_
 refine Zw ?_
 refine sCd rfl (λh1=>?_) λh1=>?_
 ·have hfl:cpT e l l.length=l:=Qob (by have hq8:=h1;omega)
  refine aU5 ?_
  exact rT rfl rfl (λw' h'=>⟨(),by rw[hfl];rfl,trivial,by rw[hfl];exact h'.ent aEt⟩)
 have hl2:2<=l.length:=by have hq8:=h1;omega
 refine aU7 ?_
 refine Qo (α:=Nat) [4,5,6,7,12,13,14,15,16,17,18,19,20,21,22,23,24,25,26,27,28,29,30,31,32,33,34,35,36,37,38,39,40,41,42,43,44,45,46,47,48,49,50,51,52,53,54,55,56,57,58,59,60,61,62,63,64] (λk=>[(5,.int .i64 (k:Int))]) (λ_=>HS w [b] [.blk b 27 tot (l.flatMap TEnt.vals)]) (λk=>1<=k/\k<=l.length/\cpT e l k=l.take k) (λk=>l.length-k) 1 ⟨Nat.le_refl _,om,QoK om (.inl rfl) rfl⟩ aSx (λw h=>h.ent aEt) (λk hkk=>?_)
 obtain⟨hk1,hk2,hkt⟩:=hkk
 refine aU8 ?_
 refine sCd rfl (λh2=>?_) λh2=>?_
 ·have hk:k<l.length:=by have hq8:=h2;omega
  refine aU4 ?_
  refine Qu [] QG ?_
  refine dP 0 ?_
  refine dP 1 ?_
  refine dP 2 ?_
  refine dV 3 rfl (Qa rfl rfl rfl Qy (k) om om rfl) (dQ 4 [] rfl (QU _ rfl rfl Xb rfl (λw h=>QiR h aPk (k:=k) om)) (dP 5 ?_))
  refine dP 6 ?_
  refine dP 7 ?_
  try refine dWr ?_
  refine Qv (show _=Value.int .i64 ((k-1:Nat):Int)from congrArg (Value.int .i64) om) (dV 8 rfl (Qa rfl rfl rfl Qy ((k-1)) om om rfl) (dQ 9 [] rfl (QU _ rfl rfl Xb rfl (λw h=>QiR h aPk (k:=k-1) om)) (dQ 10 [] rfl (Xj rfl rfl hq rfl (λw1 h1=>hc (nth l k) (nth l (k-1)) w1 (Qz om) (Qz om) (h0.trans1 h1))) (dNi ?_))))
  refine sCd rfl (λh3=>?_) λh3=>?_
  ·have hcy:cpT e l (k+1)=l.take k:=by rw[QlZ om h3,hkt]
   have hcl:(cpT e l (k+1)).length=k:=by rw[hcy,List.length_take];omega
   refine aU4 ?_
   refine o_p (QJ _ _ k l.length rfl rfl Qy ⟨_,_,rfl,rfl⟩ rfl om om) rfl ?_
   refine Qf (show _=Value.slice (some ⟨b,k*2,none⟩) (l.length-k) (cap-k)from by rw[XL om]<;>(congr 1<;>omega)) (aU8 ?_)
   refine Qe (L':=[(0,_),(1,_),(5,_),(6,_),(7,_),(8,_),(9,_),(10,_)]) aSx (λ_ h=>h) ?_
   refine Qo (α:=Nat) [5,7,32,33,34,35,36,37,38,39,40,41,42,43,44,45,46,47,48,49,50,51,52,53,54,55,56,57,58] (λm=>[(7,.int .i64 (m:Int)),(5,.int .i64 ((cpT e l (k+m)).length:Int))]) (λm=>HS w [b] [.blk b 27 tot ((Qdn (cpT e l (k+m)) l).flatMap TEnt.vals)]) (λm=>1<=m/\k+m<=l.length/\(cpT e l (k+m)).length<=k+m-1) (λm=>l.length-(k+m)) 1 ⟨Nat.le_refl _,om,by rw[hcl];omega⟩ (by rw[hcl];exact aSx) (λw h=>by rw[hcy,Qhg];exact h.ent aEt) (λm hmm=>?_)
   obtain⟨hm1,hm2,hml⟩:=hmm
   refine aU8 ?_
   refine sCd rfl (λh4=>?_) λh4=>?_
   ·have hm3:k+m<l.length:=by have hq8:=h4;omega
    refine aU4 ?_
    refine Qu [] QG ?_
    refine dP 0 ?_
    refine dP 1 ?_
    refine dP 2 ?_
    refine dV 3 rfl (Qa rfl rfl rfl Qy (m) om om rfl) (dQ 4 [] rfl (QU _ rfl rfl Xb rfl (λw h=>Qfs h aPk (k:=k+m) (by rw[Y0 om];omega) om (Qeo om om))) (dP 5 ?_))
    refine dP 6 ?_
    refine dP 7 ?_
    try refine dWr ?_
    refine Qv (show _=Value.int .i64 ((m-1:Nat):Int)from congrArg (Value.int .i64) om) (dV 8 rfl (Qa rfl rfl rfl Qy ((m-1)) om om rfl) (dQ 9 [] rfl (QU _ rfl rfl Xb rfl (λw h=>Qfs h aPk (k:=k+m-1) (by rw[Y0 om];omega) om (Qeo om om))) (dQ 10 [] rfl (Xj rfl rfl hq rfl (λw1 h1=>hc (nth l (k+m)) (nth l (k+m-1)) w1 (Qz om) (Qz om) (h0.trans1 h1))) (dP 11 ?_))))
    refine dNi ?_
    refine sCd rfl (λh5=>?_) λh5=>?_
    ·have hst:cpT e l (k+(m+1))=(cpT e l (k+m))++[nth l (k+m)]:=QsI (by have hq8:=h5;simp[hq8])
     refine aU6 ?_
     refine o_p (Qa rfl rfl rfl Qy (m) om om rfl) rfl (o_q (QU _ rfl rfl Xb rfl (λw h=>Qfs h aPk (k:=k+m) (by rw[Y0 om];omega) om (Qeo om om))) rfl (o_p (Qa rfl rfl rfl Qy ((cpT e l (k+m)).length) om om rfl) rfl (Qah (Q8 rfl rfl rfl Xb rfl aPt (by(try rw[Qk]);rw[Qi ev2,Y0 om];omega) rfl) (λ_ _=>aU ?_))))
     refine Qe (L':=[(0,_),(1,_),(5,_),(6,_),(7,_),(8,_),(9,_),(10,_)]) aSx (λ_ h=>h) ?_
     refine aT3 ?_
     refine aT6 ?_
     refine aU2 ?_
     exact QK (m+1) om ⟨om,om,by rw[hst,List.length_append,List.length_singleton];omega⟩ (by rw[hst,List.length_append,List.length_singleton];exact aSx) (λw h=>by have h2:=QjW (K:=(cpT e l (k+m))) (x:=nth l (k+m)) (l:=l) om aPk h;rw[hst];exact h2.ent aEt)
    have hst:cpT e l (k+(m+1))=(cpT e l (k+m)):=QlZ (j:=k+m) om (by have hq8:=h5;simpa using hq8)
    refine aT5 ?_
    refine aU2 ?_
    exact QK (m+1) om ⟨om,om,by rw[hst];omega⟩ (by rw[hst];exact aSx) (λw h=>by rw[hst];exact h.ent aEt)
   have hm3:k+m=l.length:=by have hq8:=h4;omega
   refine Qh rfl ?_
   refine aU4 ?_
   refine o_p (QJ _ _ (cpT e l (k+m)).length l.length rfl rfl Qy ⟨_,_,rfl,rfl⟩ rfl om om) rfl (Qah (Qih rfl rfl Qy XD rfl rfl (by simp) aPt (λhn=>XL om) (by rw[Qi ev2,Y0 om];omega)) (λ_ _=>aU5 ?_))
   refine o_p (QJ _ _ 0 (cpT e l (k+m)).length rfl rfl Qy rfl ⟨_,_,rfl,rfl⟩ om om) rfl ?_
   refine Qf (show _=Value.slice (some ⟨b,0,none⟩) (cpT e l (k+m)).length cap from by rw[Y8]<;>rfl) (aU2 ?_)
   exact rT rfl rfl (λw' h'=>⟨(),by rw[<-hm3];rfl,trivial,by have h2:=(Qkw (K:=(cpT e l (k+m))) (l:=l) h' aPk om (by rw[QW]));rw[<-hm3];exact h2.ent aEt⟩)
  have hcn:=QoK hk (.inr (by have hq8:=h3;simp[hq8])) hkt
  refine aT5 ?_
  refine aU2 ?_
  exact sBk (k+1) om ⟨om,om,hcn⟩
 obtain rfl:k=l.length:=by have hq8:=h2;omega
 have hfl:cpT e l l.length=l:=by rw[hkt,List.take_length]
 refine Qh rfl ?_
 refine aU5 ?_
 exact rT rfl rfl (λw' h'=>⟨(),by rw[hfl];rfl,trivial,by rw[hfl];exact h'.ent aEt⟩)
theorem Qwa(w:World)(a:Option Addr)(cap:Nat)(q:Nat)(cv:Array Value)(hq:QQ Tryz.prog q=true):CR 115 #[.slice a 0 cap,.func (.func q) #[] cv] w (.slice a 0 cap):=by
 refine eN2 Tryz.func115 Tryz.ntmps115 ?_
 refine aU8 ?_
 refine oCq rfl (λw1 h1=>QuN w1 a cap [] q cv [] ⟨λh9=>absurd h9 (by simp)⟩ (by decide) hq rfl (λk w2 hk h2=>absurd hk (by simp))) (aU8 ?_)
 refine sCd rfl (λh1=>?_) λh1=>?_
 ·refine aU5 ?_
  exact rV
 exfalso;exact h1 rfl
theorem Qv1(w:World)(a:Option Addr)(cap:Nat)(q:Nat)(cv:Array Value)(hq:QQ Tryz.prog q=true):CR 119 #[.slice a 0 cap,.func (.func q) #[] cv] w (.slice a 0 cap):=by
 refine eN2 Tryz.func119 Tryz.ntmps119 ?_
 refine Zw ?_
 refine sCd rfl (λh1=>?_) λh1=>?_
 ·refine aU5 ?_
  exact rV
 exfalso;have hq8:=h1;omega
theorem QvW(w:World)(a:Option Addr)(cap:Nat)(q:Nat)(cv:Array Value):CR 222 #[.slice a 0 cap,.int .i64 0,.int .i64 0,.func (.func q) #[] cv] w (.tuple #[]):=by
 refine eN4 Tryz.func222 Tryz.ntmps222 ?_
 refine aT4 ?_
 refine aU3 ?_
 refine Qo (α:=Unit) [8,9,12,13,14,15,16,17,18,19,20,21,22,23,24,25,26,27,28,29,30,31,32,33,34,35,36,37,38,39,40,41,42,43,44,45,46,47,48,49,50,51,52] (λ_=>[(8,.int .i64 1)]) (λ_=>HS w [] []) (λ_=>True) (λ_=>0) () trivial aSx (λw h=>h.ent aEt) (λ_ _=>?_)
 refine aU7 ?_
 refine sCd rfl (λh1=>?_) λh1=>?_
 ·exfalso;have hq8:=h1;omega
 refine Qh rfl ?_
 exact Za rfl (λw' h'=>⟨rfl,h'.below⟩)
theorem QvN(w:World)(a:Option Addr)(cap:Nat)(q:Nat)(cv:Array Value):CR 177 #[.slice a 0 cap,.int .i64 0,.func (.func q) #[] cv] w (.tuple #[]):=by
 refine eN3 Tryz.func177 Tryz.ntmps177 ?_
 refine Zg ?_
 refine Qo (α:=Unit) [7,8,11,12,13,14,15,16,17,18,19,20,21,22] (λ_=>[(7,.int .i64 0),(8,.int .i64 20)]) (λ_=>HS w [] []) (λ_=>True) (λ_=>0) () trivial aSx (λw h=>h.ent aEt) (λ_ _=>?_)
 refine aU7 ?_
 refine sCd rfl (λh1=>?_) λh1=>?_
 ·exfalso;have hq8:=h1;omega
 refine Qh rfl ?_
 refine aU6 ?_
 refine oCq rfl (λw1 h1=>QvW w1 a cap q cv) (aU2 ?_)
 refine Qo (α:=Unit) [6,7,8,9,28,29,30,31,32,33,34,35,36,37,38,39,40,41,42,43,44,45,46,47,48,49,50,51,52,53,54,55,56,57,58,59,60,61,62] (λ_=>[(6,.int .i64 20)]) (λ_=>HS w [] []) (λ_=>True) (λ_=>0) () trivial aSx (λw h=>h.ent aEt) (λ_ _=>?_)
 refine aU7 ?_
 refine sCd rfl (λh2=>?_) λh2=>?_
 ·exfalso;have hq8:=h2;omega
 refine Qh rfl ?_
 exact Za rfl (λw' h'=>⟨rfl,h'.below⟩)
theorem QvT(w:World)(a:Option Addr)(cap:Nat)(q:Nat)(cv:Array Value):CR 118 #[.slice a 0 cap,.func (.func q) #[] cv] w (.tuple #[]):=by
 refine eN2 Tryz.func118 Tryz.ntmps118 ?_
 refine aU5 ?_
 refine oCq rfl (λw1 h1=>QvN w1 a cap q cv) (aU ?_)
 exact Za rfl (λw' h'=>⟨rfl,h'.below⟩)
theorem Qts:QQ Tryz.prog 116=true:=by kernel_rfl
theorem Qvn:QQ Tryz.prog 120=true:=by kernel_rfl
theorem Qvy:QQ Tryz.prog 115=true:=by kernel_rfl
theorem Qu6:XX Tryz.prog 174=some [.nilFunc]:=by kernel_rfl
theorem QtF:QQ Tryz.prog 118=true:=by kernel_rfl
theorem QtH:QQ Tryz.prog 119=true:=by kernel_rfl
theorem Qv3(w:World)(a:Option Addr)(cap:Nat)(l:List TEnt)(q:Nat)(cv:Array Value)(p:TEnt->Bool)(hw:HS w (fps [.own (.slice a (l).length cap) 27 2 (l).length ((l).flatMap TEnt.vals)]) [.own (.slice a (l).length cap) 27 2 (l).length ((l).flatMap TEnt.vals)] w)(hn:l.length<=1000000)(hq:QQ Tryz.prog q=true)(hc:∀x w1,x∈l->HS w (fps [.own (.slice a (l).length cap) 27 2 (l).length ((l).flatMap TEnt.vals)]) [] w1->Calls Tryz.prog q (#[]++[.agg (TEnt.vals (x)).toArray].toArray++cv) w1 λen w2=>en=.returned (.bool (p x))/\Below w1.heap.size w1 w2):CE 115 #[.slice a l.length cap,.func (.func q) #[] cv] w (fps [.own (.slice a (l).length cap) 27 2 (l).length ((l).flatMap TEnt.vals)]) (λg:Unit=>.slice a (l.filter λx=>!p x).length cap) (λg=>True) λg=>[.own (.slice a (l.filter λx=>!p x).length cap) 27 2 (l.filter λx=>!p x).length ((l.filter λx=>!p x).flatMap TEnt.vals)]:=by
  rcases Nat.eq_zero_or_pos l.length with h0|h0
  · obtain rfl:l=[]:=List.eq_nil_of_length_eq_zero h0;refine(Qwa w a cap q cv hq).mono λen w'⟨he,hb⟩=>⟨(),he,trivial,hw.stable hb⟩
  · obtain⟨b,rfl,_,hnc,hcm,hxl,hb⟩:=hw.own_blk h0 .here;refine(c115 w b cap (cap*2) l w q cv p (HS.refl w [b]) hb hn hnc hq hc).mono λen w'⟨_,he,_,h⟩=>⟨(),he,trivial,?_⟩;exact HS.own_shut h (Qi ev2 _) (Nat.le_trans (List.length_filter_le _ l) hnc) hcm
theorem Qwy(w:World)(a:Option Addr)(cap:Nat)(l:List TEnt)(q:Nat)(cv:Array Value)(e:TEnt->TEnt->Bool)(hw:HS w (fps [.own (.slice a (l).length cap) 27 2 (l).length ((l).flatMap TEnt.vals)]) [.own (.slice a (l).length cap) 27 2 (l).length ((l).flatMap TEnt.vals)] w)(hn:l.length<=1000000)(hq:QQ Tryz.prog q=true)(hc:∀x y w1,x∈l->y∈l->HS w (fps [.own (.slice a (l).length cap) 27 2 (l).length ((l).flatMap TEnt.vals)]) [] w1->Calls Tryz.prog q (#[]++[.agg (TEnt.vals (x)).toArray,.agg (TEnt.vals (y)).toArray].toArray++cv) w1 λen w2=>en=.returned (.bool (e x y))/\Below w1.heap.size w1 w2):CE 119 #[.slice a l.length cap,.func (.func q) #[] cv] w (fps [.own (.slice a (l).length cap) 27 2 (l).length ((l).flatMap TEnt.vals)]) (λg:Unit=>.slice a (cpT e l l.length).length cap) (λg=>True) λg=>[.own (.slice a (cpT e l l.length).length cap) 27 2 (cpT e l l.length).length ((cpT e l l.length).flatMap TEnt.vals)]:=by
  rcases Nat.eq_zero_or_pos l.length with h0|h0
  · obtain rfl:l=[]:=List.eq_nil_of_length_eq_zero h0;refine(Qv1 w a cap q cv hq).mono λen w'⟨he,hb⟩=>⟨(),he,trivial,hw.stable hb⟩
  · obtain⟨b,rfl,_,hnc,hcm,hxl,hb⟩:=hw.own_blk h0 .here;refine(c119 w b cap (cap*2) l w q cv e (HS.refl w [b]) hb hn hnc hq hc).mono λen w'⟨_,he,_,h⟩=>⟨(),he,trivial,?_⟩;exact HS.own_shut h (Qi ev2 _) (Nat.le_trans (Qmm _) hnc) hcm
theorem Qp1(co:Int)(l:List TEnt):(stab (cI co l) l.length (List.range l.length)).flatMap (sV l)=((Qfh co l).map (nth l)).flatMap TEnt.vals:=by
  rw[List.flatMap_map];rfl
theorem QoW(l:List TEnt):(List.range l.length).flatMap (sV l)=l.flatMap TEnt.vals:=by
  have h:(List.range l.length).map (nth l)=l:=by
    apply List.ext_getElem?;intro i;rw[List.getElem?_map];rcases Nat.lt_or_ge i l.length with hi|hi
    · rw[List.getElem?_range hi,Option.map_some,QV hi]
    · rw[List.getElem?_eq_none (by rw[List.length_range];exact hi),List.getElem?_eq_none hi];rfl
  conv=>rhs;rw[<-h]
  rw[List.flatMap_map];rfl
theorem Qgv(co:Int)(l:List TEnt):((Qfh co l).map (nth l)).length=l.length:=by
  rw[List.length_map];exact(Qib ((Qnr co l).ord l.length)).1.length_eq.trans List.length_range
theorem QoR{co:Int}{l:List TEnt}{x:TEnt}(h:x∈(Qfh co l).map (nth l)):x∈l:=by
  obtain⟨i,hi,rfl⟩:=List.mem_map.1 h;have h1:=(Qib ((Qnr co l).ord l.length)).1.mem_iff.1 hi;rw[List.mem_range]at h1;exact Qz h1
theorem Qwf(w:World)(a:Option Addr)(cap:Nat)(l:List TEnt)(q:Nat)(cv:Array Value)(co:Int)(hw:HS w (fps [.own (.slice a (l).length cap) 27 2 (l).length ((l).flatMap TEnt.vals)]) [.own (.slice a (l).length cap) 27 2 (l).length ((l).flatMap TEnt.vals)] w)(hn:l.length<=1000000)(hq:QQ Tryz.prog q=true)(hc:∀x y w1,x∈l->y∈l->HS w (fps [.own (.slice a (l).length cap) 27 2 (l).length ((l).flatMap TEnt.vals)]) [] w1->Calls Tryz.prog q (#[]++[.agg (TEnt.vals (x)).toArray,.agg (TEnt.vals (y)).toArray].toArray++cv) w1 λen w2=>en=.returned (.int .i64 (QN co x.key y.key))/\Below w1.heap.size w1 w2):CE 118 #[.slice a l.length cap,.func (.func q) #[] cv] w (fps [.own (.slice a (l).length cap) 27 2 (l).length ((l).flatMap TEnt.vals)]) (λg:Unit=>.tuple #[]) (λg=>True) λg=>[.own (.slice a ((Qfh co l).map (nth l)).length cap) 27 2 ((Qfh co l).map (nth l)).length (((Qfh co l).map (nth l)).flatMap TEnt.vals)]:=by
  rw[Qgv];rcases Nat.eq_zero_or_pos l.length with h0|h0
  · obtain rfl:l=[]:=List.eq_nil_of_length_eq_zero h0;refine(QvT w a cap q cv).mono λen w'⟨he,hb⟩=>⟨(),he,trivial,hw.stable hb⟩
  · obtain⟨b,rfl,_,hnc,hcm,hxl,hb⟩:=hw.own_blk h0 .here;rw[<-QoW]at hb;refine(c118 w l b l.length cap (cap*2) l.length (List.range l.length) w q cv (cI co l) ⟨List.length_range,λi hi=>List.mem_range.1 hi⟩ hb hn (HS.refl w [b]) hq (λp p1 w1 hp hp1 h1=>hc _ _ w1 (Qz hp) (Qz hp1) h1)).mono λen w'⟨_,he,_,h⟩=>⟨(),he,trivial,?_⟩;rw[Qp1]at h;exact HS.own_shut h (by rw[Qi ev2,Qgv]) hnc hcm
def slvA(x:Ixs):Nat->List TEnt
  | 0=>(nth (Qb x.ro).1.ns 0).es
  | k+1=>if Yb x (k+1)=true then slvA x k++(Xl (x.blk (k+1)) ((k+1:Nat):Int)).n.es else slvA x k
def slvI(x:Ixs):List TEnt:=if ixE x=0 then QnS (Qb x.ro).1.co ((slvA x x.n).filter λy=>!!QL (Qb x.ro).1.co y.key)else[]
theorem Qsa{x:Ixs}{i:Nat}(h1:Yb x i=true):slvA x (i+1-1)=slvA x (i-1)++(Xl (x.blk i) ((i:Nat):Int)).n.es:=by
  obtain⟨h3,_⟩:=Qes h1;obtain⟨k,rfl⟩:∃k,i=k+1:=⟨i-1,om⟩;rw[Nat.add_sub_cancel,slvA,if_pos h1,Nat.add_sub_cancel]
theorem Qvj{x:Ixs}{i:Nat}(h:¬Yb x i=true):slvA x (i+1-1)=slvA x (i-1):=by
  cases i with
  | zero=>rfl
  | succ k=>rw[Nat.add_sub_cancel,slvA,if_neg h,Nat.add_sub_cancel]
theorem QiN{x:Ixs}(h:(Qb x.ro).2=0):∀k,(slvA x k).length<=255*(k+1)/\∀y∈slvA x k,y.key.length<=1000000/\y.val.length<=1000000
  | 0=>⟨by have:=(NdF.root h).1.sm.es;show(nth (Qb x.ro).1.ns 0).es.length<=_;omega,(NdF.root h).1.sm.ent⟩
  | k+1=>by
    obtain⟨h1,h2⟩:=QiN h k;have h3:=NdS.of (x.blk (k+1)) ((k+1:Nat):Int);rw[slvA];split
    · refine⟨by rw[List.length_append];have:=h3.es;omega,λy hy=>?_⟩;rcases List.mem_append.1 hy with hy|hy
      · exact h2 y hy
      · exact h3.ent y hy
    · exact⟨om,h2⟩
theorem Qup(co:Int)(l:List TEnt):cpT (λx y=>decide (QN co x.key y.key=0)) ((Qfh co l).map (nth l)) ((Qfh co l).map (nth l)).length=QnS co l:=by
  rw[List.length_map,QqY co l (Qfh co l) _ (Nat.le_refl _),List.take_length];rfl
set_option maxHeartbeats 4000000 in
theorem c48(w:World)(x:Ixs)(hl:x.al.length<=900000)(hr:x.ro.length<=1000000)(hb:x.bm.length<=100000):CE 48 #[.agg #[.string (bs x.ro),.string (bs x.al),.string (bs x.bm)]] w [] (λg:Option Addr×Nat=>.tuple #[.slice g.1 (slvI x).length g.2,.int .i64 (ixE x)]) (λg=>True) λg=>[.own (.slice g.1 (slvI x).length g.2) 27 2 (slvI x).length ((slvI x).flatMap TEnt.vals)]:=by
 have hn9:x.n<=x.al.length:=Nat.div_le_self _ _
 have hn8:x.n=x.al.length/512:=rfl
 refine eN1 Tryz.func48 Tryz.ntmps48 ?_
 refine aU2 ?_
 refine oBx λb1 _=>?_
 refine aU6 ?_
 refine oCh rfl (λw1 h1=>c56 w1 x hl hr hb) (λ⟨⟨c1,m1,r1⟩,⟨ra,rc⟩,RL⟩hRL=>aU3 ?_)
 refine oAl (λb2 _=>?_) Qas
 refine aU9 ?_
 refine sCd rfl (λh3=>?_) λh3=>?_
 ·have hR:slvI x=[]:=if_neg h3
  refine aU6 ?_
  exact Qj (rs:=[.tmp 2,.tmp 3]) rfl (.tmp rfl (.tmp rfl (.nil))) (λw' h'=>⟨(none,0),by rw[hR];rfl,trivial,by rw[hR];exact(h'.nil.own_nil 27 2).ent aEt⟩)
 have hE:ixE x=0:=h3
 have hRT:=hRL hE
 dsimp only at hRT
 obtain rfl:c1=(Qb x.ro).1.co:=congrArg Tre.co hRT
 obtain rfl:m1=(Qb x.ro).1.mo:=congrArg Tre.mo hRT
 obtain rfl:r1=(Qb x.ro).1.rm:=congrArg Tre.rm hRT
 have hRn:pln RL=(Qb x.ro).1.ns:=congrArg Tre.ns hRT
 obtain⟨hA,hB,hC,hO,hLs⟩:=QbO hE
 have hb8:x.n<=8*x.bm.length:=by have:=Yx ((x.n+7)/8);omega
 obtain⟨n0,l0,_,_,_,hrt,_,_,hco,_⟩:=Y1 hC
 have hco:QC (Qb x.ro).1.co=0:=by rw[hrt];exact hco
 have hns:(Qb x.ro).1.ns=[n0]:=by rw[hrt]
 have hs0:slvA x 0=n0.es:=by show(nth (Qb x.ro).1.ns 0).es=_;rw[hns];rfl
 rw[hns]at hRn
 obtain⟨x9,hx9,hxp⟩:=Qlp hRn
 subst hx9
 refine Yv (λw9 h=>HS.nodes_some (L:=[x9]) (Nat.succ_pos _) h aPk) λhna=>?_
 obtain⟨g9,rfl,hna1,hna2⟩:=hna
 refine YL (λw9 h=>(show HS w [] (.blk g9 69 (rc*3) [.bool x9.us,.slice x9.ea x9.es.length x9.ec,.slice x9.ca x9.cs.length x9.cc]::.ents 27 x9.ea x9.ec x9.es::.kids x9.ca x9.cc x9.cs::_) w9 from Qhe h aPk)) ?_
 have hx9e:slvA x 0=x9.es:=by rw[hs0,<-hxp];rfl
 have hsm0:=(QiN hC 0).1
 rw[hx9e]at hsm0
 refine aU6 ?_
 refine Qf (show _=Value.slice (some ⟨g9,0,none⟩) 1 rc from rfl) (o_p (Qa rfl rfl rfl QH 0 rfl om rfl) rfl (aU2 ?_))
 refine oCh rfl (λw1 h1=>Qtz w1 x9.ea x9.ec x9.es (HS.rw_own (l:=x9.es) ev2 h1 aPk rfl) om) (λ⟨sa,sc⟩_=>aU6 ?_)
 refine oCq rfl (λw1 h1=>QiL w1 x (Qb x.ro).1.co (Qb x.ro).1.mo (Qb x.ro).1.rm (some ⟨g9,0,none⟩) 1 rc om) (aT ?_)
 refine aU3 ?_
 refine Qe (L':=[(2,_),(3,_),(4,_),(6,_),(28,_),(29,_)]) aSx (λ_ h=>h) ?_
 refine Qo (α:=Nat×Option Addr×Nat) [6,7,8,9,29,30,31,32,33,34,35,36,37,38,39,40,41,42,43,44,45,46,47,48] (λy=>[(29,.int .i64 (y.1:Int)),(6,.slice y.2.1 (slvA x (y.1-1)).length y.2.2)]) (λy=>HS w [] [.own (.slice y.2.1 ((slvA x (y.1-1))).length y.2.2) 27 2 ((slvA x (y.1-1))).length (((slvA x (y.1-1))).flatMap TEnt.vals),.blk b1 23 3 [.string (bs x.ro),.string (bs x.al),.string (bs x.bm)],.blk b2 108 7 [.string (bs x.ro),.string (bs x.al),.string (bs x.bm),.int .i64 (Qb x.ro).1.co,.int .i64 (Qb x.ro).1.mo,.int .i64 (Qb x.ro).1.rm,.slice (some ⟨g9,0,none⟩) 1 rc]]) (λy=>y.1<=x.n+1) (λy=>x.n+1-y.1) (0,sa,sc) (Nat.zero_le _) (by rw[show slvA x (0-1)=x9.es from hx9e];exact aSx) (λw h=>by dsimp only;rw[show slvA x (0-1)=x9.es from hx9e];exact h.ent aEt) (λ⟨i,ga,gc⟩hi1=>?_)
 dsimp only
 simp only[]at hi1
 have hkl:=(QiN hC (i-1)).1
 refine aU5 ?_
 refine sCd rfl (λh4=>?_) λh4=>?_
 ·have hi:i<x.n+1:=by have hq:=h4;omega
  refine Zg ?_
  refine oCq rfl (λw1 h1=>c61 w1 x (Qb x.ro).1.co (Qb x.ro).1.mo (Qb x.ro).1.rm (some ⟨g9,0,none⟩) 1 rc i om hb8) (aU ?_)
  refine sCd rfl (λh5=>?_) λh5=>?_
  ·have hnm9:Yb x i=true:=h5
   obtain⟨hb1,hb2,hb3⟩:=Qes hnm9
   have hbl9:1<=i/\i*512<=x.al.length:=⟨hb1,hb3⟩
   have hb5:=Qb3 hbl9
   have hst:=Qsa hnm9
   refine aU4 ?_
   refine oCq rfl (λw1 h1=>c64 w1 x (Qb x.ro).1.co (Qb x.ro).1.mo (Qb x.ro).1.rm (some ⟨g9,0,none⟩) 1 rc i om hbl9) (aU ?_)
   refine oCh rfl (λw1 h1=>c63 w1 (x.blk i) ((i:Nat):Int) om) (λg2 hg2=>aU3 ?_)
   refine oAl (λb6 _=>?_) ZK
   refine aU8 ?_
   have hges:g2.es=(Xl (x.blk i) ((i:Nat):Int)).n.es:=congrArg Nd.es hg2
   have hgel:=(NdS.of (x.blk i) ((i:Nat):Int)).es
   rw[<-hges]at hgel
   refine o_h (QO (g2.es.flatMap TEnt.vals) rfl rfl rfl Qy Tryz.underlying67 XD rfl aPk (λw h=>Rw.src ev2 (HS.rw_own (l:=g2.es) ev2 h aPk rfl) (HS.refl w [])) (by rw[Qi ev2]) (X5 ev1 _) om (by simp only[maxLen];omega)) rfl (λb7 _=>aT5 ?_)
   refine aU2 ?_
   exact QK (i+1,b7.1,b7.2) (by(try simp only[]);omega) (by(try simp only[]);omega) (by dsimp only;rw[hst,<-hges,List.length_append];exact aSx) (λw h=>by have h2:=h;dsimp only;rw[hst,<-hges,List.length_append,List.flatMap_append];exact h2.ent aEt)
  have hst:=Qvj (x:=x) (i:=i) (by have hq:=h5;simp[hq])
  refine aT4 ?_
  refine aU2 ?_
  exact QK (i+1,ga,gc) (by(try simp only[]);omega) (by(try simp only[]);omega) (by dsimp only;rw[hst];exact aSx) (λw h=>by dsimp only;rw[hst];exact h.ent aEt)
 obtain rfl:i=x.n+1:=by have hq:=h4;omega
 rw[Nat.add_sub_cancel]
 have hsm:=QiN hC x.n
 have hR:slvI x=QnS (Qb x.ro).1.co ((slvA x x.n).filter λy=>!!QL (Qb x.ro).1.co y.key):=if_pos hE
 generalize slvA x x.n=G1 at hsm hR ⊢
 refine Qh rfl ?_
 refine aU4 ?_
 refine o_h (QE (Cs:=[.own (.slice ga (G1).length gc) 27 2 (G1).length ((G1).flatMap TEnt.vals)]) rfl Qvy rfl aPs (λw1 h1 hf=>Qv3 w1 ga gc G1 116 #[.pointer (some ⟨b2,0,none⟩)] (λy=>!QL (Qb x.ro).1.co y.key) hf om Qts (λy w2 hy h2=>c116 w2 b2 (Qb x.ro).1.co y ((HS.rd_blkF h1 aPs aPk rfl).later h2 (by simp)) hco (hsm.2 y hy).1))) rfl (λ_ _=>?_)
 have hF2:∀y∈(G1.filter λy=>!!QL (Qb x.ro).1.co y.key),y.key.length<=1000000/\QL (Qb x.ro).1.co y.key=true:=λy hy=>by have h9:=List.mem_filter.1 hy;exact⟨(hsm.2 y h9.1).1,by simpa using h9.2⟩
 have hFl:(G1.filter λy=>!!QL (Qb x.ro).1.co y.key).length<=1000000:=Nat.le_trans (List.length_filter_le _ _) om
 generalize (G1.filter λy=>!!QL (Qb x.ro).1.co y.key)=G2 at hR hF2 hFl ⊢
 refine aU5 ?_
 refine oAl (λb8 _=>?_) Qu6
 refine aU6 ?_
 refine o_h (QE (Cs:=[.own (.slice ga (G2).length gc) 27 2 (G2).length ((G2).flatMap TEnt.vals)]) rfl QtF rfl aPs (λw1 h1 hf=>Qwf w1 ga gc G2 117 #[.pointer (some ⟨b2,0,none⟩)] (Qb x.ro).1.co hf om Qo5 (λy z w2 hy hz h2=>c117 w2 b2 (Qb x.ro).1.co y z ((HS.rd_blkF h1 aPs aPk rfl).later h2 (by simp)) hco (hF2 y hy).1 (hF2 z hz).1 (hF2 y hy).2 (hF2 z hz).2))) rfl (λ_ _=>?_)
 have hGl:=Qgv (Qb x.ro).1.co G2
 have hGm:∀y∈(Qfh (Qb x.ro).1.co G2).map (nth G2),y∈G2:=λy hy=>QoR hy
 have hGd:=Qup (Qb x.ro).1.co G2
 generalize (Qfh (Qb x.ro).1.co G2).map (nth G2)=G3 at hGl hGm hGd ⊢
 refine aU4 ?_
 refine Qf (show _=Value.slice ga G3.length gc from by rw[hGl]) (aU ?_)
 refine o_h (QE (Cs:=[.own (.slice ga (G3).length gc) 27 2 (G3).length ((G3).flatMap TEnt.vals)]) rfl QtH rfl aPs (λw1 h1 hf=>Qwy w1 ga gc G3 120 #[.pointer (some ⟨b8,0,none⟩)] (λy z=>decide (QN (Qb x.ro).1.co y.key z.key=0)) hf om Qvn (λy z w2 hy hz h2=>c120 w2 b8 b2 (Qb x.ro).1.co y z ((HS.rd_blkF h1 aPs aPk rfl).later h2 (by simp)) ((HS.rd_blkF h1 aPs aPk rfl).later h2 (by simp)) hco (hF2 y (hGm y hy)).1 (hF2 z (hGm z hz)).1 (hF2 y (hGm y hy)).2 (hF2 z (hGm z hz)).2))) rfl (λ_ _=>?_)
 rw[hGd]
 refine aU3 ?_
 exact Qj (rs:=[.tmp 2,.tmp 3]) rfl (.tmp rfl (.tmp rfl (.nil))) (λw' h'=>⟨(ga,gc),by rw[hR,hE];rfl,trivial,by rw[hR];exact h'.ent aEt⟩)
end Go.Proofs
namespace Gx
open Go Go.RowKit
set_option maxRecDepth 20000
theorem QiC{p q:Prop}[Decidable p][Decidable q]{α:Type}{a b:α}(h:p ↔ q):(if p then a else b)=if q then a else b:=by
 by_cases hp:p
 ·rw[if_pos hp,if_pos (h.1 hp)]
 ·rw[if_neg hp,if_neg λhq=>hp (h.2 hq)]
def KpU(a b:List Nd):Prop:=∀i,(nth a i).us=true->(nth b i).us=true
section
variable{a b:List Nd}
theorem KpU.es(h:KpU a b)(i:Nat)(es:List TEnt):KpU a (esN b i es):=λk hk=>by rw[Qs5];exact h k hk
theorem KpU.cs(h:KpU a b)(i:Nat)(cs:List Int):KpU a (csN b i cs):=λk hk=>by rw[Qs7];exact h k hk
theorem KpU.fre(h:KpU a b):KpU a (QT b).2:=λk hk=>by
 have h1:=h k hk
 have hlt:k<b.length:=by
  rcases Nat.lt_or_ge k b.length with h2|h2
  ·exact h2
  ·rw[Yy h2]at h1;cases h1
 unfold QT;split
 ·unfold usN;rw[QaO];split
  ·rfl
  ·exact h1
 ·show(nth (b++_) k).us=true;rw[Qp9 hlt];exact h1
theorem KpU.spl(h:KpU a b)(mo:Int)(i:Nat):KpU a (Qa2 mo b i):=by
 unfold Qa2 addP;refine KpU.cs (KpU.es ?_ _ _) _ _;unfold splA;split
 ·exact(h.fre.es _ _).es _ _
 ·exact(((h.fre.es _ _).es _ _).cs _ _).cs _ _
theorem KpU.low(h:KpU a b):KpU a (XZ b).2:=by
 unfold XZ;exact(((h.fre.es _ _).cs _ _).es _ _).cs _ _
theorem KpU.grw(h:KpU a b)(mo:Int)(P:List Nat):KpU a (X6 mo b P):=by
 unfold X6
 induction P generalizing b with
 | nil=>exact h
 | cons i P ih=>
  rw[List.foldl_cons];refine ih ?_;unfold Qbf;split
  ·exact h.spl _ _
  ·exact h
theorem KpU.ins(co mo rm:Int)(x:TEnt):KpU a (Qac co mo rm a x):=by
 have h:KpU a a:=λ_ h=>h;unfold Qac;split
 ·exact h
 ·unfold Qff;have h1:=(h.es (YZ co a x.key) (QP (nth a (YZ co a x.key)).es (Qt co a x.key).2.1 x)).grw mo (Qt co a x.key).1.reverse;unfold Qa4;split
  ·split
   ·exact h1.low.spl _ _
   ·exact h1.low
  ·exact h1
end
mutual
theorem QeF:∀T:BT,T.flat.Perm (T.nodes.flatMap λp=>p.2.es)
 | .nd i es ks=>by
  rw[BT.flat,BT.nodes,List.flatMap_cons];exact flatL_perm es ks
theorem flatL_perm:∀(es:List TEnt)(ks:List BT),(flatL es ks).Perm (es++(nodesL ks).flatMap λp=>p.2.es)
 | es,[]=>by rw[Yk,nodesL];simp
 | [],k::ks=>by
  rw[flatL,nodesL,List.flatMap_append];exact(QeF k).append (flatL_perm [] ks)
 | e::es,k::ks=>by
  rw[flatL,nodesL,List.flatMap_append];have h1:=(QeF k).append ((flatL_perm es ks).cons e);refine h1.trans ?_;refine List.perm_iff_count.2 λa=>?_;simp only[List.count_append,List.count_cons];omega
end
theorem QhG{t:Tre}(h:(XQ t).2=0):(∀i,(nth t.ns i).es.Pairwise λa b=>¬QN t.co a.key b.key=0)/\(∀i j,i≠j->∀a∈(nth t.ns i).es,∀b∈(nth t.ns j).es,¬QN t.co a.key b.key=0)/\∀i,∀a∈(nth t.ns i).es,Yc t.co a=0:=by
 obtain⟨T,d,hR,hV,hz,hu⟩:=QpO h;have hsw:∀a b:TEnt,¬QN t.co a.key b.key=0->¬QN t.co b.key a.key=0:=λa b h1=>by have:=ZT t.co a.key b.key;omega
 have hp:(T.nodes.flatMap λp=>p.2.es).Pairwise λa b=>¬QN t.co a.key b.key=0:=by
  refine((QeF T).pairwise_iff λ{a b}=>hsw a b).1 ?_;exact hV.srt.imp λh9=>by have:QN t.co _ _<0:=h9;omega
 have hp2:=List.pairwise_flatMap.1 hp
 have hin:∀i,0<(nth t.ns i).es.length->(i,nth t.ns i)∈T.nodes:=λi hi=>by
  have hlt:i<t.ns.length:=by
   rcases Nat.lt_or_ge i t.ns.length with h2|h2
   ·exact h2
   ·rw[Yy h2]at hi;exact absurd hi (Nat.lt_irrefl 0)
  by_cases hm:i∈T.nodes.map Prod.fst
  ·obtain⟨p,hp,rfl⟩:=List.mem_map.1 hm;have h3:=RepN.at_ (i:=p.1) (x:=p.2) hR hp;rw[h3.2];exact hp
  ·rw[RepN.rest hR i hlt hm]at hi;exact absurd hi (Nat.lt_irrefl 0)
 have pos:∀{i}{a:TEnt},a∈(nth t.ns i).es->0<(nth t.ns i).es.length:=λh9=>List.length_pos_of_mem h9;refine⟨λi=>?_,λi j hij a ha b hb=>?_,λi a ha=>?_⟩
 ·cases hes:(nth t.ns i).es with
  | nil=>exact .nil
  | cons e l=>
   rw[<-hes];exact hp2.1 _ (hin i (by rw[hes];exact Nat.succ_pos _))
 ·have h1:=hin i (pos ha);have h2:=hin j (pos hb);obtain⟨p,hp,hpe⟩:=List.getElem_of_mem h1;obtain⟨q,hq,hqe⟩:=List.getElem_of_mem h2;have hpq:=List.pairwise_iff_getElem.1 hp2.2;rcases Nat.lt_trichotomy p q with h3|h3|h3
  ·exact hpq p q hp hq h3 a (by rw[hpe];exact ha) b (by rw[hqe];exact hb)
  ·subst h3;rw[hpe]at hqe;exact absurd (congrArg Prod.fst hqe) hij
  ·exact hsw _ _ (hpq q p hq hp h3 b (by rw[hqe];exact hb) a (by rw[hpe];exact ha))
 ·exact hV.ents a ((Qbs T _ (hin i (pos ha))).subset ha)
theorem Qnu{co:Int}{l:List TEnt}(h:l.Pairwise λa b=>¬QN co a.key b.key=0):∀k,k<=l.length->(inD co (l.take k)).length=k
 | 0,_=>rfl
 | k+1,hk=>by
  obtain⟨h1,h2,_⟩:=QkZ co l k om;have ih:=Qnu h k om
  have hst:inD co (l.take (k+1))=Qpe co (inD co (l.take k)) (nth l k):=by
   unfold inD;rw[List.take_add_one,List.foldl_append,QV om];rfl
  have hnf:¬fnd co (inD co (l.take k)) (nth l k).key=true:=λhf=>by
   obtain⟨y,hy,he⟩:=(Qbp h1).2 hf;obtain⟨i,hi,rfl,_⟩:=(h2 y).1 hy;have h9:=List.pairwise_iff_getElem.1 h i k om om hi;rw[QS (List.getElem?_eq_getElem (show i<l.length by omega)),QS (List.getElem?_eq_getElem (show k<l.length by omega))]at he;exact h9 he
  rw[hst];unfold Qpe;rw[if_neg hnf];have hpl:=Qat co (nth l k).key (inD co (l.take k));unfold QP;rw[List.length_append,List.length_cons,List.length_take,List.length_drop,ih];rw[ih]at hpl;omega
theorem QoY{co:Int}{l:List TEnt}(h:l.Pairwise λa b=>¬QN co a.key b.key=0):(QnS co l).length=l.length:=by
 rw[Qt1,<-Qnu h l.length (Nat.le_refl _),List.take_length]
def Qa3(x y:Ixs)(n:Nat)(ss:List Bool):Nat->List UInt8
 | 0=>y.al
 | k+1=>if ss.getD k false=true then Qa3 x y n ss k else Q2 (Qa3 x y n ss k) ((n-1)*512+k*64) (Qs x.al ((n-1)*512+k*64) 64)
def ZW(x y:Ixs)(n:Nat)(ss:List Bool):Ixs:=⟨y.ro,Qa3 x y n ss ss.length,y.bm⟩
section
variable{x y:Ixs}{n:Nat}{ss:List Bool}
theorem QiG(h1:1<=n)(hx:n*512<=x.al.length){k:Nat}(hk:k<8):(Qs x.al ((n-1)*512+k*64) 64).length=64:=by
 have h:(n-1)*512+k*64+64<=x.al.length:=om
 generalize (n-1)*512+k*64=p at h ⊢;exact Q6 h
theorem QbP(h1:1<=n)(hx:n*512<=x.al.length)(hy:n*512<=y.al.length):∀k,k<=8->(Qa3 x y n ss k).length=y.al.length
 | 0,_=>rfl
 | k+1,hk=>by
  have ih:=QbP h1 hx hy k om;rw[Qa3];split
  ·exact ih
  ·rw[XY (by rw[QiG h1 hx om,ih];omega),ih]
theorem Qid(h1:1<=n)(hx:n*512<=x.al.length)(hy:n*512<=y.al.length)(p:Nat):∀k,k<=8->(Qa3 x y n ss k)[p]?=if((n-1)*512<=p/\p<(n-1)*512+k*64)/\ss.getD ((p-(n-1)*512)/64) false=false then x.al[p]? else y.al[p]?
 | 0,_=>by rw[Qa3,if_neg om]
 | k+1,hk=>by
  have ih:=Qid h1 hx hy p k om;have hl:=QbP (ss:=ss) h1 hx hy k om;have hs:=QiG (x:=x) h1 hx (k:=k) om;rw[Qa3];rcases Nat.lt_or_ge p ((n-1)*512+k*64)with h2|h2
  ·have e:(((n-1)*512<=p/\p<(n-1)*512+(k+1)*64)/\ss.getD ((p-(n-1)*512)/64) false=false) ↔ (((n-1)*512<=p/\p<(n-1)*512+k*64)/\ss.getD ((p-(n-1)*512)/64) false=false):=by
    constructor
    ·rintro⟨⟨a,b⟩,c⟩;exact⟨⟨a,h2⟩,c⟩
    ·rintro⟨⟨a,b⟩,c⟩;exact⟨⟨a,om⟩,c⟩
   split
   ·rw[ih,QiC e]
   ·rw[Yo om,if_pos h2,ih,QiC e]
  ·rw[if_neg (show¬(((n-1)*512<=p/\p<(n-1)*512+k*64)/\ss.getD ((p-(n-1)*512)/64) false=false) by omega)]at ih;rcases Nat.lt_or_ge p ((n-1)*512+(k+1)*64)with h3|h3
   ·have e:(p-(n-1)*512)/64=k:=by omega
    rw[e];split
    ·rename_i h4;rw[ih,if_neg (by rw[h4];simp)]
    ·rename_i h4;rw[Yo om,if_neg om,if_pos om,if_pos ⟨⟨om,h3⟩,by simpa using h4⟩,Yl om];congr 1;omega
   ·rw[if_neg (show¬(((n-1)*512<=p/\p<(n-1)*512+(k+1)*64)/\ss.getD ((p-(n-1)*512)/64) false=false) by omega)];split
    ·exact ih
    ·rw[Yo om,if_neg om,if_neg om,ih]
def olS(ss:List Bool)(i:Nat):Bool:=decide (i<ss.length/\ss.getD i false=false)
theorem Qsn(h1:1<=n)(hx:n*512<=x.al.length)(hy:n*512<=y.al.length)(hs:ss.length<=8){j:Nat}(hj:j<512):((ZW x y n ss).blk n)[j]?=if olS ss (j/64)=true then(x.blk n)[j]? else(y.blk n)[j]?:=by
 unfold Ixs.blk olS;rw[Yl hj,Yl hj,Yl hj];show(Qa3 x y n ss ss.length)[(n-1)*512+j]?=_;rw[Qid h1 hx hy _ _ hs,show(n-1)*512+j-(n-1)*512=j by omega];refine QiC ?_;rw[decide_eq_true_eq];constructor
 ·rintro⟨⟨a,b⟩,c⟩;exact⟨om,c⟩
 ·rintro⟨a,c⟩;exact⟨⟨om,om⟩,c⟩
theorem Qne(h1:1<=n)(hx:n*512<=x.al.length)(hy:n*512<=y.al.length)(hs:ss.length<=8){i:Nat}(hi:1<=i)(hn:i≠n):(ZW x y n ss).blk i=y.blk i:=by
 apply List.ext_getElem?;intro j;unfold Ixs.blk;rcases Nat.lt_or_ge j 512 with hj|hj
 ·rw[Yl hj,Yl hj];show(Qa3 x y n ss ss.length)[(i-1)*512+j]?=_;rw[Qid h1 hx hy _ _ hs,if_neg om]
 ·unfold Qs;rw[List.getElem?_eq_none (Nat.le_trans (List.length_take_le _ _) hj),List.getElem?_eq_none (Nat.le_trans (List.length_take_le _ _) hj)]
theorem Qoy(h1:1<=n)(hx:n*512<=x.al.length)(hy:n*512<=y.al.length)(hs:ss.length<=8):(ZW x y n ss).n=y.n:=congrArg (· /512) (QbP (ss:=ss) h1 hx hy _ hs)
theorem QuS(h1:1<=n)(hx:n*512<=x.al.length)(hy:n*512<=y.al.length)(hs:ss.length<=8):ixE (ZW x y n ss)=ixE y:=by
 have hn:=Qoy (x:=x) (y:=y) (ss:=ss) h1 hx hy hs;have hl:(ZW x y n ss).al.length=y.al.length:=QbP (ss:=ss) h1 hx hy _ hs;unfold ixE QcI;rw[hn,hl];rfl
theorem Qic(h1:1<=n)(hx:n*512<=x.al.length)(hy:n*512<=y.al.length)(hs:ss.length<=8)(i:Nat):Yb (ZW x y n ss) i=Yb y i:=by
 unfold Yb;rw[Qoy h1 hx hy hs];rfl
end
theorem Qkg{x:Ixs}{n:Nat}(h:∀i,i≠n->Yb x i=true->(Xl (x.blk i) ((i:Nat):Int)).e=0):∀k,Go.Proofs.bdLk x k=if(1<=n/\n<=k)/\Yb x n=true/\¬(Xl (x.blk n) ((n:Nat):Int)).e=0 then[n]else[]
 | 0=>by rw[Go.Proofs.bdLk,if_neg om]
 | k+1=>by
  have ih:=Qkg h k;rw[Go.Proofs.bdLk,ih]
  by_cases e:k+1=n
  ·subst e;rw[if_neg (show¬((1<=k+1/\k+1<=k)/\_) by omega)];split
   ·rename_i h2;rw[if_pos ⟨⟨om,om⟩,h2⟩];rfl
   ·rename_i h2;rw[if_neg λh3=>h2 h3.2]
  ·rw[if_neg (show¬(Yb x (k+1)=true/\¬(Xl (x.blk (k+1)) ((k+1:Nat):Int)).e=0)fromλh3=>h3.2 (h _ e h3.1))];refine QiC ?_;constructor
   ·rintro⟨a,b⟩;exact⟨om,b⟩
   ·rintro⟨a,b⟩;exact⟨om,b⟩
def QdR(ns:List Nd)(n:Nat):Nat->List TEnt
 | 0=>[]
 | k+1=>if k=n then QdR ns n k else QdR ns n k++(nth ns k).es
def QdN(ns:List Nd)(n:Nat):Nat->Nat
 | 0=>0
 | k+1=>if k=n then QdN ns n k else QdN ns n k+(nth ns k).es.length
theorem Qkj(ns:List Nd)(n:Nat):∀k,(QdR ns n k).length=QdN ns n k
 | 0=>rfl
 | k+1=>by
  have ih:=Qkj ns n k;rw[QdR,QdN];split
  ·exact ih
  ·rw[List.length_append,ih]
theorem Qd9{ns:List Nd}{n:Nat}{a:TEnt}:∀{k},a∈QdR ns n k->∃i,i<k/\i≠n/\a∈(nth ns i).es
 | 0,h=>by cases h
 | k+1,h=>by
  rw[QdR]at h;split at h
  ·obtain⟨i,h1,h2⟩:=Qd9 h;exact⟨i,om,h2⟩
  ·rename_i hk;rcases List.mem_append.1 h with h|h
   ·obtain⟨i,h1,h2⟩:=Qd9 h;exact⟨i,om,h2⟩
   ·exact⟨k,om,hk,h⟩
theorem Qnm{t:Tre}(h:(XQ t).2=0)(n:Nat):∀k,(QdR t.ns n k).Pairwise λa b=>¬QN t.co a.key b.key=0
 | 0=>.nil
 | k+1=>by
  obtain⟨h1,h2,_⟩:=QhG h;have ih:=Qnm h n k;rw[QdR];split
  ·exact ih
  ·refine List.pairwise_append.2 ⟨ih,h1 k,λa ha b hb=>?_⟩;obtain⟨i,hi,_,hm⟩:=Qd9 ha;exact h2 i k om a hm b hb
theorem Qgd{x y:Ixs}{i:Nat}:∀{k},i∈Qb0 x y k->1<=i/\chD x y i=true/\i<=k
 | 0,h=>by cases h
 | k+1,h=>by
  rw[Qb0]at h;split at h
  ·rename_i h2;rcases List.mem_append.1 h with h|h
   ·have:=Qgd h;exact⟨this.1,this.2.1,om⟩
   ·rw[List.mem_singleton.1 h];exact⟨om,h2,om⟩
  ·have:=Qgd h;exact⟨this.1,this.2.1,om⟩
theorem Qhy{x y:Ixs}{n:Nat}{l:List Nat}(h:chL x y=n::l):1<=n/\chD x y n=true/\n<=max x.n y.n:=Qgd (show n∈Qb0 x y (max x.n y.n)from(show Qb0 x y (max x.n y.n)=n::l from h)▸List.mem_cons_self ..)
theorem Qmr{ns:List Nd}(h:Sm 1000 ns)(n:Nat):∀k,QdN ns n k<=1000*k
 | 0=>Nat.le_refl _
 | k+1=>by
  have ih:=Qmr h n k;have:=(h k).1;rw[QdN];split<;>omega
def boV(b:Bool):List Value:=[.bool b]
theorem Qp4{a b c:List UInt8}{s:Nat->Bool}(ha:a.length=512)(hb:b.length=512)(hc:c.length=512)(hta:XB a=false)(htb:XB b=false)(hu:ub2 a 40≠ub2 b 40)(hm:∀j,j<512->c[j]?=if s (j/64)=true then a[j]? else b[j]?)(h1:c≠a)(h2:c≠b):XB c=true:=by
 cases ht:XB c with
 | true=>rfl
 | false=>
  exfalso;obtain⟨_,hca⟩:=Qbh.1 ht;obtain⟨_,haa⟩:=Qbh.1 hta;obtain⟨_,hbb⟩:=Qbh.1 htb
  have two:∀p,p+1<512->p/64=(p+1)/64->ub2 c p=if s (p/64)=true then ub2 a p else ub2 b p:=λp hp he=>by
   have e1:=hm p om;have e2:=hm (p+1) hp;rw[<-he]at e2;split
   ·rename_i h3;rw[if_pos h3]at e1 e2;exact QiH e1 e2
   ·rename_i h3;rw[if_neg h3]at e1 e2;exact QiH e1 e2
  have h40:=two 40 om om
  have hs:∀i,i<8->s i=s 0:=λi hi=>by
   have ht:=two (tlA i) (by unfold tlA;omega) (by unfold tlA;omega);rw[show tlA i/64=i by unfold tlA;omega,haa i hi,hbb i hi,hca i hi,h40,show 40/64=0 from rfl]at ht;cases h8:s i<;>cases h9:s 0<;>simp only[h8,h9,if_true,Bool.false_eq_true,if_false]at ht<;>first|rfl|exact absurd ht hu|exact absurd ht.symm hu
  cases h9:s 0 with
  | true=>
   refine h1 (List.ext_getElem? λj=>?_);rcases Nat.lt_or_ge j 512 with hj|hj
   ·rw[hm j hj,hs _ om,if_pos h9]
   ·rw[List.getElem?_eq_none om,List.getElem?_eq_none om]
  | false=>
   refine h2 (List.ext_getElem? λj=>?_);rcases Nat.lt_or_ge j 512 with hj|hj
   ·rw[hm j hj,hs _ om,h9,if_neg (by simp)]
   ·rw[List.getElem?_eq_none om,List.getElem?_eq_none om]
structure TearOk(x y:Ixs)(T:Tre)(n:Nat)(ss:List Bool):Prop where
 ix:ixE (ZW x y n ss)=0
 one:1<=n
 good:(ZW x y n ss).blk n=x.blk n\/(ZW x y n ss).blk n=y.blk n->Go.Proofs.bdI (ZW x y n ss)=[]
 bad:¬((ZW x y n ss).blk n=x.blk n\/(ZW x y n ss).blk n=y.blk n)->Go.Proofs.bdI (ZW x y n ss)=[n]/\(Go.Proofs.slvI (ZW x y n ss)).length=QdN T.ns n T.ns.length
 lt:n<T.ns.length/\n<(rdI x).1.1.ns.length
 rd:rdI y=((T,0),0)
theorem QvL{x y:Ixs}{T:Tre}{a:TEnt}{n:Nat}{l:List Nat}{ss:List Bool}{lsn:Int}(hr:(rdI x).2=0)(hT:T=inT (rdI x).1.1 a)(hi:Zy T=0)(hlsn:0<=lsn/\lsn<=2147483647)(hyy:y=chX x (Xf x x.n) T lsn)(hl:chL x y=n::l)
  (hx:n*512<=x.al.length)(hy:n*512<=y.al.length)(hz:zer (x.blk n)=false)(hs:ss.length<=8):TearOk x y T n ss:=by
 have hmem:=Qhy hl;have h1:=hmem.1;have hxn:n<=x.n:=by unfold Ixs.n;omega
 have hyn:n<=y.n:=by unfold Ixs.n;omega
 have hrdy:rdI y=((T,0),0):=by rw[hyy];exact QwA hr hi hlsn
 obtain⟨g0,gt,ge,gr,gb⟩:=QaE hr;obtain⟨y0,yt,ye,yr,yb⟩:=QaE (x:=y) (by rw[hrdy]);have hTy:T=QaK y:=by rw[<-yt,hrdy]
 have hTn:T.ns=Xf y y.n:=by rw[hTy];rfl
 have hTl:T.ns.length=y.n+1:=by rw[hTn];exact Y3 yr y.n
 have hxl:(Xf x x.n).length=x.n+1:=Y3 gr x.n;have hxns:(rdI x).1.1.ns=Xf x x.n:=by rw[gt];rfl
 have hne:x.blk n≠y.blk n:=by
  have h9:=hmem.2.1;unfold chD at h9;simp only[Bool.or_eq_true,decide_eq_true_eq]at h9;rcases h9 with h9|h9|h9
  ·omega
  ·omega
  ·exact h9
 have hux:(nth (Xf x x.n) n).us=true:=by
  cases hu:(nth (Xf x x.n) n).us with
  | true=>rfl
  | false=>
   have h9:=(Qmw hr ⟨h1,hxn⟩).2 (by rw[hu];decide);rw[hz]at h9;cases h9
 obtain⟨_,hxe,_⟩:=(Qmw hr ⟨h1,hxn⟩).1 hux
 have huT:(nth T.ns n).us=true:=by
  have h9:KpU (rdI x).1.1.ns T.ns:=by rw[hT];exact KpU.ins _ _ _ _
  exact h9 n (by rw[hxns];exact hux)
 have hnam:Yb y n=true:=by
  cases hn:Yb y n with
  | true=>rfl
  | false=>
   rw[hTn,Qgn yr ⟨h1,hyn⟩,Qci hn]at huT;cases huT
 have hU:∀s:List UInt8,ub2 s 40<65536:=λs=>by
  unfold ub2;have h5:ub1 s 40<256:=UInt8.toNat_lt _;have h6:ub1 s (40+1)<256:=UInt8.toNat_lt _;omega
 obtain⟨xl,xt,xu⟩:=QgF hxe
 have hye:(Xl (y.blk n) ((n:Nat):Int)).e=0:=by
  rw[<-ZU hnam];exact yb n h1 hyn
 obtain⟨yl,ytn,yu⟩:=QgF hye
 have hyb:y.blk n=chB x (Xf x x.n) T.ns lsn n:=by
  have h9:=Qex (Qeg (lsn:=lsn) hr hi hlsn).len h1 (T.ns.length-1) om;rw[<-h9,hyy];rfl
 have hq:ub2 (x.blk n) 40≠ub2 (y.blk n) 40:=by
  unfold chB at hyb;rw[if_neg om,if_pos huT,if_neg (by rw[hux];simp;omega)]at hyb;split at hyb
  ·exact absurd hyb.symm hne
  ·have h9:=ZA hi om huT;have h8:=Qiu (s:=Qab (nth T.ns n) n lsn) (u:=((ub2 (x.blk n) 40%65535+1:Nat):Int)) (QaJ om) om;rw[hyb];unfold QaD;have:=hU (x.blk n);omega
 have hix:=QuS (ss:=ss) h1 hx hy hs;have hn9:=Qoy (ss:=ss) h1 hx hy hs
 have hbd:Go.Proofs.bdI (ZW x y n ss)=if(1<=n/\n<=y.n)/\Yb (ZW x y n ss) n=true/\¬(Xl ((ZW x y n ss).blk n) ((n:Nat):Int)).e=0 then[n]else[]:=by
  unfold Go.Proofs.bdI;rw[if_pos (hix.trans y0),hn9];refine Qkg (λi hin hnm=>?_) _;rw[Qic h1 hx hy hs]at hnm;obtain⟨i1,i2,_⟩:=Qes hnm;rw[Qne h1 hx hy hs i1 hin,<-ZU hnm];exact yb i i1 i2
 refine⟨hix.trans y0,h1,λh9=>?_,λh9=>?_,⟨om,by rw[hxns];omega⟩,hrdy⟩
 ·rw[hbd,if_neg];rintro⟨_,_,h8⟩;rcases h9 with h9|h9
  ·rw[h9]at h8;exact h8 hxe
  ·rw[h9]at h8;exact h8 hye
 ·have hol:((ZW x y n ss).blk n).length=512:=Qb3 (x:=ZW x y n ss) ⟨h1,by show n*512<=(Qa3 x y n ss ss.length).length;rw[QbP h1 hx hy _ hs];exact hy⟩;have htn:=Qp4 (s:=olS ss) xl yl hol xt ytn hq (λj hj=>Qsn h1 hx hy hs hj) (λh8=>h9 (.inl h8)) (λh8=>h9 (.inr h8));have h120:n<=120:=by have:=(ZA hi om huT).2.2.2.2;omega
  have hnd:=Qd5 (num:=((n:Nat):Int)) hol om htn;have hnmt:Yb (ZW x y n ss) n=true:=(Qic h1 hx hy hs n).trans hnam;refine⟨by rw[hbd,if_pos ⟨⟨h1,hyn⟩,hnmt,by rw[hnd];decide⟩],?_⟩
  have hsl:∀k,k<=y.n->Go.Proofs.slvA (ZW x y n ss) k=QdR T.ns n (k+1):=by
   intro k
   induction k with
   | zero=>
    intro _;show(nth (Qb y.ro).1.ns 0).es=_;rw[QdR,if_neg om,QdR,List.nil_append,hTn,QnK yr]
   | succ k ih=>
    intro hk;have ih:=ih om;have hnt:=Qgn yr (i:=k+1) ⟨om,hk⟩;rw[Go.Proofs.slvA,ih,show QdR T.ns n (k+1+1)=if k+1=n then QdR T.ns n (k+1)else QdR T.ns n (k+1)++(nth T.ns (k+1)).es from rfl,Qic h1 hx hy hs]
    by_cases e:k+1=n
    ·rw[if_pos e];split
     ·rw[e,hnd];exact List.append_nil _
     ·rfl
    ·rw[if_neg e,hTn,hnt];split
     ·rename_i hnm;rw[QcU hnm,Qne h1 hx hy hs om e]
     ·rename_i hnm;rw[Qci (by simpa using hnm)];exact(List.append_nil _).symm
  have hco:(Qb (ZW x y n ss).ro).1.co=T.co:=by rw[hTy];rfl
  have hte:(XQ T).2=0:=by rw[hTy];exact ye
  unfold Go.Proofs.slvI;rw[if_pos (hix.trans y0),hn9,hsl y.n (Nat.le_refl _),hco,List.filter_eq_self.2,QoY (Qnm hte n _),Qkj,hTl];intro b hb;obtain⟨i,_,_,hm⟩:=Qd9 hb;have h8:=(QhG hte).2.2 i b hm;unfold Yc X3 at h8;cases hk:QL T.co b.key with
  | true=>rfl
  | false=>rw[hk]at h8;simp at h8
end Gx
namespace Go.Proofs
open Go Go.RowKit Gx
theorem QqB{W:World}{d n:Nat}{a:Option Addr}{cell:Nat->List Value}(sl:Sl W [] a 1 n cell)(rows:∀i,i<n->okT Tryz.prog W d 4 (cell i)):∃l:List Bool,n=l.length/\Rw boV 1 W [] a l:=by
 obtain⟨l,h1,h2,_,_⟩:=Qww (vals:=boV) (Q:=λ_=>True) sl λi hi=>by
  obtain⟨b,e⟩:=Qq9 (rows i hi) Tryz.underlying4;exact⟨b,e,trivial⟩
 exact⟨l,h1,h2⟩
end Go.Proofs
namespace Go.Proofs
open Go Go.RowKit Gx
attribute [local irreducible] Go.Calls Gx.S Gx.O Gx.D Gx.OpP Gx.OpQ Gx.OpH
set_option maxRecDepth 20000
instance:TFn Tryz.prog 47:=⟨by kernel_rfl⟩
instance:TFn Tryz.prog 48:=⟨by kernel_rfl⟩
theorem c262(w:World)(n:LNd):CR 262 #[.agg #[.bool n.us,.slice n.ea n.es.length n.ec,.slice n.ca n.cs.length n.cc]] w (.bool (!n.us)):=by
 refine eN1 Tryz.func262 Tryz.ntmps262 ?_
 refine aU2 ?_
 refine oBx λb1 _=>?_
 refine aU9 ?_
 exact rV
theorem c248(w:World)(bt:Nat)(j:Nat)(mo rm:Int)(gn cap:Nat)(L:List LNd)(hw:HS w (fps [.blk bt 166 6 (tbV (j:Int) mo rm (some ⟨gn,0,none⟩) (L).length cap),.blk gn 69 (cap*3) ((L).flatMap LNd.vals),.star ((L).map (QB 27))]) [.blk bt 166 6 (tbV (j:Int) mo rm (some ⟨gn,0,none⟩) (L).length cap),.blk gn 69 (cap*3) ((L).flatMap LNd.vals),.star ((L).map (QB 27))] w)(hnc:L.length<=cap)(hcm:cap<=maxLen)(h0:0<L.length)(hl:L.length<=1000):CE 248 #[.pointer (some ⟨bt,0,none⟩)] w (fps [.blk bt 166 6 (tbV (j:Int) mo rm (some ⟨gn,0,none⟩) (L).length cap),.blk gn 69 (cap*3) ((L).flatMap LNd.vals),.star ((L).map (QB 27))]) (λg:(Nat×Nat)×List LNd=>.int .i64 ((QT (pln L)).1:Int)) (λg=>(pln g.2=(QT (pln L)).2/\g.2.length<=g.1.2/\g.1.2<=maxLen)) λg=>[.blk bt 166 6 (tbV (j:Int) mo rm (some ⟨g.1.1,0,none⟩) (g.2).length g.1.2),.blk g.1.1 69 (g.1.2*3) ((g.2).flatMap LNd.vals),.star ((g.2).map (QB 27))]:=by
 have hixe:ixB (L.map λn=>!n.us)=XS (pln L):=by unfold XS;rw[List.map_map];rfl
 have hnl:(pln L).length=L.length:=Qd L
 refine eW1 Tryz.func248 Tryz.ntmps248 hw ?_
 refine Zw ?_
 refine oCq rfl (λw1 h1=>c201 w1 (some ⟨gn,0,none⟩) cap L 262 #[] (L.map λn=>!n.us) (h1.rw_blk nv3 aPk) om (by kernel_rfl) (by simp) (λk w2 hk h2=>by rw[YX (d:=default) hk];exact c262 w2 (nth L k))) (aU8 ?_)
 refine XP (α:=(Nat×Nat)×List LNd) [3,12,13,14,15,16,17,18,19,20,21,22,23,24,25,26,27,28,29] (λx=>[(3,.int .i64 ((XS (pln L)):Int))]) (λx=>HS w (fps [.blk bt 166 6 (tbV (j:Int) mo rm (some ⟨gn,0,none⟩) (L).length cap),.blk gn 69 (cap*3) ((L).flatMap LNd.vals),.star ((L).map (QB 27))]) [.blk bt 166 6 (tbV (j:Int) mo rm (some ⟨x.1.1,0,none⟩) (x.2).length x.1.2),.blk x.1.1 69 (x.1.2*3) ((x.2).flatMap LNd.vals),.star ((x.2).map (QB 27))]) (λx=>(XS (pln L))<x.2.length/\x.2.length<=x.1.2/\x.1.2<=maxLen/\usN (pln x.2) (XS (pln L)) true=(QT (pln L)).2/\x.2.length<=1001) ?_ ?_
 ·skip
  refine sCd rfl (λh1=>?_) λh1=>?_
  ·have hz:¬XS (pln L)<L.length:=by have hq:=h1;unfold ixI at hq;rw[hixe,List.length_map]at hq;intro h9;rw[if_pos h9]at hq;omega
   have hz1:XS (pln L)=L.length:=by have h9:=QlC (L.map λn=>!n.us);rw[hixe,List.length_map]at h9;omega
   refine YL (λw h=>(HS.own_shut (n:=L.length) (h.ent (Bs:=[.blk gn 69 (cap*3) (L.flatMap LNd.vals),.star (L.map (QB 27)),.blk bt 166 6 (tbV (j:Int) mo rm (some ⟨gn,0,none⟩) L.length cap)]) aEt) (Qi nv3 L) hnc hcm)) (aU17 ?_)
   refine o_p (QF (cs:=[_,_,_]) rfl rfl Qco Xc rfl) rfl (o_h (Qg (cs:=[_,_,_]) rfl rfl QH Xc rfl rfl rfl) rfl (λb2 _=>?_))
   refine o_h (QO [_,_,_] rfl rfl rfl QH Tryz.underlying35 Xc rfl aPk (Q7 aPk) rfl (by intro u hu;simp only[List.mem_cons,List.mem_nil_iff,or_false]at hu;rcases hu with rfl|rfl|rfl<;>rfl) om (by simp only[maxLen];omega)) rfl (λb3 _=>X4 (λw h=>Qf4 (n:=L.length+1) om h aPk) (λhgn=>?_))
   obtain⟨⟨ga,gc⟩,hga⟩:∃q:Option Addr×Nat,b3=q:=⟨_,rfl⟩
   subst hga
   obtain⟨g9,e9,hn9,hm9⟩:=hgn
   simp only[]at e9 hn9 hm9
   subst e9
   refine QZ (λw h=>HS.own_at h aPk) (aU3 ?_)
   refine Qah (Q8 rfl rfl rfl Yz rfl aPt (by show 4<=6;omega) rfl) (λ_ _=>aU ?_)
   exact Qp ((g9,gc),L++[⟨false,none,0,[],none,0,[]⟩]) ⟨by simp only[List.length_append,List.length_singleton];omega,by simp only[List.length_append,List.length_singleton];exact hn9,hm9,by unfold QT usN;rw[if_neg (by rw[hnl];exact hz),hz1,QbI,List.set_append_right _ _ (by rw[Qd];omega),Qd,Nat.sub_self];simp only[];congr 1;show[_]=[_];congr 1;rw[show nth (pln L++pln [(⟨false,none,0,[],none,0,[]⟩:LNd)]) L.length=⟨false,[],[]⟩from QS (by rw[List.getElem?_append_right (by rw[Qd];omega),Qd,Nat.sub_self];rfl)],by simp only[List.length_append,List.length_singleton];omega⟩ (by rw[hz1];exact aSx) (λw h=>by have h2:=HS.sub_app (sub:=QB 27) (l:=L) (x:=(⟨false,none,0,[],none,0,[]⟩:LNd)) (HS.star_close (Bs:=[_,_]) (((h.ent (Bs:=[.star (L.map (QB 27)),.blk bt 166 6 (tbV (j:Int) mo rm (some ⟨g9,0,none⟩) (L.length+1) gc),.blk g9 69 (gc*3) (L.flatMap LNd.vals++[.bool false,.slice none 0 0,.slice none 0 0])]) aEt).own_nil 3 1).own_nil 27 2));have e8:(L++[(⟨false,none,0,[],none,0,[]⟩:LNd)]).flatMap LNd.vals=L.flatMap LNd.vals++[.bool false,.slice none 0 0,.slice none 0 0]:=(by rw[List.flatMap_append];rfl);have e7:(L++[(⟨false,none,0,[],none,0,[]⟩:LNd)]).length=L.length+1:=(by simp);dsimp only;rw[e8,e7];exact h2.ent aEt)
  have hz:XS (pln L)<L.length:=by have hq:=h1;unfold ixI at hq;rw[hixe,List.length_map]at hq;split at hq<;>first|assumption|omega
  have hz2:ixI (L.map λn=>!n.us)=(XS (pln L):Int):=by unfold ixI;rw[hixe,List.length_map,if_pos hz]
  refine aU ?_
  exact Qp ((gn,cap),L) ⟨hz,hnc,hcm,by unfold QT;rw[if_pos (by rw[hnl];exact hz)],by show L.length<=1001;omega⟩ (by rw[hz2];exact aSx) (λw h=>h.ent aEt)
 intro⟨⟨gn1,cap1⟩,L1⟩ hx
 dsimp only
 obtain⟨hx1,hx2,hx3,hx4,hx5⟩:=hx
 simp only[]at hx1 hx2 hx3 hx4 hx5
 refine aU8 ?_
 refine o_p (Qa rfl rfl rfl QH ((XS (pln L))) om om rfl) rfl (aU ?_)
 refine Qah (Q8 rfl rfl rfl Qdm rfl aPt (by rw[Qi nv3];show _+1<=_;omega) rfl) (λ_ _=>aU6 ?_)
 exact rT rfl rfl (λw' h'=>⟨((gn1,cap1),L1.set (XS (pln L)) {nth L1 (XS (pln L))with us:=true}),by unfold QT;split<;>first|rfl|(have hq9:=QlC (L.map λn=>!n.us);rw[hixe,List.length_map]at hq9;simp only[Q3];congr 2;rw[hnl]at *;congr 1;omega),⟨by rw[Qu8 hx1];exact hx4,by simp only[List.length_set];exact hx2,hx3⟩,by have h2:=h'.ent (Bs:=[.blk bt 166 6 (tbV (j:Int) mo rm (some ⟨gn1,0,none⟩) L1.length cap1),.blk gn1 69 (cap1*3) (Qq (L1.flatMap LNd.vals) (0+(XS (pln L))*3+0) [.bool true]),.star (L1.map (QB 27))]) aEt;rw[QpV hx1]at h2;simp only[List.length_set];rw[Qsp hx1];exact h2.ent aEt⟩)
theorem c218(w:World)(bt:Nat)(j:Nat)(mo rm:Int)(a:Option Addr)(cap:Nat)(L:List LNd)(i:Int)(ht:TbR w [] bt (j:Int) mo rm a L.length cap)(hs:Nt w [] a L)(hl:L.length<=100000)(hcl:∀k,k<L.length->(nth L k).cs.length<=100000):CR 218 #[.pointer (some ⟨bt,0,none⟩),.int .i64 i] w (.tuple #[.int .i64 ((Xz i (pln L) 0).1:Int),.int .i64 ((Xz i (pln L) 0).2:Int)]):=by
 refine eN2 Tryz.func218 Tryz.ntmps218 ?_
 refine Zg ?_
 refine o_q (Qc rfl rfl Yz (ht 3 _ rfl)) rfl (aU4 ?_)
 refine Qo (α:=Nat) [4,5,6,7,8,15,16,17,18,19,20,21,22,23,24,25,26,27,28] (λk=>[(15,.int .i64 (k:Int))]) (λ_=>HS w [] []) (λk=>k<=L.length/\(Xz i (pln L) 0)=Xz i ((pln L).drop k) k) (λk=>L.length-k) 0 ⟨Nat.zero_le _,rfl⟩ aSx (λw h=>h.ent aEt) (λk hx=>?_)
 obtain⟨hk1,hk2⟩:=hx
 refine aU5 ?_
 refine sCd rfl (λh1=>?_) λh1=>?_
 ·have hkl:k<L.length:=by omega
  have hst:=Qok (i:=i) (ns:=pln L) (k:=k) (by rw[Qd];exact hkl)
  rw[Qr hkl]at hst
  simp only[LNd.pl]at hst
  refine aU6 ?_
  refine o_p (Qa rfl rfl rfl QH (k) om om (Rw.some hs.1 om)) rfl (o_q (QI _ rfl rfl Xv rfl (Rw.rd hs.1 hkl)) rfl (oAl (λb2 _=>?_) Xc))
  refine aU8 ?_
  refine oCq rfl (λw1 h1=>c128 w1 (nth L k).ca (nth L k).cc (nth L k).cs i ((hs.cs hkl).later h1) (hcl k hkl)) (aU7 ?_)
  refine sCd rfl (λh3=>?_) λh3=>?_
  ·have hz:ixB (ZB (nth L k).cs i)<(nth L k).cs.length:=by have hq:=h3;unfold ixI at hq;rw[YS]at hq;split at hq<;>first|assumption|omega
   have hz3:(Xz i (pln L) 0)=(k,ixB (ZB (nth L k).cs i)):=(hk2.trans hst).trans (if_pos hz)
   have hz2:ixI (ZB (nth L k).cs i)=(ixB (ZB (nth L k).cs i):Int):=by unfold ixI;rw[YS,if_pos hz]
   refine aU7 ?_
   exact Qj (rs:=[.tmp 4,.tmp 5]) rfl (.tmp rfl (.tmp rfl (.nil))) (λw' h'=>⟨by rw[hz3,hz2];rfl,h'.below⟩)
  have hz:¬ixB (ZB (nth L k).cs i)<(nth L k).cs.length:=by have hq:=h3;unfold ixI at hq;rw[YS]at hq;intro h9;rw[if_pos h9]at hq;omega
  refine aT4 ?_
  refine aU2 ?_
  exact sBk (k+1) om ⟨om,(hk2.trans hst).trans (if_neg hz)⟩
 have hz:(Xz i (pln L) 0)=(0,0):=by rw[hk2,List.drop_of_length_le (by rw[Qd];omega)];rfl
 refine Qh rfl ?_
 refine aU5 ?_
 exact Qj (rs:=[.tmp 4,.tmp 5]) rfl (.tmp rfl (.tmp rfl (.nil))) (λw' h'=>⟨by rw[hz];rfl,h'.below⟩)
theorem QoA:QQ Tryz.prog 248=true:=by kernel_rfl
instance:TFn Tryz.prog 218:=⟨by kernel_rfl⟩
theorem QqI:QQ Tryz.prog 165=true:=by kernel_rfl
theorem QtA:QQ Tryz.prog 249=true:=by kernel_rfl
theorem Qtk(w:World)(a:Option Addr)(i cap:Nat)(l:List TEnt)(x:TEnt)(b0 c0 tot2:Nat)(hw:HS w (fps [.own (.slice a l.length cap) 27 2 l.length (l.flatMap TEnt.vals),.blk b0 27 tot2 (TEnt.vals x)]) [.own (.slice a l.length cap) 27 2 l.length (l.flatMap TEnt.vals),.blk b0 27 tot2 (TEnt.vals x)] w)(hmax:l.length<=100000)(hi:i<=l.length):CE 165 #[.slice a l.length cap,.int .i64 (i:Int),.slice (some ⟨b0,0,none⟩) 1 c0] w (fps [.own (.slice a l.length cap) 27 2 l.length (l.flatMap TEnt.vals),.blk b0 27 tot2 (TEnt.vals x)]) (λg:Option Addr×Nat=>.slice g.1 (QP l i x).length g.2) (λg=>True) λg=>[.own (.slice g.1 (QP l i x).length g.2) 27 2 (QP l i x).length ((QP l i x).flatMap TEnt.vals),.blk b0 27 tot2 (TEnt.vals x)]:=by
  have h:=c165 w a i l.length 1 cap (l.flatMap TEnt.vals) (TEnt.vals x) b0 c0 tot2 hw (by decide) (ev2 x) (λu hu=>ev1 x u hu) (X5 ev1 l) om hi;rw[Qjk ev2]at h;rw[Zj hi];exact h
theorem QvH(w:World)(a:Option Addr)(i cap:Nat)(l:List Int)(x:Int)(b0 c0 tot2:Nat)(hw:HS w (fps [.own (.slice a l.length cap) 3 1 l.length (l.flatMap inV),.blk b0 3 tot2 (inV x)]) [.own (.slice a l.length cap) 3 1 l.length (l.flatMap inV),.blk b0 3 tot2 (inV x)] w)(hmax:l.length<=100000)(hi:i<=l.length):CE 249 #[.slice a l.length cap,.int .i64 (i:Int),.slice (some ⟨b0,0,none⟩) 1 c0] w (fps [.own (.slice a l.length cap) 3 1 l.length (l.flatMap inV),.blk b0 3 tot2 (inV x)]) (λg:Option Addr×Nat=>.slice g.1 (QP l i x).length g.2) (λg=>True) λg=>[.own (.slice g.1 (QP l i x).length g.2) 3 1 (QP l i x).length ((QP l i x).flatMap inV),.blk b0 3 tot2 (inV x)]:=by
  have h:=c249 w a i l.length 1 cap (l.flatMap inV) (inV x) b0 c0 tot2 hw (by decide) (iv1 x) (λu hu=>Qfe x u hu) (X5 Qfe l) om hi;rw[Qjk iv1]at h;rw[Zj hi];exact h
set_option maxHeartbeats 4000000 in
theorem c213(w:World)(bt:Nat)(j:Nat)(mo rm:Int)(gn cap:Nat)(L:List LNd)(i:Nat)(hw:HS w (fps [.blk bt 166 6 (tbV (j:Int) mo rm (some ⟨gn,0,none⟩) (L).length cap),.blk gn 69 (cap*3) ((L).flatMap LNd.vals),.star ((L).map (QB 27))]) [.blk bt 166 6 (tbV (j:Int) mo rm (some ⟨gn,0,none⟩) (L).length cap),.blk gn 69 (cap*3) ((L).flatMap LNd.vals),.star ((L).map (QB 27))] w)(hnc:L.length<=cap)(hcm:cap<=maxLen)(hok:SpOk mo (pln L) i):CE 213 #[.pointer (some ⟨bt,0,none⟩),.int .i64 (i:Int)] w (fps [.blk bt 166 6 (tbV (j:Int) mo rm (some ⟨gn,0,none⟩) (L).length cap),.blk gn 69 (cap*3) ((L).flatMap LNd.vals),.star ((L).map (QB 27))]) (λg:(Nat×Nat)×List LNd=>.tuple #[]) (λg=>(pln g.2=Qa2 mo (pln L) i/\g.2.length<=g.1.2/\g.1.2<=maxLen)) λg=>[.blk bt 166 6 (tbV (j:Int) mo rm (some ⟨g.1.1,0,none⟩) (g.2).length g.1.2),.blk g.1.1 69 (g.1.2*3) ((g.2).flatMap LNd.vals),.star ((g.2).map (QB 27))]:=by
 have hlt0:=hok.lt
 have hln0:=hok.len
 rw[Qd]at hlt0 hln0
 have hmo:=hok.mo0
 have hes0:=hok.es
 have hcs0:=hok.cs
 have hne:=QfJ hok.lt hok.us
 have hfn:=Qct hok.lt hok.us
 have hfl:=Qfj (pln L)
 have hfl2:=Qcm (pln L)
 rw[Qd]at hfl2
 have hpar:=hok.par
 have hparE:=hok.parE
 have hparC:=hok.parC
 rw[Qjw]at hpar
 have hsA:=hok.sm.splA mo i
 have hsF:=hok.sm.fre
 refine eW2 Tryz.func213 Tryz.ntmps213 hw ?_
 refine aU3 ?_
 refine o_h (QE (Cs:=[.blk bt 166 6 (tbV (j:Int) mo rm (some ⟨gn,0,none⟩) (L).length cap),.blk gn 69 (cap*3) ((L).flatMap LNd.vals),.star ((L).map (QB 27))]) rfl QoA rfl aPs (λw1 h1 hf=>c248 w1 bt j mo rm gn cap L hf hnc hcm om om)) rfl (λ⟨⟨gn1,cap1⟩,L1⟩hF1=>?_)
 dsimp only
 obtain⟨hL1,hn1,hm1⟩:=hF1
 simp only[]at hL1 hn1 hm1
 have hl1:L1.length=(QT (pln L)).2.length:=by rw[<-hL1,Qd]
 have hi1:i<L1.length:=om
 have ho1:(QT (pln L)).1<L1.length:=om
 have hN1:(nth L1 i).pl=nth (pln L) i:=by rw[<-Qr hi1,hL1,hfn]
 have hE1:(nth L1 i).es=(nth (pln L) i).es:=congrArg Nd.es hN1
 have hC1:(nth L1 i).cs=(nth (pln L) i).cs:=congrArg Nd.cs hN1
 have hN1e:(nth (QT (pln L)).2 i).es=(nth L1 i).es:=by rw[<-hL1,Qr hi1];rfl
 have hN1c:(nth (QT (pln L)).2 i).cs=(nth L1 i).cs:=by rw[<-hL1,Qr hi1];rfl
 have hsm1:(Qw mo)<(nth L1 i).es.length:=by rw[hE1];exact hes0
 have hsE1:=(hok.sm i).1
 rw[<-hE1]at hsE1
 have hsC1:=(hok.sm i).2
 rw[<-hC1]at hsC1
 rw[<-hC1]at hcs0
 refine Zo ?_
 refine o_p (Qa rfl rfl rfl QH (i) om om rfl) rfl (Qf (show _=Value.pointer (some ⟨gn1,i*3,none⟩)from by rw[Nat.zero_add]) (QjE ?_))
 refine o_p (XC rfl rfl rfl om om om) rfl (Qf (show _=Value.int .i64 ((Qw mo):Int)from by unfold Qw;congr 1;omega) (aU7 ?_))
 refine o_q (Qx rfl rfl YE (λw h=>HS.nd_cell hi1 h aPk 1 rfl (by decide))) rfl (X4 (λw h=>HS.es_some hi1 om h aPk) λhge=>?_)
 obtain⟨ge,hge⟩:=hge
 refine X4 (λw h=>HS.es_room hi1 h aPk) λhrE=>aU ?_
 refine o_p (Qa rfl rfl rfl Qy _ rfl om hge) rfl (o_q (QU _ rfl rfl Xb rfl (λw h=>HS.es_rd hi1 hsm1 hge h aPk)) rfl (oAl (λb1 _=>?_) XD))
 refine aU3 ?_
 refine Qu [16] QG ?_
 refine dP 0 ?_
 refine dP 1 ?_
 refine dFa 2 ?_
 refine dFa 3 ?_
 refine dLd 4 [[]] ?_
 refine dP 5 ?_
 refine dP 6 ?_
 refine dP 7 ?_
 refine dFa 8 ?_
 refine dQ 9 [[]] rfl (Qx rfl rfl YE (λw h=>HS.nd_cell hi1 h aPk 1 rfl (by decide))) (dP 10 ?_)
 refine dP 11 ?_
 try refine dWr ?_
 refine dV 12 rfl (QJ _ _ ((Qw mo)+1) ((nth L1 i).es.length) rfl rfl Qy ⟨_,_,rfl,om⟩ rfl om om) (Qv (show _=Value.slice (YW (nth L1 i).ea (nth L1 i).ec ((Qw mo)+1) 2) ((nth L1 i).es.drop ((Qw mo)+1)).length ((nth L1 i).ec-((Qw mo)+1))from by rw[List.length_drop]) (dH 13 rfl (Qav rfl QkP rfl (λw1 h1=>Qtz w1 (YW (nth L1 i).ea (nth L1 i).ec ((Qw mo)+1) 2) ((nth L1 i).ec-((Qw mo)+1)) ((nth L1 i).es.drop ((Qw mo)+1)) ((HS.es_row hi1 h1 aPk).cut om) (by rw[List.length_drop];omega))) (λ⟨b2,c3⟩_=>dBa ?_)))
 refine dV 14 rfl (Qa rfl rfl rfl QH _ rfl om rfl) (Qv (show _=Value.pointer (some ⟨gn1,(QT (pln L)).1*3,none⟩)from by rw[Nat.zero_add]) (dFa 15 ?_))
 refine dSt 16 ?_ (hl:=(by rw[Qi nv3];show _+1<=_;omega))
 refine dTu [] ?_
 refine dNi ?_
 refine aU ?_
 refine Qe (L':=[(0,_),(1,_),(4,_),(5,_),(6,_),(7,_)]) aSx (λ_ h=>h) ?_
 refine aU2 ?_
 refine Qfc (λw h=>HS.es_set (gn:=gn1) (cap:=cap1) (ea:=b2) (ec:=c3) (es:=(nth L1 i).es.drop ((Qw mo)+1)) ho1 h aPk aPk aPk) λL2=>?_
 refine X4 (λw h=>h.1) λhS2=>QZ (λw h=>h.2) ?_
 have hi2:i<L2.length:=by rw[hS2.len];exact hi1
 have hN2:nth L2 i=nth L1 i:=hS2.other hi1 hne
 have hsm2:(Qw mo)<(nth L2 i).es.length:=by rw[hN2];exact hsm1
 refine aU3 ?_
 refine o_q (Qx rfl rfl YE (λw h=>HS.nd_cell hi2 h aPk 1 rfl (by decide))) rfl (X4 (λw h=>HS.es_room hi2 h aPk) λhrE2=>X4 (λw h=>HS.es_form hi2 h aPk) λhfE2=>aU2 ?_)
 refine o_p (QhN (Qw mo) (Qw mo) rfl rfl rfl rfl Qy rfl rfl om om) rfl (Qf (show _=Value.slice (nth L2 i).ea ((Qw mo)) ((Qw mo))from by rw[Qq4 _ _ _ hfE2]) (aU2 ?_))
 refine Qah (Q8 rfl rfl rfl YE rfl aPt (by rw[Qi nv3];show _+1<=_;omega) rfl) (λ_ _=>aU5 ?_)
 refine Qfc (λw h=>HS.es_setC (gn:=gn1) (cap:=cap1) (m:=(Qw mo)) (c:=(Qw mo)) hi2 (Nat.le_refl _) om om (λh9 _=>h9) h aPk aPk) λL3=>?_
 refine X4 (λw h=>h.1) λhS3=>QZ (λw h=>h.2) ?_
 have hi3:i<L3.length:=by rw[hS3.len];exact hi2
 have ho3:(QT (pln L)).1<L3.length:=by rw[hS3.len,hS2.len];exact ho1
 have hC3:(nth L3 i).cs=(nth L1 i).cs:=by rw[hS3.at_,hN2]
 refine aU2 ?_
 refine o_q (Qx rfl rfl Ya (λw h=>HS.nd_cell hi3 h aPk 2 rfl (by decide))) rfl (aU3 ?_)
 refine Qe (L':=[(0,_),(1,_),(4,_),(5,_),(6,_),(7,_),(65,_)]) aSx (λ_ h=>h) ?_
 refine XP (α:=List LNd) [66,67,68,69,70,71,72,73,74,75,76,77,78,79,80,81,82,83,84,85,86,87,88,89,90,91,92,93] (λ_=>[]) (λx=>HS w (fps [.blk bt 166 6 (tbV (j:Int) mo rm (some ⟨gn,0,none⟩) (L).length cap),.blk gn 69 (cap*3) ((L).flatMap LNd.vals),.star ((L).map (QB 27))]) [.blk bt 166 6 (tbV (j:Int) mo rm (some ⟨gn1,0,none⟩) (x).length cap1),.blk gn1 69 (cap1*3) ((x).flatMap LNd.vals),.star ((x).map (QB 27)),.blk b1 27 2 (TEnt.vals (nth (nth L1 i).es ((Qw mo))))]) (λx=>pln x=splA mo (pln L) i/\x.length=L1.length) ?_ ?_
 ·skip
  refine sCd rfl (λh4=>?_) λh4=>?_
  ·have hcs3:(Qw mo)+1<=(nth L3 i).cs.length:=by have hq:=h4;rw[hC3]at hq ⊢;omega
   refine Yv (λw h=>HS.cs_room hi3 h aPk) λhrC3=>?_
   have hsC3:(nth L3 i).cs.length<=900:=by rw[hC3];exact hsC1
   refine aU ?_
   refine Qu [16] QG ?_
   refine dP 0 ?_
   refine dP 1 ?_
   refine dFa 2 ?_
   refine dFa 3 ?_
   refine dLd 4 [[]] ?_
   refine dP 5 ?_
   refine dP 6 ?_
   refine dP 7 ?_
   refine dFa 8 ?_
   refine dQ 9 [[]] rfl (Qx rfl rfl Ya (λw h=>HS.nd_cell hi3 h aPk 2 rfl (by decide))) (dP 10 ?_)
   refine dP 11 ?_
   try refine dWr ?_
   refine dV 12 rfl (QJ _ _ ((Qw mo)+1) ((nth L3 i).cs.length) rfl rfl QM ⟨_,_,rfl,om⟩ rfl om om) (Qv (show _=Value.slice (YW (nth L3 i).ca (nth L3 i).cc ((Qw mo)+1) 1) ((nth L3 i).cs.drop ((Qw mo)+1)).length ((nth L3 i).cc-((Qw mo)+1))from by rw[List.length_drop]) (dH 13 rfl (Qav rfl Qqs rfl (λw1 h1=>c246 w1 (YW (nth L3 i).ca (nth L3 i).cc ((Qw mo)+1) 1) ((nth L3 i).cc-((Qw mo)+1)) ((nth L3 i).cs.drop ((Qw mo)+1)) ((HS.cs_row hi3 h1 aPk).cut om) (by rw[List.length_drop];omega))) (λ⟨b5,c6⟩_=>dBa ?_)))
   refine dV 14 rfl (Qa rfl rfl rfl QH _ rfl om rfl) (Qv (show _=Value.pointer (some ⟨gn1,(QT (pln L)).1*3,none⟩)from by rw[Nat.zero_add]) (dFa 15 ?_))
   refine dSt 16 ?_ (hl:=(by rw[Qi nv3];show _+1<=_;omega))
   refine dTu [] ?_
   refine dNi ?_
   refine aU2 ?_
   refine Qfc (λw h=>HS.cs_set (gn:=gn1) (cap:=cap1) (ca:=b5) (cc:=c6) (cs:=(nth L3 i).cs.drop ((Qw mo)+1)) ho3 h aPk aPk aPk) λL4=>?_
   refine X4 (λw h=>h.1) λhS4=>QZ (λw h=>h.2) ?_
   have hi4:i<L4.length:=by rw[hS4.len];exact hi3
   have hN4:nth L4 i=nth L3 i:=hS4.other hi3 hne
   have hcs4:(Qw mo)+1<=(nth L4 i).cs.length:=by rw[hN4];exact hcs3
   refine aU3 ?_
   refine o_q (Qx rfl rfl Ya (λw h=>HS.nd_cell hi4 h aPk 2 rfl (by decide))) rfl (X4 (λw h=>HS.cs_room hi4 h aPk) λhrC4=>X4 (λw h=>HS.cs_form hi4 h aPk) λhfC4=>aT2 ?_)
   refine aT2 ?_
   refine o_p (QhN ((Qw mo)+1) ((Qw mo)+1) rfl rfl rfl rfl QM om om om om) rfl (Qf (show _=Value.slice (nth L4 i).ca ((Qw mo)+1) ((Qw mo)+1)from by rw[Qq4 _ _ _ hfC4]) (aU2 ?_))
   refine Qah (Q8 rfl rfl rfl Ya rfl aPt (by rw[Qi nv3];show _+1<=_;omega) rfl) (λ_ _=>aU ?_)
   refine QnM (λw h=>HS.cs_setC (gn:=gn1) (cap:=cap1) (m:=(Qw mo)+1) (c:=(Qw mo)+1) hi4 (Nat.le_refl _) om om (λh9 _=>h9) h aPk aPk) λL5=>?_
   exact Yv (λw h=>h.1) λhS5=>YL (λw h=>h.2) (Qp L5 ⟨by rw[hS5.cs,hS4.cs,hS3.es,hS2.es,hN4,hC3,hN2,<-hN1c,<-hN1e,hL1,splA,if_neg (by rw[hN1c,<-hC3];omega)],by rw[hS5.len,hS4.len,hS3.len,hS2.len]⟩ aSx (λw h=>by rw[hS5.len,hS4.len,hS3.len,hS2.len];exact h.ent aEt))
  have hz:(nth L1 i).cs.length=0:=by rw[<-hC3];omega
  refine aU ?_
  exact Qp L3 ⟨by rw[hS3.es,hS2.es,hN2,<-hN1e,hL1,splA,if_pos (by rw[hN1c];exact hz)],by rw[hS3.len,hS2.len]⟩ aSx (λw h=>by rw[hS3.len,hS2.len];exact h.ent aEt)
 intro LA hx
 obtain⟨hA,hlA⟩:=hx
 have hpA:(Xz (i:Int) (splA mo (pln L) i) 0).1<LA.length:=om
 have hNA:(nth LA (Xz (i:Int) (splA mo (pln L) i) 0).1).pl=nth (splA mo (pln L) i) (Xz (i:Int) (splA mo (pln L) i) 0).1:=by rw[<-Qr hpA,hA]
 have hEA:(nth LA (Xz (i:Int) (splA mo (pln L) i) 0).1).es=(nth (splA mo (pln L) i) (Xz (i:Int) (splA mo (pln L) i) 0).1).es:=congrArg Nd.es hNA
 have hCA:(nth LA (Xz (i:Int) (splA mo (pln L) i) 0).1).cs=(nth (splA mo (pln L) i) (Xz (i:Int) (splA mo (pln L) i) 0).1).cs:=congrArg Nd.cs hNA
 rw[<-hEA]at hparE
 rw[<-hCA]at hparC
 have hsAE:=(hsA (Xz (i:Int) (splA mo (pln L) i) 0).1).1
 have hsAC:=(hsA (Xz (i:Int) (splA mo (pln L) i) 0).1).2
 rw[<-hEA]at hsAE
 rw[<-hCA]at hsAC
 refine aU4 ?_
 refine oCq rfl (λw1 h1=>by have h9:=c218 w1 bt j mo rm (some ⟨gn1,0,none⟩) cap1 LA i (HS.tbr h1 aPk) (HS.nt_at h1 aPk aPk) om (λk hk=>by have:=(hsA k).2;rw[<-hA,Qr hk]at this;exact Nat.le_trans this (by decide));rw[hA]at h9;exact h9) (QgE ?_)
 refine o_p (Qa rfl rfl rfl QH _ rfl om rfl) rfl (Qf (show _=Value.pointer (some ⟨gn1,(Xz (i:Int) (splA mo (pln L) i) 0).1*3,none⟩)from by rw[Nat.zero_add]) (aU ?_))
 refine QZ (λw h=>HS.es_take hpA h aPk) (aU2 ?_)
 refine Qu [8,11] QG ?_
 refine dP 0 ?_
 refine dP 1 ?_
 refine dP 2 ?_
 refine dFa 3 ?_
 refine dQ 4 [[],[]] rfl (Qx rfl rfl YE (λw h=>HS.nd_cell hpA h aPk 1 rfl (by decide))) (dP 5 ?_)
 refine dLn 6 [[7],[]] ?_
 refine dH 7 rfl (Qg (cs:=[_,_]) rfl rfl Qy XD rfl rfl rfl) (λb7 _=>dBa ?_)
 refine dH 8 rfl (QE (Cs:=[.own (.slice ((nth LA (Xz (i:Int) (splA mo (pln L) i) 0).1)).ea ((nth LA (Xz (i:Int) (splA mo (pln L) i) 0).1)).es.length ((nth LA (Xz (i:Int) (splA mo (pln L) i) 0).1)).ec) 27 2 ((nth LA (Xz (i:Int) (splA mo (pln L) i) 0).1)).es.length (((nth LA (Xz (i:Int) (splA mo (pln L) i) 0).1)).es.flatMap TEnt.vals),.blk b7 27 2 (TEnt.vals (nth (nth L1 i).es ((Qw mo))))]) rfl QqI rfl aPs (λw1 h1 hf=>Qtk w1 (nth LA (Xz (i:Int) (splA mo (pln L) i) 0).1).ea (Xz (i:Int) (splA mo (pln L) i) 0).2 (nth LA (Xz (i:Int) (splA mo (pln L) i) 0).1).ec (nth LA (Xz (i:Int) (splA mo (pln L) i) 0).1).es (nth (nth L1 i).es ((Qw mo))) b7 1 2 hf om om)) (λb8 _=>dTu [11] ?_)
 refine dP 9 ?_
 refine dFa 10 ?_
 refine dSt 11 ?_ (hl:=(by rw[Qi nv3];show _+1<=_;omega))
 refine dTu [] ?_
 refine dNi ?_
 refine Qe (L':=[(4,_),(9,_),(10,_)]) aSx (λ_ h=>h) ?_
 refine aU2 ?_
 refine Qfc (λw h=>HS.es_setB (gn:=gn1) (cap:=cap1) (ea:=b8.1) (ec:=b8.2) (es:=QP (nth LA (Xz (i:Int) (splA mo (pln L) i) 0).1).es (Xz (i:Int) (splA mo (pln L) i) 0).2 (nth (nth L1 i).es ((Qw mo)))) hpA h aPk aPk aPk) λLB=>?_
 refine X4 (λw h=>h.1) λhSB=>QZ (λw h=>h.2) ?_
 have hpB:(Xz (i:Int) (splA mo (pln L) i) 0).1<LB.length:=by rw[hSB.len];exact hpA
 refine QZ (λw h=>HS.cs_take hpB h aPk) ?_
 have hBC:(nth LB (Xz (i:Int) (splA mo (pln L) i) 0).1).cs=(nth LA (Xz (i:Int) (splA mo (pln L) i) 0).1).cs:=by rw[hSB.at_]
 have hBCl:(nth LB (Xz (i:Int) (splA mo (pln L) i) 0).1).cs.length=(nth LA (Xz (i:Int) (splA mo (pln L) i) 0).1).cs.length:=by rw[hBC]
 refine aU3 ?_
 refine o_q (Qx rfl rfl Ya (λw h=>HS.nd_cell hpB h aPk 2 rfl (by decide))) rfl (aT2 ?_)
 refine aU ?_
 refine o_h (Qg (cs:=[_]) rfl rfl QM YP rfl rfl rfl) rfl (λb9 _=>o_h (QE (Cs:=[.own (.slice ((nth LB (Xz (i:Int) (splA mo (pln L) i) 0).1)).ca ((nth LB (Xz (i:Int) (splA mo (pln L) i) 0).1)).cs.length ((nth LB (Xz (i:Int) (splA mo (pln L) i) 0).1)).cc) 3 1 ((nth LB (Xz (i:Int) (splA mo (pln L) i) 0).1)).cs.length (((nth LB (Xz (i:Int) (splA mo (pln L) i) 0).1)).cs.flatMap inV),.blk b9 3 1 (inV ((QT (pln L)).1:Int))]) rfl QtA rfl aPs (λw1 h1 hf=>QvH w1 (nth LB (Xz (i:Int) (splA mo (pln L) i) 0).1).ca ((Xz (i:Int) (splA mo (pln L) i) 0).2+1) (nth LB (Xz (i:Int) (splA mo (pln L) i) 0).1).cc (nth LB (Xz (i:Int) (splA mo (pln L) i) 0).1).cs ((QT (pln L)).1:Int) b9 1 1 hf om om)) rfl (λb10 _=>aU2 ?_))
 refine Qah (Q8 rfl rfl rfl Ya rfl aPt (by rw[Qi nv3];show _+1<=_;omega) rfl) (λ_ _=>aU ?_)
 exact Za rfl (λw' h'=>by obtain⟨LC,hSC,hC⟩:=HS.cs_setB (gn:=gn1) (cap:=cap1) (ca:=b10.1) (cc:=b10.2) (cs:=QP (nth LB (Xz (i:Int) (splA mo (pln L) i) 0).1).cs ((Xz (i:Int) (splA mo (pln L) i) 0).2+1) ((QT (pln L)).1:Int)) hpB h' aPk aPk aPk;exact⟨((gn1,cap1),LC),rfl,⟨by rw[hSC.cs,hBC,hSB.es,hA,hEA,hCA];unfold Qa2 addP;rw[hN1e],by simp only[];rw[hSC.len,hSB.len,hlA];exact hn1,hm1⟩,by simp only[];rw[hSC.len,hSB.len];exact hC.ent aEt⟩)
theorem c214(w:World)(bt:Nat)(j:Nat)(mo rm:Int)(gn cap:Nat)(L:List LNd)(hw:HS w (fps [.blk bt 166 6 (tbV (j:Int) mo rm (some ⟨gn,0,none⟩) (L).length cap),.blk gn 69 (cap*3) ((L).flatMap LNd.vals),.star ((L).map (QB 27))]) [.blk bt 166 6 (tbV (j:Int) mo rm (some ⟨gn,0,none⟩) (L).length cap),.blk gn 69 (cap*3) ((L).flatMap LNd.vals),.star ((L).map (QB 27))] w)(hnc:L.length<=cap)(hcm:cap<=maxLen)(h0:0<L.length)(hl:L.length<=1000)(hu:(nth (pln L) 0).us=true):CE 214 #[.pointer (some ⟨bt,0,none⟩)] w (fps [.blk bt 166 6 (tbV (j:Int) mo rm (some ⟨gn,0,none⟩) (L).length cap),.blk gn 69 (cap*3) ((L).flatMap LNd.vals),.star ((L).map (QB 27))]) (λg:(Nat×Nat)×List LNd=>.int .i64 ((QT (pln L)).1:Int)) (λg=>(pln g.2=(XZ (pln L)).2/\g.2.length<=g.1.2/\g.1.2<=maxLen)) λg=>[.blk bt 166 6 (tbV (j:Int) mo rm (some ⟨g.1.1,0,none⟩) (g.2).length g.1.2),.blk g.1.1 69 (g.1.2*3) ((g.2).flatMap LNd.vals),.star ((g.2).map (QB 27))]:=by
 have hfl2:=Qcm (pln L)
 rw[Qd]at hfl2
 obtain⟨hne,hfl,hfn⟩:=Qsk (by rw[Qd];exact h0) hu
 refine eW1 Tryz.func214 Tryz.ntmps214 hw ?_
 refine aU7 ?_
 refine o_h (QE (Cs:=[.blk bt 166 6 (tbV (j:Int) mo rm (some ⟨gn,0,none⟩) (L).length cap),.blk gn 69 (cap*3) ((L).flatMap LNd.vals),.star ((L).map (QB 27))]) rfl QoA rfl aPs (λw1 h1 hf=>c248 w1 bt j mo rm gn cap L hf hnc hcm h0 hl)) rfl (λ⟨⟨gn1,cap1⟩,L1⟩hF1=>?_)
 dsimp only
 obtain⟨hL1,hn1,hm1⟩:=hF1
 simp only[]at hL1 hn1 hm1
 have hl1:L1.length=(QT (pln L)).2.length:=by rw[<-hL1,Qd]
 have hi1:0<L1.length:=om
 have ho1:(QT (pln L)).1<L1.length:=om
 have hN1:(nth L1 0).pl=nth (pln L) 0:=by rw[<-Qr hi1,hL1,hfn]
 refine aU9 ?_
 refine o_p (Qa rfl rfl rfl QH (0) om om rfl) rfl (Qf (show _=Value.pointer (some ⟨gn1,0*3,none⟩)from by rw[Nat.zero_add]) (aU3 ?_))
 refine Qu [22,25] QG ?_
 refine dP 0 ?_
 refine dP 1 ?_
 refine dFa 2 ?_
 refine dFa 3 ?_
 refine dLd 4 [[],[]] ?_
 refine dP 5 ?_
 refine dP 6 ?_
 refine dP 7 ?_
 refine dFa 8 ?_
 refine dFa 9 ?_
 refine dLd 10 [[],[]] ?_
 refine dP 11 ?_
 refine dP 12 ?_
 refine dP 13 ?_
 refine dFa 14 ?_
 refine dQ 15 [[],[]] rfl (Qx rfl rfl YE (λw h=>HS.nd_cell hi1 h aPk 1 rfl (by decide))) (dP 16 ?_)
 refine dP 17 ?_
 refine dFa 18 ?_
 refine dQ 19 [[],[]] rfl (Qx rfl rfl Ya (λw h=>HS.nd_cell hi1 h aPk 2 rfl (by decide))) (dV 20 rfl (Qa rfl rfl rfl QH _ rfl om rfl) (Qv (show _=Value.pointer (some ⟨gn1,(QT (pln L)).1*3,none⟩)from by rw[Nat.zero_add]) (dFa 21 ?_)))
 refine dSt 22 ?_ (hl:=(by rw[Qi nv3];show _+1<=_;omega))
 refine dTu [25] ?_
 refine dV 23 rfl (Qa rfl rfl rfl QH _ rfl om rfl) (Qv (show _=Value.pointer (some ⟨gn1,(QT (pln L)).1*3,none⟩)from by rw[Nat.zero_add]) (dFa 24 ?_))
 refine Qep 25 rfl (Q8 rfl rfl rfl Ya rfl aPt (by rw[Qk,Qi nv3];show _+1<=_;omega) rfl) (by kernel_rfl) (λw h=>h.ent aEt) (λ_ _=>?_)
 refine dTu [] ?_
 refine dNi ?_
 refine aU ?_
 refine Qe (L':=[(2,_),(3,_),(4,_)]) aSx (λ_ h=>h) ?_
 refine aU2 ?_
 refine Qfc (λw h=>HS.node_move (i:=0) (gn:=gn1) (cap:=cap1) hi1 ho1 (λe=>hne e.symm) h aPk aPk) λL2=>?_
 refine X4 (λw h=>h.1) λhS2=>QZ (λw h=>h.2) ?_
 have hi2:0<L2.length:=by rw[hS2.len];exact hi1
 have hN2:nth L2 0=nth L1 0:=hS2.other hi1 hne
 rw[<-hN2]
 refine aU2 ?_
 refine o_h (Qg (cs:=[_]) rfl rfl QM YP rfl rfl rfl) rfl (λb1 _=>aU2 ?_)
 refine Qah (Q8 rfl rfl rfl YE rfl aPt (by rw[Qi nv3];show _+1<=_;omega) rfl) (λ_ _=>aU2 ?_)
 refine Qah (Q8 rfl rfl rfl Ya rfl aPt (by rw[Qk,Qi nv3];show _+1<=_;omega) rfl) (λ_ _=>aU6 ?_)
 exact rT rfl rfl (λw' h'=>by obtain⟨LC,hSC,hC⟩:=HS.node_low (i:=0) (gn:=gn1) (cap:=cap1) (ca:=some ⟨b1,0,none⟩) (cc:=1) (cs:=[((QT (pln L)).1:Int)]) hi2 (HS.own_shut (t:=3) (sz:=1) (n:=1) (cap:=1) (h'.pick (A:=.blk b1 3 (1*1) (inV ((QT (pln L)).1:Int))) aPk) rfl (by decide) (by decide)) (.there aPk) .here aPk;exact⟨((gn1,cap1),LC),rfl,⟨by have e2:pln L2=csN (esN (pln L1) (QT (pln L)).1 (nth (pln L) 0).es) (QT (pln L)).1 (nth (pln L) 0).cs:=(by rw[Qfq (by rw[Qd];exact ho1),hS2.pl,Qr ho1,<-hN1];rfl);rw[hSC.pl,XZ,<-hL1,<-e2,Qfq (by rw[Qd];exact hi2),Qr hi2];rfl,by simp only[];rw[hSC.len,hS2.len];exact hn1,hm1⟩,by simp only[];rw[hSC.len,hS2.len];exact hC.ent aEt⟩)
theorem c172(w:World)(a:Option Addr)(n cap:Nat):CE 172 #[.slice a n cap] w [] (λg:Nat=>.func (.func 217) #[] #[.pointer (some ⟨g,0,none⟩)]) (λg=>True) λg=>[.blk g 28 1 [.slice a n cap]]:=by
 refine eN1 Tryz.func172 Tryz.ntmps172 ?_
 refine aU2 ?_
 refine oBx λb1 _=>?_
 refine aU7 ?_
 exact rT rfl rfl (λw' h'=>⟨b1,rfl,trivial,h'.ent aEt⟩)
theorem c217(w:World){G:Type}(w0:World)(M:List Nat)(Cs:Nat->G->List HA)(g0:G)(l b1:Nat)(P:List Nat)(a:Option Addr)(cap:Nat)(hl:P.length<=100000)(hw:HS w0 M (Cs 0 g0) w)(hr:∀k g w,HS w0 M (Cs k g) w->Rd w [] b1 0 (.slice a P.length cap)/\Rw inV 1 w [] a (iN P))(hy:∀k g w,k<P.length->HS w0 M (Cs k g) w->Qie Tryz.prog l #[.int .i64 ((P.length-1-k:Nat):Int),.int .i64 (((nth P (P.length-1-k)):Nat):Int)] w λe w'=>∃g',e=.returned (.bool true)/\True/\HS w0 M (Cs (k+1) g') w'):Calls Tryz.prog 217 #[.func (.yield l) #[] #[],.pointer (some ⟨b1,0,none⟩)] w λen w'=>(∃v,en=.returned v)/\∃x:G,HS w0 M (Cs P.length x) w':=by
 refine eW2 Tryz.func217 Tryz.ntmps217 hw ?_
 refine aU2 ?_
 refine o_q (Qx rfl rfl Ya (λw h=>(hr _ _ w h).1)) rfl (aT2 ?_)
 refine aU3 ?_
 refine Qo (α:=Nat×G) [3,7,8,9,10,11,12,13,14,15,16,17,18] (λx=>[(3,.int .i64 ((P.length:Int)-1-(x.1:Int)))]) (λx=>HS w0 M (Cs x.1 x.2)) (λx=>x.1<=P.length) (λx=>P.length-x.1) (0,g0) (Nat.zero_le _) (by refine Zm (congrArg (λe=>some (Value.int .i64 e)) (show _=_ from by simp only[];omega)) ?_;repeat (first|exact QdL|refine Zm rfl ?_)) (λw h=>h) (λ⟨k,gg⟩hk1=>?_)
 dsimp only
 simp only[]at hk1
 refine aU4 ?_
 refine Qf (show _=Value.int .i64 (((P.length:Int)-1-(k:Int)))from rfl) (aU2 ?_)
 refine sCd rfl (λh1=>?_) λh1=>?_
 ·have hk:k<P.length:=by omega
  refine Yv (λw h=>Rw.some (hr _ _ w h).2 (by rw[Z7];omega)) λhas=>aU7 ?_
  refine Qf (show _=Value.int .i64 ((P.length-1-k:Nat):Int)from by congr 1;omega) (o_q (Qx rfl rfl Ya (λw h=>(hr _ _ w h).1)) rfl (aU ?_))
  refine Qf (show _=Value.int .i64 ((P.length-1-k:Nat):Int)from by congr 1;omega) (o_p (Qa rfl rfl rfl QM (P.length-1-k) om om has) rfl (o_q (Qx rfl rfl Ye (λw h=>by have h9:=(hr _ _ w h).2.rdj 0 (i:=P.length-1-k) (by rw[Z7];omega) rfl;rw[Qlu om]at h9;exact h9)) rfl (o_h (QrP rfl rfl rfl (λw1 h1=>hy k gg w1 hk h1)) rfl (λgy _=>aU2 ?_))))
  refine sCd rfl (λh2=>?_) λh2=>?_
  ·exfalso;first|omega|(simp at h2;done)|(simp_all;done)
  refine aT5 ?_
  refine aU2 ?_
  exact QK (k+1,gy) (by(try simp only[]);omega) (by(try simp only[]);omega) (by refine Zm (congrArg (λe=>some (Value.int .i64 e)) (show _=_ from by simp only[];omega)) ?_;repeat (first|exact QdL|refine Zm rfl ?_)) (λw h=>h)
 obtain rfl:k=P.length:=om
 refine Qh rfl ?_
 exact Za rfl (λw' h'=>⟨⟨_,rfl⟩,gg,h'⟩)
instance:TFn Tryz.prog 172:=⟨by kernel_rfl⟩
theorem Qud:QQ Tryz.prog 217=true:=by kernel_rfl
theorem Qpm:QQ Tryz.prog 213=true:=by kernel_rfl
theorem Quq:QQ Tryz.prog 214=true:=by kernel_rfl
set_option maxHeartbeats 4000000 in
theorem c166(w:World)(bt:Nat)(j:Nat)(mo rm:Int)(gn cap:Nat)(L:List LNd)(P:List Nat)(pa:Option Addr)(pc:Nat)(hw:HS w (fps [.blk bt 166 6 (tbV (j:Int) mo rm (some ⟨gn,0,none⟩) (L).length cap),.blk gn 69 (cap*3) ((L).flatMap LNd.vals),.star ((L).map (QB 27))]) [.blk bt 166 6 (tbV (j:Int) mo rm (some ⟨gn,0,none⟩) (L).length cap),.blk gn 69 (cap*3) ((L).flatMap LNd.vals),.star ((L).map (QB 27))] w)(hnc:L.length<=cap)(hcm:cap<=maxLen)(hP:Rw inV 1 w (fps [.blk bt 166 6 (tbV (j:Int) mo rm (some ⟨gn,0,none⟩) (L).length cap),.blk gn 69 (cap*3) ((L).flatMap LNd.vals),.star ((L).map (QB 27))]) pa (iN P))(hpl:P.length<=100000)(hok:Qcs mo (pln L) P.reverse)(hroot:RootOk mo rm (X6 mo (pln L) P.reverse)):CE 166 #[.pointer (some ⟨bt,0,none⟩),.slice pa P.length pc] w (fps [.blk bt 166 6 (tbV (j:Int) mo rm (some ⟨gn,0,none⟩) (L).length cap),.blk gn 69 (cap*3) ((L).flatMap LNd.vals),.star ((L).map (QB 27))]) (λg:(Nat×Nat)×List LNd=>.tuple #[]) (λg=>(pln g.2=Qff mo rm (pln L) P.reverse/\g.2.length<=g.1.2/\g.1.2<=maxLen)) λg=>[.blk bt 166 6 (tbV (j:Int) mo rm (some ⟨g.1.1,0,none⟩) (g.2).length g.1.2),.blk g.1.1 69 (g.1.2*3) ((g.2).flatMap LNd.vals),.star ((g.2).map (QB 27))]:=by
 refine eW2 Tryz.func166 Tryz.ntmps166 hw ?_
 refine aU2 ?_
 refine oBx λb1 _=>?_
 refine aU5 ?_
 refine oCh rfl (λw1 h1=>c172 w1 pa P.length pc) (λb2 _=>aU2 ?_)
 refine QsV (G:=(Nat×Nat)×List LNd) (Bs:=λg=>[.blk bt 166 6 (tbV (j:Int) mo rm (some ⟨g.1.1,0,none⟩) (g.2).length g.1.2),.blk g.1.1 69 (g.1.2*3) ((g.2).flatMap LNd.vals),.star ((g.2).map (QB 27)),.blk b1 158 1 [.pointer (some ⟨bt,0,none⟩)],.blk b2 28 1 [.slice pa P.length pc],.pure (pln (g.2)=X6 mo (pln L) (P.reverse.take P.length)/\Qcs mo (pln (g.2)) (P.reverse.drop P.length)/\(g.2).length<=g.1.2/\g.1.2<=maxLen)]) rfl rfl rfl Qud (λfid D l a9 w1 ob hob ha9 hw1=>?_) (λD x=>?_)
 ·skip
  refine(c217 w1 w (fps [.blk bt 166 6 (tbV (j:Int) mo rm (some ⟨gn,0,none⟩) (L).length cap),.blk gn 69 (cap*3) ((L).flatMap LNd.vals),.star ((L).map (QB 27))]) (λk g=>.obj l ob::.obj D (.deferred (some []))::[.blk bt 166 6 (tbV (j:Int) mo rm (some ⟨g.1.1,0,none⟩) (g.2).length g.1.2),.blk g.1.1 69 (g.1.2*3) ((g.2).flatMap LNd.vals),.star ((g.2).map (QB 27)),.blk b1 158 1 [.pointer (some ⟨bt,0,none⟩)],.blk b2 28 1 [.slice pa P.length pc],.pure (pln (g.2)=X6 mo (pln L) (P.reverse.take k)/\Qcs mo (pln (g.2)) (P.reverse.drop k)/\(g.2).length<=g.1.2/\g.1.2<=maxLen)]) ((gn,cap),L) l b2 P pa pc hpl ?_ ?_ (λk g w2 hk h2=>?_)).mono λe w2 hx=>?_
  ·exact(HS.add_pure (p:=pln L=X6 mo (pln L) (P.reverse.take 0)/\Qcs mo (pln L) (P.reverse.drop 0)/\L.length<=cap/\cap<=maxLen) ⟨rfl,hok,hnc,hcm⟩ hw1).ent aEt
  ·exactλk g w2 h2=>⟨h2.rd_blk (i:=0) aPk rfl (by simp),hP.later h2⟩
  rotate_left
  ·exact hx
  subst hob
  obtain⟨⟨ga,gc⟩,Lg⟩:=g
  dsimp only at h2
  obtain⟨hg1,hg2,hg3,hg4⟩:=h2.get_pure aPk
  rw[QoX hk]at hg2
  obtain⟨⟨hi,hsp⟩,hnx⟩:=hg2
  have hst:X6 mo (pln L) (P.reverse.take (k+1))=Qbf mo (pln Lg) (nth P (P.length-1-k)):=by rw[Qpk hk,QnR,<-hg1]
  rw[Qd]at hi
  rw[Qr hi]at hsp
  simp only[LNd.pl]at hsp
  refine Qr0 (fn:=Tryz.f166) (As1:=.obj D (.deferred (some []))::[.blk bt 166 6 (tbV (j:Int) mo rm (some ⟨ga,0,none⟩) (Lg).length gc),.blk ga 69 (gc*3) ((Lg).flatMap LNd.vals),.star ((Lg).map (QB 27)),.blk b1 158 1 [.pointer (some ⟨bt,0,none⟩)],.blk b2 28 1 [.slice pa P.length pc],.pure (pln (Lg)=X6 mo (pln L) (P.reverse.take k)/\Qcs mo (pln (Lg)) (P.reverse.drop k)/\(Lg).length<=gc/\gc<=maxLen)]) (L1:=[(5,.int .i64 (((nth P (P.length-1-k)):Nat):Int)),(2,.pointer (some ⟨b1,0,none⟩))]) h2 rfl (FR.round2 ha9 9 10 _ _ rfl rfl) ?_ ?_
  ·skip
   refine aU3 ?_
   exact Qur () aSx (λw h=>h.ent aEt)
  skip
  refine aU2 ?_
  refine QbX (α:=Bool) [11,12,13,14,15,16,17,18,19,20,21,22,23,24,25,26,27,28,29,30] (λx=>[(30,.bool x)]) (λx=>x=true ↔ (0<(nth P (P.length-1-k))/\mo<((nth Lg (nth P (P.length-1-k))).es.length:Int))) ?_ ?_
  ·skip
   refine Qu [] QG ?_
   refine dP 0 ?_
   refine dP 1 ?_
   refine dP 2 ?_
   apply Xu 13
   ·exact rfl
   ·intro hg3
    have hs4:=hg3;try simp only[dT]at hs4
    refine dQo 3 13 [] hg3 rfl rfl rfl (Yh rfl rfl Zk aPk rfl) ?_
    refine dPo 4 13 hg3 ?_
    refine dFo 5 13 hg3 ?_
    refine dFo 6 13 hg3 ?_
    refine dQo 7 13 [] hg3 rfl rfl rfl (Yh rfl rfl Yz aPk rfl) ?_
    refine dPo 8 13 hg3 ?_
    refine dVo 9 13 hg3 rfl rfl rfl (Qa rfl rfl rfl QH ((nth P (P.length-1-k))) om om rfl) ?_
    refine Qv (show _=Value.pointer (some ⟨ga,(nth P (P.length-1-k))*3,none⟩)from by rw[Nat.zero_add]) (dFo 10 13 hg3 ?_)
    refine dQo 11 13 [] hg3 rfl rfl rfl (Qx rfl rfl YE (λw h=>HS.nd_cell hi h aPk 1 rfl (by decide))) ?_
    refine dVo 12 13 hg3 rfl rfl rfl (QX rfl rfl Tryz.underlying67) ?_
    refine dQo 13 13 [] hg3 rfl rfl rfl (Yh rfl rfl Zk aPk rfl) ?_
    refine dPo 14 13 hg3 ?_
    refine dFo 15 13 hg3 ?_
    refine dFo 16 13 hg3 ?_
    refine dQo 17 13 [] hg3 rfl rfl rfl (Yh rfl rfl Ye aPk rfl) ?_
    refine dPo 18 13 hg3 ?_
    refine dV 19 rfl (Xq rfl rfl hg3 rfl) (dNi ?_)
    exact Qp (decide (((nth Lg (nth P (P.length-1-k))).es.length:Int)>mo)) (by rw[decide_eq_true_eq];omega) aSx (λw h=>h.ent aEt)
   intro hg5
   have hs6:=hg5;try simp only[dN]at hs6
   refine dOf 3 13 hg5 ?_
   refine dOf 4 13 hg5 ?_
   refine dOf 5 13 hg5 ?_
   refine dOf 6 13 hg5 ?_
   refine dOf 7 13 hg5 ?_
   refine dOf 8 13 hg5 ?_
   refine dOf 9 13 hg5 ?_
   refine dOf 10 13 hg5 ?_
   refine dOf 11 13 hg5 ?_
   refine dOf 12 13 hg5 ?_
   refine dOf 13 13 hg5 ?_
   refine dOf 14 13 hg5 ?_
   refine dOf 15 13 hg5 ?_
   refine dOf 16 13 hg5 ?_
   refine dOf 17 13 hg5 ?_
   refine dOf 18 13 hg5 ?_
   refine dV 19 rfl (Xe rfl rfl hg5 rfl) (dNi ?_)
   exact Qp false (by constructor<;>intro h9<;>first|(cases h9;done)|omega) aSx (λw h=>h.ent aEt)
  intro x hx
  refine sCd rfl (λh7=>?_) λh7=>?_
  ·obtain⟨hpos,hbig⟩:=hx.1 (by assumption)
   refine aU3 ?_
   refine o_h (QE (Cs:=[.blk bt 166 6 (tbV (j:Int) mo rm (some ⟨ga,0,none⟩) (Lg).length gc),.blk ga 69 (gc*3) ((Lg).flatMap LNd.vals),.star ((Lg).map (QB 27))]) rfl Qpm rfl aPs (λw1 h1 hf=>c213 w1 bt j mo rm ga gc Lg (nth P (P.length-1-k)) hf hg3 hg4 (hsp hpos hbig))) rfl (λ⟨⟨g5,c5⟩,L5⟩hF5=>aU2 ?_)
   exact QjP rfl aPk (λw h=>⟨((g5,c5),L5),rfl,trivial,by exact(HS.add_pure (p:=pln L5=X6 mo (pln L) (P.reverse.take (k+1))/\Qcs mo (pln L5) (P.reverse.drop (k+1))/\L5.length<=c5/\c5<=maxLen) ⟨by rw[hst,Qbf,if_pos ⟨hpos,by rw[Qr hi];exact hbig⟩];exact hF5.1,by have h9:=hnx;rw[Qbf,if_pos ⟨hpos,by rw[Qr hi];exact hbig⟩]at h9;rw[hF5.1];exact h9,hF5.2.1,hF5.2.2⟩ h).ent aEt⟩)
  have hno:¬(0<(nth P (P.length-1-k))/\mo<((nth Lg (nth P (P.length-1-k))).es.length:Int)):=λh9=>by have h8:=hx.2 h9;simp_all
  refine aU2 ?_
  exact QjP rfl aPk (λw h=>⟨((ga,gc),Lg),rfl,trivial,by exact(HS.add_pure (p:=pln Lg=X6 mo (pln L) (P.reverse.take (k+1))/\Qcs mo (pln Lg) (P.reverse.drop (k+1))/\Lg.length<=gc/\gc<=maxLen) ⟨by rw[hst,Qbf,if_neg (by rw[Qr hi];exact hno)],by have h9:=hnx;rw[Qbf,if_neg (by rw[Qr hi];exact hno)]at h9;exact h9,hg3,hg4⟩ h).ent aEt⟩)
 skip
 obtain⟨⟨ga,gc⟩,LG⟩:=x
 dsimp only
 refine Yv (λw h=>h.get_pure aPk) λhpu=>?_
 obtain⟨hLG,_,hg3,hg4⟩:=hpu
 rw[show P.length=P.reverse.length from(List.length_reverse ..).symm,List.take_length]at hLG
 have hiG:0<LG.length:=by rw[<-Qd,hLG];exact hroot.lt
 have hlG:=hroot.len
 rw[<-hLG,Qd]at hlG
 refine aU2 ?_
 refine Qu [] QG ?_
 refine dLd 0 [] ?_
 refine dP 1 ?_
 refine dFa 2 ?_
 refine dFa 3 ?_
 refine dLd 4 [] ?_
 refine dV 5 rfl (Qa rfl rfl rfl QH (0) om om rfl) (Qv (show _=Value.pointer (some ⟨ga,0*3,none⟩)from by rw[Nat.zero_add]) (dFa 6 ?_))
 refine dQ 7 [] rfl (Qx rfl rfl YE (λw h=>HS.nd_cell hiG h aPk 1 rfl (by decide))) (dV 8 rfl (QX rfl rfl Tryz.underlying67) (dLd 9 [] ?_))
 refine dP 10 ?_
 refine dFa 11 ?_
 refine dFa 12 ?_
 refine dLd 13 [] ?_
 refine dP 14 ?_
 refine dNi ?_
 refine sCd rfl (λh8=>?_) λh8=>?_
 ·have hbigR:rm<((nth (pln LG) 0).es.length:Int):=by rw[Qr hiG];exact h8
  refine aU3 ?_
  refine o_h (QE (Cs:=[.blk bt 166 6 (tbV (j:Int) mo rm (some ⟨ga,0,none⟩) (LG).length gc),.blk ga 69 (gc*3) ((LG).flatMap LNd.vals),.star ((LG).map (QB 27))]) rfl Quq rfl aPs (λw1 h1 hf=>c214 w1 bt j mo rm ga gc LG hf hg3 hg4 hiG om (by rw[hLG];exact hroot.us))) rfl (λ⟨⟨g6,c6⟩,L6⟩hF6=>?_)
  dsimp only
  obtain⟨hL6,hn6,hm6⟩:=hF6
  simp only[]at hL6 hn6 hm6
  have ho6:(QT (pln LG)).1<L6.length:=by rw[<-Qd,hL6,hLG];exact Qse _
  refine aU3 ?_
  refine Qu [] QG ?_
  refine dLd 0 [] ?_
  refine dP 1 ?_
  refine dFa 2 ?_
  refine dFa 3 ?_
  refine dLd 4 [] ?_
  refine dP 5 ?_
  refine dV 6 rfl (Qa rfl rfl rfl QH ((QT (pln LG)).1) om om rfl) (Qv (show _=Value.pointer (some ⟨g6,(QT (pln LG)).1*3,none⟩)from by rw[Nat.zero_add]) (dFa 7 ?_))
  refine dQ 8 [] rfl (Qx rfl rfl YE (λw h=>HS.nd_cell ho6 h aPk 1 rfl (by decide))) (dV 9 rfl (QX rfl rfl Tryz.underlying67) (dLd 10 [] ?_))
  refine dP 11 ?_
  refine dFa 12 ?_
  refine dFa 13 ?_
  refine dLd 14 [] ?_
  refine dP 15 ?_
  refine dNi ?_
  refine sCd rfl (λh9=>?_) λh9=>?_
  ·have hbig2:mo<((nth (pln L6) (QT (pln LG)).1).es.length:Int):=by rw[Qr ho6];exact h9
   refine Qe (L':=[(2,_),(6,_)]) aSx (λ_ h=>h) ?_
   refine aU3 ?_
   refine o_h (QE (Cs:=[.blk bt 166 6 (tbV (j:Int) mo rm (some ⟨g6,0,none⟩) (L6).length c6),.blk g6 69 (c6*3) ((L6).flatMap LNd.vals),.star ((L6).map (QB 27))]) rfl Qpm rfl aPs (λw1 h1 hf=>c213 w1 bt j mo rm g6 c6 L6 (QT (pln LG)).1 hf hn6 hm6 (by rw[hL6,hLG];exact hroot.spl (by rw[<-hLG];exact hbigR) (by rw[<-hLG,<-hL6];exact hbig2)))) rfl (λ⟨⟨g7,c7⟩,L7⟩hF7=>aU ?_)
   exact Qla rfl aPk (λw' h'=>by first|exact⟨((g7,c7),L7),rfl,⟨by rw[Qff,<-hLG,Qa4,if_pos hbigR,if_pos (by rw[<-hL6];exact hbig2),<-hL6];exact hF7.1,hF7.2.1,hF7.2.2⟩,h'.ent aEt⟩|exact⟨((g6,c6),L6),rfl,⟨by rw[Qff,<-hLG,Qa4,if_pos hbigR,if_neg (by rw[<-hL6];exact hbig2n),<-hL6],hn6,hm6⟩,h'.ent aEt⟩|exact⟨((ga,gc),LG),rfl,⟨by rw[Qff,<-hLG,Qa4,if_neg hsmR],hg3,hg4⟩,h'.ent aEt⟩)
  have hbig2n:¬mo<((nth (pln L6) (QT (pln LG)).1).es.length:Int):=by rw[Qr ho6];have hq:=h9;simp only[LNd.pl];omega
  refine aU ?_
  exact Qla rfl aPk (λw' h'=>by first|exact⟨((g7,c7),L7),rfl,⟨by rw[Qff,<-hLG,Qa4,if_pos hbigR,if_pos (by rw[<-hL6];exact hbig2),<-hL6];exact hF7.1,hF7.2.1,hF7.2.2⟩,h'.ent aEt⟩|exact⟨((g6,c6),L6),rfl,⟨by rw[Qff,<-hLG,Qa4,if_pos hbigR,if_neg (by rw[<-hL6];exact hbig2n),<-hL6],hn6,hm6⟩,h'.ent aEt⟩|exact⟨((ga,gc),LG),rfl,⟨by rw[Qff,<-hLG,Qa4,if_neg hsmR],hg3,hg4⟩,h'.ent aEt⟩)
 have hsmR:¬rm<((nth (pln LG) 0).es.length:Int):=by rw[Qr hiG];have hq:=h8;simp only[LNd.pl];omega
 refine aU ?_
 exact Qla rfl aPk (λw' h'=>by first|exact⟨((g7,c7),L7),rfl,⟨by rw[Qff,<-hLG,Qa4,if_pos hbigR,if_pos (by rw[<-hL6];exact hbig2),<-hL6];exact hF7.1,hF7.2.1,hF7.2.2⟩,h'.ent aEt⟩|exact⟨((g6,c6),L6),rfl,⟨by rw[Qff,<-hLG,Qa4,if_pos hbigR,if_neg (by rw[<-hL6];exact hbig2n),<-hL6],hn6,hm6⟩,h'.ent aEt⟩|exact⟨((ga,gc),LG),rfl,⟨by rw[Qff,<-hLG,Qa4,if_neg hsmR],hg3,hg4⟩,h'.ent aEt⟩)
instance:TFn Tryz.prog 111:=⟨by kernel_rfl⟩
theorem Qt7:QQ Tryz.prog 166=true:=by kernel_rfl
set_option maxHeartbeats 4000000 in
theorem c108(w:World)(bt:Nat)(j:Nat)(mo rm:Int)(gn cap:Nat)(L:List LNd)(x:TEnt)(hw:HS w (fps [.blk bt 166 6 (tbV (j:Int) mo rm (some ⟨gn,0,none⟩) (L).length cap),.blk gn 69 (cap*3) ((L).flatMap LNd.vals),.star ((L).map (QB 27))]) [.blk bt 166 6 (tbV (j:Int) mo rm (some ⟨gn,0,none⟩) (L).length cap),.blk gn 69 (cap*3) ((L).flatMap LNd.vals),.star ((L).map (QB 27))] w)(hnc:L.length<=cap)(hcm:cap<=maxLen)(hj:j<=3)(h0:0<L.length)(hB:Bd (pln L))(hT:TOk (j:Int) (pln L))(hk:QL (j:Int) x.key=true)(hok:¬(Qt (j:Int) (pln L) x.key).2.2=true->InsOk (j:Int) mo rm (pln L) x):CE 108 #[.pointer (some ⟨bt,0,none⟩),.agg #[.string (bs x.key),.string (bs x.val)]] w (fps [.blk bt 166 6 (tbV (j:Int) mo rm (some ⟨gn,0,none⟩) (L).length cap),.blk gn 69 (cap*3) ((L).flatMap LNd.vals),.star ((L).map (QB 27))]) (λg:(Nat×Nat)×List LNd=>.int .i64 (QdF (j:Int) mo rm (pln L) x)) (λg=>(pln g.2=Qac (j:Int) mo rm (pln L) x/\g.2.length<=g.1.2/\g.1.2<=maxLen)) λg=>[.blk bt 166 6 (tbV (j:Int) mo rm (some ⟨g.1.1,0,none⟩) (g.2).length g.1.2),.blk g.1.1 69 (g.1.2*3) ((g.2).flatMap LNd.vals),.star ((g.2).map (QB 27))]:=by
 have hK:∀i,i<L.length->∀y∈(nth L i).es,QL (j:Int) y.key=true/\y.key.length<=1000000:=λi hi y hy=>QcR hT i (by rw[Qd];exact hi) y (by rw[Qr hi];exact hy)
 have hkl:x.key.length<=1000000:=by have:=QeK hk;omega
 refine eW2 Tryz.func108 Tryz.ntmps108 hw ?_
 refine aU2 ?_
 refine oBx λb1 _=>?_
 refine aU7 ?_
 refine oCh rfl (λw1 h1=>c111 w1 bt j mo rm (some ⟨gn,0,none⟩) cap L x.key hj h0 hB hT hK hk hkl (HS.nt_at h1 aPk aPk) (HS.tbr h1 aPk)) (λ⟨pa,pc⟩_=>?_)
 dsimp only
 refine Qa5 ?_
 refine sCd rfl (λh2=>?_) λh2=>?_
 ·have hfd:(Qt (j:Int) (pln L) x.key).2.2=true:=h2
  refine aU4 ?_
  exact rT rfl rfl (λw' h'=>⟨((gn,cap),L),by simp only[Q3];rw[QdF,if_pos hfd],⟨by simp only[];rw[Qac,if_pos hfd],hnc,hcm⟩,h'.ent aEt⟩)
 have hfd:¬(Qt (j:Int) (pln L) x.key).2.2=true:=by have hq:=h2;simp[hq]
 have hk9:=hok hfd
 have hne:=hk9.ne
 have hlen9:=hk9.len
 have hlf:=hk9.lf
 rw[Qd]at hlf
 have hpl:=hk9.pl
 rw[Qr hlf]at hpl
 have hes9:=hk9.es
 rw[Qr hlf]at hes9
 simp only[LNd.pl]at hpl hes9
 have hpn:(Qt (j:Int) (pln L) x.key).1.length-1<(Qt (j:Int) (pln L) x.key).1.length:=om
 refine Yv (λw h=>HS.kids_some (by rw[Z7];omega) h aPk) λhpa=>?_
 obtain⟨gp,hpa⟩:=hpa
 refine aU2 ?_
 refine Qu [] QG ?_
 refine dP 0 ?_
 refine dP 1 ?_
 refine dFa 2 ?_
 refine dFa 3 ?_
 refine dLd 4 [] ?_
 refine dP 5 ?_
 refine dP 6 ?_
 refine dV 7 rfl (QX rfl rfl Tryz.underlying28) (dP 8 ?_)
 try refine dWr ?_
 refine dV 9 rfl (Qa rfl rfl rfl QM ((Qt (j:Int) (pln L) x.key).1.length-1) om om hpa) (dQ 10 [] rfl (Qx rfl rfl Ye (λw h=>HS.path_rd hpn hpa h aPk)) (Qv (show _=Value.int .i64 (((YZ (j:Int) (pln L) x.key):Nat):Int)from rfl) (dV 11 rfl (Qa rfl rfl rfl QH ((YZ (j:Int) (pln L) x.key)) om om rfl) (Qv (show _=Value.pointer (some ⟨gn,(YZ (j:Int) (pln L) x.key)*3,none⟩)from by rw[Nat.zero_add]) (dP 12 ?_)))))
 refine dNi ?_
 refine aU ?_
 refine YL (λw h=>HS.es_take hlf h aPk) (Qu [8,11] QG ?_)
 refine dP 0 ?_
 refine dP 1 ?_
 refine dP 2 ?_
 refine dFa 3 ?_
 refine dQ 4 [[],[]] rfl (Qx rfl rfl YE (λw h=>HS.nd_cell hlf h aPk 1 rfl (by decide))) (dP 5 ?_)
 refine dLn 6 [[7],[]] ?_
 refine dH 7 rfl (Qg (cs:=[_,_]) rfl rfl Qy XD rfl rfl rfl) (λb3 _=>dBa ?_)
 refine dH 8 rfl (QE (Cs:=[.own (.slice ((nth L (YZ (j:Int) (pln L) x.key))).ea ((nth L (YZ (j:Int) (pln L) x.key))).es.length ((nth L (YZ (j:Int) (pln L) x.key))).ec) 27 2 ((nth L (YZ (j:Int) (pln L) x.key))).es.length (((nth L (YZ (j:Int) (pln L) x.key))).es.flatMap TEnt.vals),.blk b3 27 2 (TEnt.vals x)]) rfl QqI rfl aPs (λw1 h1 hf=>Qtk w1 (nth L (YZ (j:Int) (pln L) x.key)).ea (Qt (j:Int) (pln L) x.key).2.1 (nth L (YZ (j:Int) (pln L) x.key)).ec (nth L (YZ (j:Int) (pln L) x.key)).es x b3 1 2 hf om hpl)) (λb4 _=>dTu [11] ?_)
 refine dP 9 ?_
 refine dFa 10 ?_
 refine dSt 11 ?_ (hl:=(by rw[Qi nv3];show _+1<=_;omega))
 refine dTu [] ?_
 refine dNi ?_
 refine aU ?_
 refine Qe (L':=[(0,_),(4,_),(5,_)]) aSx (λ_ h=>h) ?_
 refine aU2 ?_
 refine Qfc (λw h=>HS.es_setB (gn:=gn) (cap:=cap) (ea:=b4.1) (ec:=b4.2) (es:=QP (nth L (YZ (j:Int) (pln L) x.key)).es (Qt (j:Int) (pln L) x.key).2.1 x) hlf h aPk aPk aPk) λL2=>?_
 refine X4 (λw h=>h.1) λhS2=>QZ (λw h=>h.2) ?_
 have hL2:pln L2=QiE (j:Int) (pln L) x:=by rw[hS2.es,QiE,Qr hlf];rfl
 refine QZ (C':=HS w (fps [.blk bt 166 6 (tbV (j:Int) mo rm (some ⟨gn,0,none⟩) (L).length cap),.blk gn 69 (cap*3) ((L).flatMap LNd.vals),.star ((L).map (QB 27))]) [.blk bt 166 6 (tbV (j:Int) mo rm (some ⟨gn,0,none⟩) (L2).length cap),.blk gn 69 (cap*3) ((L2).flatMap LNd.vals),.star ((L2).map (QB 27)),.kids pa pc (iN (Qt (j:Int) (pln L) x.key).1)]) (λw2 h=>by rw[hS2.len];exact h.ent aEt) (aU ?_)
 refine o_h (QE (Cs:=[.blk bt 166 6 (tbV (j:Int) mo rm (some ⟨gn,0,none⟩) (L2).length cap),.blk gn 69 (cap*3) ((L2).flatMap LNd.vals),.star ((L2).map (QB 27))]) rfl Qt7 rfl aPs (λw1 h1 hf=>c166 w1 bt j mo rm gn cap L2 (Qt (j:Int) (pln L) x.key).1 pa pc hf (by rw[hS2.len];exact hnc) hcm (HS.rw_ownF (n:=(iN (Qt (j:Int) (pln L) x.key).1).length) iv1 h1 aPs aPk rfl) om (by rw[hL2];exact hk9.grw) (by rw[hL2];exact hk9.root))) rfl (λ⟨⟨g5,c5⟩,L5⟩hF5=>?_)
 dsimp only
 obtain⟨hL5,hn5,hm5⟩:=hF5
 simp only[]at hL5 hn5 hm5
 have hI:Qac (j:Int) mo rm (pln L) x=pln L5:=by rw[Qac,if_neg hfd,hL5,hL2]
 have hIl:(Qac (j:Int) mo rm (pln L) x).length=L5.length:=by rw[hI,Qd]
 refine Zo ?_
 refine oCq rfl (λw1 h1=>QdM w1 _ _) (aU2 ?_)
 exact rT rfl rfl (λw' h'=>⟨((g5,c5),L5),by simp only[Q3];congr 2;rw[QdF,if_neg hfd,hIl];exact(Nat.lt_or_ge 120 L5.length).elim (λh120=>by rw[if_neg om,decide_eq_false om];rfl) (λh120=>by rw[if_pos h120,decide_eq_true om];rfl),⟨hI.symm,hn5,hm5⟩,h'.ent aEt⟩)
theorem Qo6:QQ Tryz.prog 168=true:=by kernel_rfl
instance:TFn Tryz.prog 169:=⟨by kernel_rfl⟩
theorem c169(w:World)(n m:LNd)(hne:Rw TEnt.vals 2 w [] n.ea n.es)(hnc:Rw inV 1 w [] n.ca n.cs)(hme:Rw TEnt.vals 2 w [] m.ea m.es)(hmc:Rw inV 1 w [] m.ca m.cs)(h1:n.es.length<=100000/\n.cs.length<=100000)(h2:m.es.length<=100000/\m.cs.length<=100000):CR 169 #[.agg #[.bool n.us,.slice n.ea n.es.length n.ec,.slice n.ca n.cs.length n.cc],.agg #[.bool m.us,.slice m.ea m.es.length m.ec,.slice m.ca m.cs.length m.cc]] w (.bool (decide (n.pl=m.pl))):=by
 refine eN2 Tryz.func169 Tryz.ntmps169 ?_
 refine aU2 ?_
 refine oBx λb1 _=>?_
 refine oBx λb2 _=>?_
 refine aU8 ?_
 refine o_p (Qgt rfl rfl rfl Tryz.underlying4) rfl (aU ?_)
 refine X0 6 10 16 rfl
  (λhg3 _=>by
   refine aU9 ?_
   refine oCq rfl (λw1 h1=>c208 w1 n.ea m.ea n.ec m.ec n.es m.es (hne.later h1.nil) (hme.later h1.nil) om om) ?_
   exact oJt 6 16)
  (λhg5 _=>by
   refine aU5 ?_
   exact oJf 6 16) ?_
 refine aU ?_
 refine X0 6 17 23 rfl
  (λhg7 _=>by
   refine aU9 ?_
   refine oCq rfl (λw1 h1=>c209 w1 n.ca m.ca n.cc m.cc n.cs m.cs (hnc.later h1.nil) (hmc.later h1.nil) om om) ?_
   exact oJt 6 23)
  (λhg9 _=>by
   refine aU5 ?_
   exact oJf 6 23) ?_
 refine aU2 ?_
 exact rV (h:=by simp only[Q3];rw[QkI])
theorem c168(w:World)(a:Option Addr)(cap:Nat)(L:List LNd)(k:Nat)(hs:Rw LNd.vals 3 w [] a L):CR 168 #[.slice a L.length cap,.int .i64 (k:Int)] w (.agg (LNd.vals (nth L k)).toArray):=by
 refine eN2 Tryz.func168 Tryz.ntmps168 ?_
 refine aU2 ?_
 refine oAl (λb1 _=>?_) Xc
 refine aU9 ?_
 refine sCd rfl (λh2=>?_) λh2=>?_
 ·refine aU3 ?_
  refine o_p (Qa rfl rfl rfl QH (k) om om (Rw.some hs om)) rfl (o_q (QI _ rfl rfl Xv rfl (Rw.rd hs om)) rfl (aU7 ?_))
  exact Qj (rs:=[.cell 4 69]) rfl (.cell rfl Xv aPk rfl (.nil)) (λw' h'=>⟨by first|rfl|(rw[Yy om];rfl),h'.below⟩)
 refine aU6 ?_
 exact Qj (rs:=[.cell 4 69]) rfl (.cell rfl Xv aPk rfl (.nil)) (λw' h'=>⟨by first|rfl|(rw[Yy om];rfl),h'.below⟩)
theorem c109(w:World)(a b:Option Addr)(ca cb:Nat)(L M:List LNd)(hs:Nt w [] a L)(ht:Nt w [] b M)(hL:L.length<=1000)(hM:M.length<=1000)(hLs:Sm 100000 (pln L))(hMs:Sm 100000 (pln M)):CE 109 #[.slice a L.length ca,.slice b M.length cb] w [] (λg:Option Addr×Nat=>.slice g.1 (QeS (pln L) (pln M)).length g.2) (λg=>True) λg=>[.own (.slice g.1 ((QeS (pln L) (pln M))).length g.2) 3 1 ((QeS (pln L) (pln M))).length (((QeS (pln L) (pln M))).map λi:Nat=>Value.int .i64 (i:Int))]:=by
 refine eN2 Tryz.func109 Tryz.ntmps109 ?_
 refine aU19 ?_
 refine o_p (Qgg rfl rfl rfl ) rfl (aU3 ?_)
 refine Qo (α:=Nat×Option Addr×Nat) [6,7,13,14,15,16,17,18,19,20,21,22,23,24,25,26,27,28,29,30] (λx=>[(13,.int .i64 (x.1:Int)),(6,.slice x.2.1 (Qfi (pln L) (pln M) x.1).length x.2.2)]) (λx=>HS w [] [.own (.slice x.2.1 ((Qfi (pln L) (pln M) x.1)).length x.2.2) 3 1 ((Qfi (pln L) (pln M) x.1)).length (((Qfi (pln L) (pln M) x.1)).map λi:Nat=>Value.int .i64 (i:Int))]) (λx=>x.1<=(max L.length M.length)) (λx=>(max L.length M.length)-x.1) (0,none,0) (Nat.zero_le _) aSx (λw h=>(h.own_nil 3 1).ent aEt) (λ⟨k,ga,gc⟩hk1=>?_)
 dsimp only
 simp only[]at hk1
 refine aU5 ?_
 refine sCd rfl (λh1=>?_) λh1=>?_
 ·have hk:k<(max L.length M.length):=by have hq:=h1;omega
  have hkl:=Qqz (pln L) (pln M) k
  refine Qa5 ?_
  refine o_q (Xj rfl rfl Qo6 rfl (λw1 h1=>c168 w1 a ca L k (Rw.later hs.1 h1.nil))) rfl (aU3 ?_)
  refine o_q (Xj rfl rfl Qo6 rfl (λw1 h1=>c168 w1 b cb M k (Rw.later ht.1 h1.nil))) rfl (oCq rfl (λw1 h1=>c169 w1 (nth L k) (nth M k) ((hs.esA k).later h1.nil) ((hs.csA k).later h1.nil) ((ht.esA k).later h1.nil) ((ht.csA k).later h1.nil) (by have:=hLs k;rw[Q1]at this;exact this) (by have:=hMs k;rw[Q1]at this;exact this)) (aU2 ?_))
  refine sCd rfl (λh2=>?_) λh2=>?_
  ·have hne9:nth (pln L) k≠nth (pln M) k:=by rw[Q1,Q1];have hq:=h2;simpa using hq
   have hst:=Qs0 hne9
   refine aU3 ?_
   refine o_h (Qg (cs:=[_]) rfl rfl QM YP rfl rfl rfl) rfl (λb3 _=>o_h (QO [_] rfl rfl rfl QM Tryz.underlying28 YP rfl aPk (Q7 aPk) rfl (by intro u hu;simp only[List.mem_cons,List.mem_nil_iff,or_false]at hu;subst hu;rfl) om (by simp only[maxLen];omega)) rfl (λb4 _=>aT5 ?_))
   refine aU2 ?_
   exact QK (k+1,b4.1,b4.2) (by(try simp only[]);omega) (by(try simp only[]);omega) (by dsimp only;rw[hst];simp only[List.length_append,List.length_singleton];exact aSx) (λw h=>by have h2:=h;dsimp only;rw[hst];simp only[List.length_append,List.length_singleton,List.map_append,List.map_cons,List.map_nil];exact h2.ent aEt)
  have hne9:nth (pln L) k=nth (pln M) k:=by rw[Q1,Q1];have hq:=h2;simpa using hq
  have hst:=QsE hne9
  refine aT4 ?_
  refine aU2 ?_
  exact QK (k+1,ga,gc) (by(try simp only[]);omega) (by(try simp only[]);omega) (by dsimp only;rw[hst];exact aSx) (λw h=>by dsimp only;rw[hst];exact h.ent aEt)
 obtain rfl:k=(max L.length M.length):=om
 refine Qh rfl ?_
 refine aU5 ?_
 exact rT rfl rfl (λw' h'=>⟨(ga,gc),by unfold QeS;rw[Qd,Qd];rfl,trivial,by unfold QeS;rw[Qd,Qd];exact h'.ent aEt⟩)
instance:TFn Tryz.prog 210:=⟨by kernel_rfl⟩
instance:TFn Tryz.prog 163:=⟨by kernel_rfl⟩
theorem Qv6(w:World)(co mo rm:Int)(a:Option Addr)(cap:Nat)(L:List LNd)(hs:Nt w [] a L)(hB:Bd (pln L))(hkl:∀i,i<L.length->∀x∈(nth L i).es,x.key.length<=1000000)(he:¬(XQ (⟨co,mo,rm,pln L⟩:Tre)).2=0):CR 163 #[.agg #[.int .i64 co,.int .i64 mo,.int .i64 rm,.slice a L.length cap]] w (.tuple #[.pointer none,.int .i64 (XQ (⟨co,mo,rm,pln L⟩:Tre)).2]):=by
 refine eN1 Tryz.func163 Tryz.ntmps163 ?_
 refine aU2 ?_
 refine oBx λb1 _=>?_
 refine aU7 ?_
 refine oCq rfl (λw1 h1=>Qr1 w1 co mo rm a cap L (hs.later h1.nil) hB hkl) (Zw ?_)
 refine sCd rfl (λh2=>?_) λh2=>?_
 ·refine aU6 ?_
  exact Qj (rs:=[.tmp 2,.tmp 3]) rfl (.tmp rfl (.tmp rfl (.nil))) (λw' h'=>⟨rfl,h'.below⟩)
 exfalso;first|omega|(simp at h2;done)|(simp_all;done)
theorem Qv7(w:World)(j:Nat)(mo rm:Int)(a:Option Addr)(cap:Nat)(L:List LNd)(hs:Nt w [] a L)(hB:Bd (pln L))(hkl:∀i,i<L.length->∀x∈(nth L i).es,x.key.length<=1000000)(h0:(XQ (⟨(j:Int),mo,rm,pln L⟩:Tre)).2=0):CE 163 #[.agg #[.int .i64 (j:Int),.int .i64 mo,.int .i64 rm,.slice a L.length cap]] w [] (λg:Nat×(Nat×Nat)×List LNd=>.tuple #[.pointer (some ⟨g.1,0,none⟩),.int .i64 (0)]) (λg=>(pln g.2.2=pln L/\g.2.2.length<=g.2.1.2/\g.2.1.2<=maxLen)) λg=>[.blk g.1 166 6 (tbV (j:Int) mo rm (some ⟨g.2.1.1,0,none⟩) (g.2.2).length g.2.1.2),.blk g.2.1.1 69 (g.2.1.2*3) ((g.2.2).flatMap LNd.vals),.star ((g.2.2).map (QB 27))]:=by
 obtain⟨hc0,hz0,hl0,hl120,hn0,_,_⟩:=ZC h0
 rw[show((⟨(j:Int),mo,rm,pln L⟩:Tre)).ns=pln L from rfl,Qd]at hl0 hl120
 have hj:j<=3:=by obtain⟨j9,e9,hj9⟩:=Qa7 hc0;have e8:((j:Nat):Int)=(j9:Int):=e9;omega
 have hT:TOk (j:Int) (pln L):=Qaa (t:=(⟨(j:Int),mo,rm,pln L⟩:Tre)) hn0
 have hmo:=(Qcn hz0).1
 simp only[]at hmo
 refine eN1 Tryz.func163 Tryz.ntmps163 ?_
 refine aU2 ?_
 refine oBx λb1 _=>?_
 refine aU7 ?_
 refine oCq rfl (λw1 h1=>Qr1 w1 (j:Int) mo rm a cap L (hs.later h1.nil) hB hkl) (Zw ?_)
 refine sCd rfl (λh2=>?_) λh2=>?_
 ·exfalso;first|omega|(simp at h2;done)|(simp_all;done)
 refine aU4 ?_
 refine oCh rfl (λw1 h1=>c210 w1 j mo rm a cap L (hs.later h1.nil) hB hj hl0) (λ⟨b9,⟨a9,c9⟩,L9⟩hF9=>?_)
 dsimp only
 refine aU3 ?_
 exact Qj (rs:=[.tmp 2,.tmp 3]) rfl (.tmp rfl (.tmp rfl (.nil))) (λw' h'=>by obtain⟨g9,rfl,hl9,hm9,h2⟩:=QeZ (by rw[<-Qd,hF9,Qd];exact hl0) h' aPk;exact⟨(b9,(g9,c9),L9),rfl,⟨hF9,hl9,hm9⟩,h2.ent aEt⟩)
theorem Qv5(w:World)(co mo rm:Int)(a:Option Addr)(cap:Nat)(L:List LNd)(x:TEnt)(hs:Nt w [] a L)(hB:Bd (pln L))(hkl:∀i,i<L.length->∀x∈(nth L i).es,x.key.length<=1000000)(he:¬(XQ (⟨co,mo,rm,pln L⟩:Tre)).2=0):CR 107 #[.agg #[.int .i64 co,.int .i64 mo,.int .i64 rm,.slice a L.length cap],.agg #[.string (bs x.key),.string (bs x.val)]] w (.tuple #[.pointer none,.int .i64 (XQ (⟨co,mo,rm,pln L⟩:Tre)).2]):=by
 refine eN2 Tryz.func107 Tryz.ntmps107 ?_
 refine aU2 ?_
 refine oBx λb1 _=>?_
 refine oBx λb2 _=>?_
 refine aU6 ?_
 refine oCq rfl (λw1 h1=>Qv6 w1 co mo rm a cap L (hs.later h1.nil) hB hkl he) (Zg ?_)
 refine sCd rfl (λh3=>?_) λh3=>?_
 ·exfalso;first|omega|(simp at h3;done)|(simp_all;done)
 refine aU8 ?_
 exact Qj (rs:=[.tmp 4,.tmp 5]) rfl (.tmp rfl (.tmp rfl (.nil))) (λw' h'=>⟨rfl,h'.below⟩)
theorem Qqx(w:World)(j:Nat)(mo rm:Int)(a:Option Addr)(cap:Nat)(L:List LNd)(x:TEnt)(hs:Nt w [] a L)(hB:Bd (pln L))(hkl:∀i,i<L.length->∀x∈(nth L i).es,x.key.length<=1000000)(hkk:x.key.length<=1000000)(h0:(XQ (⟨(j:Int),mo,rm,pln L⟩:Tre)).2=0):CE 107 #[.agg #[.int .i64 (j:Int),.int .i64 mo,.int .i64 rm,.slice a L.length cap],.agg #[.string (bs x.key),.string (bs x.val)]] w [] (λg:Nat×(Nat×Nat)×List LNd=>.tuple #[.pointer (some ⟨g.1,0,none⟩),.int .i64 (Yc (j:Int) x)]) (λg=>(pln g.2.2=pln L/\g.2.2.length<=g.2.1.2/\g.2.1.2<=maxLen)) λg=>[.blk g.1 166 6 (tbV (j:Int) mo rm (some ⟨g.2.1.1,0,none⟩) (g.2.2).length g.2.1.2),.blk g.2.1.1 69 (g.2.1.2*3) ((g.2.2).flatMap LNd.vals),.star ((g.2.2).map (QB 27))]:=by
 obtain⟨hc0,hz0,hl0,hl120,hn0,_,_⟩:=ZC h0
 rw[show((⟨(j:Int),mo,rm,pln L⟩:Tre)).ns=pln L from rfl,Qd]at hl0 hl120
 have hj:j<=3:=by obtain⟨j9,e9,hj9⟩:=Qa7 hc0;have e8:((j:Nat):Int)=(j9:Int):=e9;omega
 have hT:TOk (j:Int) (pln L):=Qaa (t:=(⟨(j:Int),mo,rm,pln L⟩:Tre)) hn0
 have hmo:=(Qcn hz0).1
 simp only[]at hmo
 refine eN2 Tryz.func107 Tryz.ntmps107 ?_
 refine aU2 ?_
 refine oBx λb1 _=>?_
 refine oBx λb2 _=>?_
 refine aU6 ?_
 refine oCh rfl (λw1 h1=>Qv7 w1 j mo rm a cap L (hs.later h1.nil) hB hkl h0) (λg9 hF9=>Zg ?_)
 refine sCd rfl (λh3=>?_) λh3=>?_
 ·refine aU4 ?_
  refine oCq rfl (λw1 h1=>c164 w1 j x hj hkk) (aU9 ?_)
  exact Qj (rs:=[.tmp 4,.tmp 5]) rfl (.tmp rfl (.tmp rfl (.nil))) (λw' h'=>⟨g9,rfl,hF9,h'.ent aEt⟩)
 exfalso;first|omega|(simp at h3;done)|(simp_all;done)
instance:TFn Tryz.prog 107:=⟨by kernel_rfl⟩
theorem Qpo:QQ Tryz.prog 108=true:=by kernel_rfl
theorem QuV:QQ Tryz.prog 109=true:=by kernel_rfl
theorem c45e(w:World)(co mo rm:Int)(a:Option Addr)(cap:Nat)(L:List LNd)(x:TEnt)(hs:Nt w [] a L)(hB:Bd (pln L))(hkl:∀i,i<L.length->∀x∈(nth L i).es,x.key.length<=1000000)(he:¬(XQ (⟨co,mo,rm,pln L⟩:Tre)).2=0):CR 45 #[.agg #[.int .i64 co,.int .i64 mo,.int .i64 rm,.slice a L.length cap],.agg #[.string (bs x.key),.string (bs x.val)]] w (.tuple #[.agg #[.int .i64 0,.int .i64 0,.int .i64 0,.slice none 0 0],.slice none 0 0,.int .i64 (XQ (⟨co,mo,rm,pln L⟩:Tre)).2]):=by
 refine eN2 Tryz.func45 Tryz.ntmps45 ?_
 refine aU2 ?_
 refine oBx λb1 _=>?_
 refine oBx λb2 _=>?_
 refine oAl (λb3 _=>?_) Xn
 refine aU7 ?_
 refine oCq rfl (λw1 h1=>Qv5 w1 co mo rm a cap L x (hs.later h1.nil) hB hkl he) (Zg ?_)
 refine sCd rfl (λh4=>?_) λh4=>?_
 ·exfalso;first|omega|(simp at h4;done)|(simp_all;done)
 refine aU7 ?_
 refine sCd rfl (λh5=>?_) λh5=>?_
 ·refine aU2 ?_
  refine o_p (QF (cs:=[_,_,_,_]) rfl rfl ZQ Xn rfl) rfl (aU5 ?_)
  exact Qj (rs:=[.cell 4 37,.tmp 5,.tmp 6]) rfl (.cell rfl XM aPk rfl (.tmp rfl (.tmp rfl (.nil)))) (λw' h'=>⟨rfl,h'.below⟩)
 exfalso;first|omega|(simp at h5;done)|(simp_all;done)
theorem c45x(w:World)(j:Nat)(mo rm:Int)(a:Option Addr)(cap:Nat)(L:List LNd)(x:TEnt)(hs:Nt w [] a L)(hB:Bd (pln L))(hkl:∀i,i<L.length->∀x∈(nth L i).es,x.key.length<=1000000)(hkk:x.key.length<=1000000)(h0:(XQ (⟨(j:Int),mo,rm,pln L⟩:Tre)).2=0)(hx:¬Yc (j:Int) x=0):CR 45 #[.agg #[.int .i64 (j:Int),.int .i64 mo,.int .i64 rm,.slice a L.length cap],.agg #[.string (bs x.key),.string (bs x.val)]] w (.tuple #[.agg #[.int .i64 0,.int .i64 0,.int .i64 0,.slice none 0 0],.slice none 0 0,.int .i64 (Yc (j:Int) x)]):=by
 obtain⟨hc0,hz0,hl0,hl120,hn0,_,_⟩:=ZC h0
 rw[show((⟨(j:Int),mo,rm,pln L⟩:Tre)).ns=pln L from rfl,Qd]at hl0 hl120
 have hj:j<=3:=by obtain⟨j9,e9,hj9⟩:=Qa7 hc0;have e8:((j:Nat):Int)=(j9:Int):=e9;omega
 have hT:TOk (j:Int) (pln L):=Qaa (t:=(⟨(j:Int),mo,rm,pln L⟩:Tre)) hn0
 have hmo:=(Qcn hz0).1
 simp only[]at hmo
 refine eN2 Tryz.func45 Tryz.ntmps45 ?_
 refine aU2 ?_
 refine oBx λb1 _=>?_
 refine oBx λb2 _=>?_
 refine oAl (λb3 _=>?_) Xn
 refine aU7 ?_
 refine oCh rfl (λw1 h1=>Qqx w1 j mo rm a cap L x (hs.later h1.nil) hB hkl hkk h0) (λ⟨b9,⟨gn9,c9⟩,L9⟩hF9=>?_)
 dsimp only
 obtain⟨hL9,hn9,hm9⟩:=hF9
 simp only[]at hL9 hn9 hm9
 have hl9:L9.length=L.length:=by rw[<-Qd L9,hL9,Qd]
 have hB9:Bd (pln L9):=by rw[hL9];exact hB
 have hT9:TOk (j:Int) (pln L9):=by rw[hL9];exact hT
 have hK9:∀i,i<L9.length->∀y∈(nth L9 i).es,QL (j:Int) y.key=true/\y.key.length<=1000000:=λi hi y hy=>QcR hT9 i (by rw[Qd];exact hi) y (by rw[Qr hi];exact hy)
 refine Zg ?_
 refine sCd rfl (λh4=>?_) λh4=>?_
 ·exfalso;first|omega|(simp at h4;done)|(simp_all;done)
 refine aU7 ?_
 refine sCd rfl (λh5=>?_) λh5=>?_
 ·refine aU2 ?_
  refine o_p (QF (cs:=[_,_,_,_]) rfl rfl ZQ Xn rfl) rfl (aU5 ?_)
  exact Qj (rs:=[.cell 4 37,.tmp 5,.tmp 6]) rfl (.cell rfl XM aPk rfl (.tmp rfl (.tmp rfl (.nil)))) (λw' h'=>⟨rfl,h'.below⟩)
 exfalso;first|omega|(simp at h5;done)|(simp_all;done)
theorem c45c(w:World)(j:Nat)(mo rm:Int)(a:Option Addr)(cap:Nat)(L:List LNd)(x:TEnt)(hs:Nt w [] a L)(hB:Bd (pln L))(hkl:∀i,i<L.length->∀x∈(nth L i).es,x.key.length<=1000000)(h0:(XQ (⟨(j:Int),mo,rm,pln L⟩:Tre)).2=0)(hkk:x.key.length<=1000000)(hx0:Yc (j:Int) x=0)(hins:¬(Qt (j:Int) (pln L) x.key).2.2=true->InsOk (j:Int) mo rm (pln L) x)(hx:¬(QdF (j:Int) mo rm (pln L) x)=0):CR 45 #[.agg #[.int .i64 (j:Int),.int .i64 mo,.int .i64 rm,.slice a L.length cap],.agg #[.string (bs x.key),.string (bs x.val)]] w (.tuple #[.agg #[.int .i64 0,.int .i64 0,.int .i64 0,.slice none 0 0],.slice none 0 0,.int .i64 (QdF (j:Int) mo rm (pln L) x)]):=by
 obtain⟨hc0,hz0,hl0,hl120,hn0,_,_⟩:=ZC h0
 rw[show((⟨(j:Int),mo,rm,pln L⟩:Tre)).ns=pln L from rfl,Qd]at hl0 hl120
 have hj:j<=3:=by obtain⟨j9,e9,hj9⟩:=Qa7 hc0;have e8:((j:Nat):Int)=(j9:Int):=e9;omega
 have hT:TOk (j:Int) (pln L):=Qaa (t:=(⟨(j:Int),mo,rm,pln L⟩:Tre)) hn0
 have hmo:=(Qcn hz0).1
 simp only[]at hmo
 have hkey:QL (j:Int) x.key=true:=QaB hx0
 refine eN2 Tryz.func45 Tryz.ntmps45 ?_
 refine aU2 ?_
 refine oBx λb1 _=>?_
 refine oBx λb2 _=>?_
 refine oAl (λb3 _=>?_) Xn
 refine aU7 ?_
 refine oCh rfl (λw1 h1=>Qqx w1 j mo rm a cap L x (hs.later h1.nil) hB hkl hkk h0) (λ⟨b9,⟨gn9,c9⟩,L9⟩hF9=>?_)
 dsimp only
 obtain⟨hL9,hn9,hm9⟩:=hF9
 simp only[]at hL9 hn9 hm9
 have hl9:L9.length=L.length:=by rw[<-Qd L9,hL9,Qd]
 have hB9:Bd (pln L9):=by rw[hL9];exact hB
 have hT9:TOk (j:Int) (pln L9):=by rw[hL9];exact hT
 have hK9:∀i,i<L9.length->∀y∈(nth L9 i).es,QL (j:Int) y.key=true/\y.key.length<=1000000:=λi hi y hy=>QcR hT9 i (by rw[Qd];exact hi) y (by rw[Qr hi];exact hy)
 refine Zg ?_
 refine sCd rfl (λh4=>?_) λh4=>?_
 ·refine aU3 ?_
  refine o_h (QE (Cs:=[.blk b9 166 6 (tbV (j:Int) mo rm (some ⟨gn9,0,none⟩) (L9).length c9),.blk gn9 69 (c9*3) ((L9).flatMap LNd.vals),.star ((L9).map (QB 27))]) rfl Qpo rfl aPs (λw1 h1 hf=>c108 w1 b9 j mo rm gn9 c9 L9 x hf hn9 hm9 hj om hB9 hT9 hkey (by rw[hL9];exact hins))) rfl (λ⟨⟨g5,c5⟩,L5⟩hF5=>?_)
  dsimp only
  refine Qf (show _=Value.int .i64 (QdF (j:Int) mo rm (pln L) x)from by rw[hL9]) (aU8 ?_)
  refine sCd rfl (λh5=>?_) λh5=>?_
  ·refine aU2 ?_
   refine o_p (QF (cs:=[_,_,_,_]) rfl rfl ZQ Xn rfl) rfl (aU5 ?_)
   exact Qj (rs:=[.cell 4 37,.tmp 5,.tmp 6]) rfl (.cell rfl XM aPk rfl (.tmp rfl (.tmp rfl (.nil)))) (λw' h'=>⟨rfl,h'.below⟩)
  exfalso;first|omega|(simp at h5;done)|(simp_all;done)
 exfalso;first|omega|(simp at h4;done)|(simp_all;done)
theorem c45o(w:World)(j:Nat)(mo rm:Int)(a:Option Addr)(cap:Nat)(L:List LNd)(x:TEnt)(hs:Nt w [] a L)(hB:Bd (pln L))(hkl:∀i,i<L.length->∀x∈(nth L i).es,x.key.length<=1000000)(h0:(XQ (⟨(j:Int),mo,rm,pln L⟩:Tre)).2=0)(hkk:x.key.length<=1000000)(hx0:Yc (j:Int) x=0)(hins:¬(Qt (j:Int) (pln L) x.key).2.2=true->InsOk (j:Int) mo rm (pln L) x)(hx:(QdF (j:Int) mo rm (pln L) x)=0)(hso:Sm 100000 (Qac (j:Int) mo rm (pln L) x)):CE 45 #[.agg #[.int .i64 (j:Int),.int .i64 mo,.int .i64 rm,.slice a L.length cap],.agg #[.string (bs x.key),.string (bs x.val)]] w [] (λg:((Nat×Nat)×List LNd)×(Option Addr×Nat)=>.tuple #[.agg #[.int .i64 (j:Int),.int .i64 mo,.int .i64 rm,.slice (some ⟨g.1.1.1,0,none⟩) g.1.2.length g.1.1.2],.slice g.2.1 (QeS (pln L) (Qac (j:Int) mo rm (pln L) x)).length g.2.2,.int .i64 0]) (λg=>pln g.1.2=(Qac (j:Int) mo rm (pln L) x)) λg=>[.nodes 27 69 (some ⟨g.1.1.1,0,none⟩) g.1.1.2 g.1.2,.own (.slice g.2.1 ((QeS (pln L) (Qac (j:Int) mo rm (pln L) x))).length g.2.2) 3 1 ((QeS (pln L) (Qac (j:Int) mo rm (pln L) x))).length (((QeS (pln L) (Qac (j:Int) mo rm (pln L) x))).map λi:Nat=>Value.int .i64 (i:Int))]:=by
 obtain⟨hc0,hz0,hl0,hl120,hn0,_,_⟩:=ZC h0
 rw[show((⟨(j:Int),mo,rm,pln L⟩:Tre)).ns=pln L from rfl,Qd]at hl0 hl120
 have hj:j<=3:=by obtain⟨j9,e9,hj9⟩:=Qa7 hc0;have e8:((j:Nat):Int)=(j9:Int):=e9;omega
 have hT:TOk (j:Int) (pln L):=Qaa (t:=(⟨(j:Int),mo,rm,pln L⟩:Tre)) hn0
 have hmo:=(Qcn hz0).1
 simp only[]at hmo
 have hkey:QL (j:Int) x.key=true:=QaB hx0
 obtain⟨hnf,h120⟩:=Qut hx
 refine eN2 Tryz.func45 Tryz.ntmps45 ?_
 refine aU2 ?_
 refine oBx λb1 _=>?_
 refine oBx λb2 _=>?_
 refine oAl (λb3 _=>?_) Xn
 refine aU7 ?_
 refine oCh rfl (λw1 h1=>Qqx w1 j mo rm a cap L x (hs.later h1.nil) hB hkl hkk h0) (λ⟨b9,⟨gn9,c9⟩,L9⟩hF9=>?_)
 dsimp only
 obtain⟨hL9,hn9,hm9⟩:=hF9
 simp only[]at hL9 hn9 hm9
 have hl9:L9.length=L.length:=by rw[<-Qd L9,hL9,Qd]
 have hB9:Bd (pln L9):=by rw[hL9];exact hB
 have hT9:TOk (j:Int) (pln L9):=by rw[hL9];exact hT
 have hK9:∀i,i<L9.length->∀y∈(nth L9 i).es,QL (j:Int) y.key=true/\y.key.length<=1000000:=λi hi y hy=>QcR hT9 i (by rw[Qd];exact hi) y (by rw[Qr hi];exact hy)
 refine Zg ?_
 refine sCd rfl (λh4=>?_) λh4=>?_
 ·refine aU3 ?_
  refine o_h (QE (Cs:=[.blk b9 166 6 (tbV (j:Int) mo rm (some ⟨gn9,0,none⟩) (L9).length c9),.blk gn9 69 (c9*3) ((L9).flatMap LNd.vals),.star ((L9).map (QB 27))]) rfl Qpo rfl aPs (λw1 h1 hf=>c108 w1 b9 j mo rm gn9 c9 L9 x hf hn9 hm9 hj om hB9 hT9 hkey (by rw[hL9];exact hins))) rfl (λ⟨⟨g5,c5⟩,L5⟩hF5=>?_)
  dsimp only
  refine Qf (show _=Value.int .i64 (QdF (j:Int) mo rm (pln L) x)from by rw[hL9]) ?_
  rw[hL9]at hF5
  obtain⟨hL5,hn5,hm5⟩:=hF5
  simp only[]at hL5 hn5 hm5
  have hl5:L5.length=(Qac (j:Int) mo rm (pln L) x).length:=by rw[<-hL5,Qd]
  refine aU8 ?_
  refine sCd rfl (λh5=>?_) λh5=>?_
  ·exfalso;first|omega|(simp at h5;done)|(simp_all;done)
  refine aU2 ?_
  refine Qu [12] QG ?_
  refine dP 0 ?_
  refine dP 1 ?_
  refine dFa 2 ?_
  refine dLn 3 [[]] ?_
  refine dFa 4 ?_
  refine dLd 5 [[11]] ?_
  refine dP 6 ?_
  refine dP 7 ?_
  refine dFa 8 ?_
  refine dFa 9 ?_
  refine dLd 10 [[11]] ?_
  refine dH 11 rfl (Qav rfl QuV rfl (λw1 h1=>c109 w1 a (some ⟨g5,0,none⟩) cap c5 L L5 (hs.later h1.nil) (HS.nt_at h1 aPk aPk) om om (Qwk hB) (by rw[hL5];exact hso))) (λ⟨qa,qc⟩_=>dBa ?_)
  refine dSt 12 ?_ (hl:=(by simp only[Qk,List.length_set,List.length_cons,List.length_nil,List.length_map];omega))
  refine dTu [] ?_
  refine dP 13 ?_
  refine dP 14 ?_
  refine dNi ?_
  exact Qj (rs:=[.cell 4 37,.tmp 5,.tmp 6]) rfl (.cell rfl XM aPk rfl (.tmp rfl (.tmp rfl (.nil)))) (λw' h'=>⟨(((g5,c5),L5),(qa,qc)),by simp only[Q3];rw[<-hL5];rfl,hL5,by rw[<-hL5];exact(QgB (h'.ent (Bs:=[.blk g5 69 (c5*3) (L5.flatMap LNd.vals),.star (L5.map (QB 27)),.own (.slice qa ((QeS (pln L) (pln L5))).length qc) 3 1 ((QeS (pln L) (pln L5))).length (((QeS (pln L) (pln L5))).map λi:Nat=>Value.int .i64 (i:Int))]) aEt) hn5 hm5)⟩)
 exfalso;first|omega|(simp at h4;done)|(simp_all;done)
end Go.Proofs
