/- Contracts of the program's functions, proved by walking them with the rules of the Gx texts; without conditions beyond those that each contract names. -/
import Derived.WalkKit
import Derived.Deep.Draws
import Derived.TacticsIn
import Derived.OrdersIn
import Derived.RangeFuncLeaves
import Derived.Lib.Strings
import Derived.Laws.BytesArg
import Derived.Laws.IdiomStrings
import Derived.Deep.Quiet
import Derived.Laws.StructEq
import Derived.ChangeKeysEq
import Derived.Laws.Externs
import Derived.Lib.Overlaps
import Derived.Carry
import Derived.Laws.Small
import Derived.Lib.Bytealg
import Derived.Lib.Builder
import Derived.Laws.Pointers
import Derived.RangeFuncRecord
import Derived.Test.YtldegbfcaelpdaaGreatDoorProg
import Derived.KernelRfl
import Derived.ProofKit
import Derived.OpenShut
import Derived.Lib.UnsafeStr
import Derived.LaidEqlPtr
import Derived.Shelf.Strings.Builder1
import Derived.Shelf.Strings.Builder2
import Derived.Shelf.Strings.Trim
import Derived.Shelf.Small.Utf8
import Derived.Shelf.Small.Strs
import Derived.Shelf.Strings.BuilderF
import Derived.Shelf.Strings.BuilderK
import Derived.Shelf.Strings.Builder2Cap
import Derived.Shelf.Strings.Search1
import Derived.Shelf.Strings.Prefix
import Derived.Shelf.Unicode.Decode
import Derived.Shelf.Strings.Runes
import Derived.Shelf.Strings.AsciiSet
import Derived.Shelf.Bits.Mul64
import Derived.Shelf.Strings.Repeat
import Derived.Shelf.Unicode.DecodeSlow
import Derived.Shelf.Unicode.DecodeAny
import Derived.Shelf.Unicode.DecodeLast
import Derived.Shelf.Slices.Turned
import Derived.Shelf.Slices.Reverse
import Derived.Ground.Names2Prog
import Derived.Shelf.Slices.Clone
import Derived.Shelf.Slices.Cells
import Derived.Ground.SlgnProg
import Derived.Shelf.SlicesE.Reverse
import Derived.Shelf.SlicesE.Clone
import Derived.Test.YtldegbfcaelpdaaGreatDoorTie
import Derived.Test.YtldegbfcaelpdaaGreatDoorCards
import Derived.SevenTiedAt
import Derived.LaidMore
import Derived.Lay
import Derived.Stop.Joined
import Derived.Test.YtldegbfcaelpdaaGreatDoorP3
set_option linter.unusedSimpArgs false
set_option maxHeartbeats 1000000
set_option linter.unusedVariables false
set_option linter.unusedSectionVars false
set_option linter.unnecessarySimpa false
namespace Go.Proofs
open Go Go.RowKit Gx
attribute [local irreducible] Go.Calls Gx.S Gx.O Gx.D Gx.OpP Gx.OpQ Gx.OpH
set_option maxRecDepth 20000
theorem QrV:QE Tryz.prog 74=true:=by kernel_rfl
instance:TFn Tryz.prog 73:=⟨by kernel_rfl⟩
theorem c73(w:World)(ua:Option Addr)(uc:Nat)(u:List Int)(q:Nat)(cv:Array Value)(es:List Int)(hu:Vl w ua (u.map nv))(hum:u.length<=100000)(hq:QE Tryz.prog q=true)(he:es.length=u.length)(hc:∀k w1,k<u.length->HS w [] [] w1->Calls Tryz.prog q (#[]++[.int .i64 (k:Int),.int .i64 (u.getD k 0)].toArray++cv) w1 λen w2=>en=.returned (.int .i64 (es.getD k 0))/\Below w1.heap.size w1 w2):CR 73 #[.slice ua u.length uc,.func (.func q) #[] cv] w (.tuple #[.int .i64 (QN es 0).1,.int .i64 (QN es 0).2]):=by
 refine eN2 Tryz.func73 Tryz.ntmps73 ?_
 refine Qak ?_
 refine Qt (α:=Nat) [4,5,6,7,8,11,12,13,14,15,16,17,18,19,20,21,22,23,24] (λk=>[(11,.int .i64 (k:Int))]) (λ_=>HS w [] []) (λk=>k<=u.length/\QN es 0=QN (es.drop k) k) (λk=>u.length-k) 0 ⟨om,rfl⟩ aSx (λw h=>h.ent aEt) (λk hkk=>?_)
 obtain⟨hk1,hk2⟩:=hkk
 refine aU5 ?_
 refine sCd rfl (λh1=>?_) λh1=>?_
 ·have hk:k<u.length:=by omega
  refine aU6 ?_
  refine o_p (Qa rfl rfl rfl QD (k) om om (hu.some (by rw[List.length_map];omega))) rfl (o_q (Qc rfl rfl XB ((hu.rd (ZL hk)))) rfl (aU8 ?_))
  refine o_q (XS rfl rfl hq rfl (λw1 h1=>hc k w1 om (h1.ent aEt))) rfl (aU7 ?_)
  refine sCd rfl (λh2=>?_) λh2=>?_
  ·refine aU7 ?_
   exact Qf (rs:=[.tmp 4,.tmp 5]) rfl (.tmp rfl (.tmp rfl (.nil))) (λw' h'=>⟨by simp only[QR];rw[hk2,Xh om,if_neg (by assumption)],h'.below⟩)
  refine aT4 ?_
  refine aU2 ?_
  exact sBk (k+1) om ⟨om,by rw[hk2,Xh om,if_pos (by assumption)]⟩
 refine Qj rfl ?_
 refine aU5 ?_
 exact Qf (rs:=[.tmp 4,.tmp 5]) rfl (.tmp rfl (.tmp rfl (.nil))) (λw' h'=>⟨by simp only[QR];rw[hk2,QbX om],h'.below⟩)
theorem c74(w:World)(bS bU i:Nat)(a:Option Addr)(cap:Nat)(l:List SItm)(ua:Option Addr)(uc:Nat)(u:List Int)(hA1:Rd w [] bS 1 (.slice a l.length cap))(hA2:Rd w [] bU 0 (.slice ua u.length uc))(hs:Rw SItm.vals 2 w [] a l)(hm:l.length<=100000)(hrg:∀k,k<l.length->256<=(nth l k).id/\(nth l k).id<=2147483647)(hasc:∀j,j<l.length->∀i,i<j->(nth l i).id<(nth l j).id)(hu:Vl w ua (u.map nv))(hum:u.length<=100000)(hi:i<u.length)(hui:(u.getD i 0)<=9223372036854775807):CR 74 #[.int .i64 (i:Int),.int .i64 (u.getD i 0),.pointer (some ⟨bS,0,none⟩),.pointer (some ⟨bU,0,none⟩)] w (.int .i64 (QeO l u i)):=by
 have hmx:0<=mx0 (u.getD i 0)/\mx0 (u.getD i 0)<=9223372036854775807:=by unfold mx0;split<;>omega
 obtain⟨hbf,hbl⟩:=Qpo (n:=mx0 (u.getD i 0)) hasc
 rw[QqJ (λk hk=>(hrg k hk).1)]at hbf
 refine eN4 Tryz.func74 Tryz.ntmps74 ?_
 refine aU7 ?_
 refine o_q (Qc rfl rfl Qkb (hA1)) rfl (aU ?_)
 refine o_p (Qdp rfl rfl rfl ) rfl ?_
 refine Ql (show _=Value.int .i64 (mx0 (u.getD i 0))from by unfold mx0;first|rfl|(congr 1;split<;>split<;>omega)|congr 1) (oCq rfl (λw1 h1=>c75 w1 a cap l (mx0 (u.getD i 0)) (hs.later h1) om om (λk hk=>by have:=hrg k hk;omega)) (aU2 ?_))
 rw[hbf]
 refine aU7 ?_
 refine oCq rfl (λw1 h1=>c42 w1 _ _) (aU3 ?_)
 refine oOr 9 21 30 rfl
  (λhg1 _=>by
   refine aU ?_
   refine o_q (Qc rfl rfl Y8 (hA2)) rfl (aT4 ?_)
   refine aU ?_
   refine o_p (Qdp rfl rfl rfl ) rfl ?_
   refine Ql (show _=Value.int .i64 ((i-1:Nat):Int)from by congr 1;split<;>omega) (aU ?_)
   refine o_p (Qa rfl rfl rfl QD (i-1) om om (hu.some (by rw[List.length_map];omega))) rfl (aU ?_)
   refine o_q (Qc rfl rfl XB ((hu.rd (ZL (k:=i-1) om)))) rfl (aU4 ?_)
   exact oJf 9 30)
  (λhg3 _=>by
   refine aU8 ?_
   exact oJt 9 30) ?_
 refine oCq rfl (λw1 h1=>c42 w1 _ _) (o_h (Qd (cs:=[_,_]) rfl rfl Xn XK rfl rfl rfl) rfl (λb5 _=>oCq rfl (λw1 h1=>f38 h1 aPk (by rfl) (by rfl) (by decide)) (aU2 ?_)))
 exact rV (h:=by unfold QeO;simp only[QR,QK,cond_eq_ite];grind)
theorem c28(w:World)(nx:Int)(a:Option Addr)(cap:Nat)(l:List SItm)(ua:Option Addr)(uc:Nat)(u:List Int)(hs:Rw SItm.vals 2 w [] a l)(hm:l.length<=100000)(hb:∀x∈l,x.by_.length<=100000)(hu:Vl w ua (u.map nv))(hum:u.length<=100000)(hui:∀x∈u,x<=9223372036854775807):CE 28 #[.agg #[.int .i64 nx,.slice a l.length cap],.slice ua u.length uc] w [] (λg:(Option Addr×Nat)×(Option Addr×Nat)=>.tuple #[.agg #[.int .i64 (Qbh nx l u).nx,.slice g.1.1 (Qbh nx l u).l.length g.1.2],.slice g.2.1 (Qbh nx l u).g.length g.2.2,.int .i64 (QcK nx l u)]) (λg=>True) λg=>[.own (.slice g.1.1 (Qbh nx l u).l.length g.1.2) 72 2 (Qbh nx l u).l.length ((Qbh nx l u).l.flatMap SItm.vals),.own (.slice g.2.1 (Qbh nx l u).g.length g.2.2) 3 1 (Qbh nx l u).g.length ((Qbh nx l u).g.map nv)]:=by
 refine eN2 Tryz.func28 Tryz.ntmps28 ?_
 refine aU2 ?_
 refine oBx λb1 _=>?_
 refine oBx λb2 _=>?_
 refine oAl (λb3 _=>?_) Yd
 refine aU6 ?_
 refine oCq rfl (λw1 h1=>c72 w1 nx a cap l (hs.later h1) hm hb) (aU8 ?_)
 refine Xv (α:=Unit) [7,16,17,18,19,20,21] (λ_=>[(7,.int .i64 (QcK nx l u))]) (λ_=>HS w [] [.blk b1 63 2 [.int .i64 nx,.slice a l.length cap],.blk b2 65 1 [.slice ua u.length uc],.blk b3 63 2 [.int .i64 0,.slice none 0 0]]) (λ_=>True) ?_ ?_
 ·skip
  refine sCd rfl (λh4=>?_) λh4=>?_
  ·have h0:(QO nx l).2=0:=h4
   have hce:QcK nx l u=QpE l u:=by unfold QcK;rw[if_pos h0]
   obtain⟨hnx,hl60,hit9,hpl9⟩:=XR h0
   refine aU3 ?_
   refine oCq rfl (λw1 h1=>c73 w1 ua uc u 74 _ (Qdw l u) (hu.later h1) hum QrV (Qmz l u) (λk w2 hk h2=>by have h9:=c74 w2 b1 b2 k a cap l ua uc u ((h1.rd_blk (i:=1) aPk rfl (by simp)).later h2 (by simp)) ((h1.rd_blk (i:=0) aPk rfl (by simp)).later h2 (by simp)) ((hs.later h1).later h2) hm (λq hq=>by have:=Yb (hit9 q hq);omega) (QiT hit9) ((hu.later h1).later h2) hum hk (hui _ (XO hk));rw[Qmw hk];exact h9)) (aU5 ?_)
   exact Qn () trivial (by(try dsimp only);rw[hce];exact aSx) (λw h=>h.ent aEt)
  have h0:¬(QO nx l).2=0:=h4
  have hce:QcK nx l u=(QO nx l).2:=by unfold QcK;rw[if_neg h0]
  refine aU ?_
  exact Qn () trivial (by(try dsimp only);rw[hce];exact aSx) (λw h=>h.ent aEt)
 intro _ _
 refine aU6 ?_
 refine sCd rfl (λh5=>?_) λh5=>?_
 ·have h1e:¬QcK nx l u=0:=h5
  have hT:Qbh nx l u=⟨0,[],[]⟩:=by unfold Qbh;rw[if_neg h1e]
  refine aU2 ?_
  refine o_p (Qw (cs:=[_,_]) rfl rfl QdM Yd rfl) rfl (aU5 ?_)
  exact Qf (rs:=[.cell 4 63,.tmp 5,.tmp 6]) rfl (.cell rfl QcV aPk rfl (.tmp rfl (.tmp rfl (.nil)))) (λw' h'=>⟨((none,0),(none,0)),by rw[hT];rfl,trivial,by rw[hT];exact((h'.own_nil 72 2).own_nil 3 1).ent aEt⟩)
 have h1e:QcK nx l u=0:=h5
 have hT:Qbh nx l u=⟨nx,Z0 u l,ZD u l⟩:=by unfold Qbh;rw[if_pos h1e]
 refine aU5 ?_
 refine o_p (Qw (cs:=[_,_]) rfl rfl QdM Yd rfl) rfl (oAl (λb6 _=>?_) Yd)
 refine aU15 ?_
 refine Qi (L':=[(3,_),(4,_),(5,_),(6,_),(8,_),(9,_),(30,_),(31,_),(32,_)]) aSx (λ_ h=>h) ?_
 refine Qt (α:=Nat×(Option Addr×Nat)×(Option Addr×Nat)) [9,11,32,33,34,35,36,37,38,39,40,41,42,43,44,45,46,47,48,49,50,51] (λy=>[(32,.int .i64 (y.1:Int)),(9,.slice y.2.2.1 (ZD u (l.take y.1)).length y.2.2.2)]) (λy=>HS w [] [.blk b6 63 2 [.int .i64 nx,.slice y.2.1.1 (Z0 u (l.take y.1)).length y.2.1.2],.own (.slice y.2.1.1 (Z0 u (l.take y.1)).length y.2.1.2) 72 2 (Z0 u (l.take y.1)).length ((Z0 u (l.take y.1)).flatMap SItm.vals),.own (.slice y.2.2.1 (ZD u (l.take y.1)).length y.2.2.2) 3 1 (ZD u (l.take y.1)).length ((ZD u (l.take y.1)).map nv),.blk b1 63 2 [.int .i64 nx,.slice a l.length cap],.blk b2 65 1 [.slice ua u.length uc],.blk b3 63 2 [.int .i64 0,.slice none 0 0]]) (λy=>y.1<=l.length) (λy=>l.length-y.1) (0,(none,0),(none,0)) (Nat.zero_le _) aSx (λw h=>((h.own_nil 72 2).own_nil 3 1).ent aEt) (λ⟨k,ga,gb9⟩hk1=>?_)
 dsimp only
 simp only[]at hk1
 refine aU5 ?_
 refine sCd rfl (λh7=>?_) λh7=>?_
 ·have hk:k<l.length:=by omega
  have hks:=Qlq (u:=u) hk
  have hgs:=Qlp (u:=u) hk
  have hkl:=Qol u (l.take k)
  have hgl:=QoL u (l.take k)
  rw[List.length_take]at hkl hgl
  refine aU5 ?_
  refine o_p (Qa rfl rfl rfl XY (k) om om (Rw.some hs om)) rfl (o_q (Qm _ rfl rfl Qaa rfl (Rw.rd hs hk)) rfl (oAl (λb8 _=>?_) Yq))
  refine aU7 ?_
  refine oCq rfl (λw1 h1=>c76 w1 ua uc u _ (hu.later h1).rwI hum) (aU ?_)
  refine sCd rfl (λh9=>?_) λh9=>?_
  ·have hmu:(nth l k).id∈u:=h9
   rw[if_pos hmu]at hks hgs
   refine aU4 ?_
   refine o_h (Qd (cs:=[_,_]) rfl rfl XY Yq rfl rfl rfl) rfl (λb10 _=>o_h (QA [_,_] rfl rfl rfl XY Tryz.underlying61 Yq rfl aPk (QZ aPk) rfl (sv1 (nth l k)) om (by simp only[maxLen];omega)) rfl (λb11 _=>aT6 ?_))
   refine aU2 ?_
   exact QQ (k+1,b11,gb9) (by(try simp only[]);omega) (by(try simp only[]);omega) (by dsimp only;rw[hgs];exact aSx) (λw h=>by dsimp only;rw[hks,hgs,List.length_append,Xz];exact h.ent aEt)
  have hmu:¬(nth l k).id∈u:=h9
  rw[if_neg hmu]at hks hgs
  refine aU4 ?_
  refine o_h (Qd (cs:=[_]) rfl rfl QD Ye rfl rfl rfl) rfl (λb12 _=>o_h (QA [_] rfl rfl rfl QD Tryz.underlying65 Ye rfl aPk (QZ aPk) rfl (by intro u hu;simp only[List.mem_cons,List.mem_nil_iff,or_false]at hu;subst hu;rfl) om (by simp only[maxLen];omega)) rfl (λb13 _=>aT5 ?_))
  refine aU2 ?_
  exact QQ (k+1,ga,b13) (by(try simp only[]);omega) (by(try simp only[]);omega) (by dsimp only;rw[hgs,List.length_append];exact aSx) (λw h=>by dsimp only;rw[hks,hgs,List.length_append,List.map_append];exact h.ent aEt)
 obtain rfl:k=l.length:=om
 rw[List.take_length]
 refine Qj rfl ?_
 refine aU8 ?_
 exact Qf (rs:=[.cell 4 63,.tmp 5,.tmp 6]) rfl (.cell rfl QcV aPk rfl (.tmp rfl (.tmp rfl (.nil)))) (λw' h'=>⟨(ga,gb9),by rw[hT,h1e];rfl,trivial,by rw[hT];exact h'.ent aEt⟩)
theorem QjQ:QpP Tryz.prog 119=some [0,0,0,0]:=by kernel_rfl
instance:TFn Tryz.prog 64:=⟨by kernel_rfl⟩
theorem c25(w:World)(nx:Int)(a:Option Addr)(cap:Nat)(l:List SItm)(hs:Rw SItm.vals 2 w [] a l)(hm:l.length<=100000)(hb:∀x∈l,x.by_.length<=100000):CE 25 #[.agg #[.int .i64 nx,.slice a l.length cap]] w [] (λg:Option Addr×Nat=>.agg #[.int .i64 nx,.slice g.1 l.length g.2]) (λg=>True) λg=>[.own (.slice g.1 l.length g.2) 72 2 l.length (l.flatMap SItm.vals)]:=by
 refine eN1 Tryz.func25 Tryz.ntmps25 ?_
 refine aU2 ?_
 refine oBx λb1 _=>?_
 refine oAl (λb2 _=>?_) Yd
 refine aU2 ?_
 refine Qdg [.blk b1 63 2 [.int .i64 nx,.slice a l.length cap]] [7] mixed ?_
 refine dFa 0 ?_
 refine dLd 1 [[]] ?_
 refine dFa 3 ?_
 refine dLd 4 [[]] ?_
 refine dH 2 rfl (XJ rfl XY) (λb3 _=>dH 5 rfl (QA (l.flatMap SItm.vals) rfl rfl rfl XY Tryz.underlying61 Yq rfl aPk (λw h=>Rw.src sv2 hs h) (Qq sv2 l) (Yh sv1 l) om (by simp only[maxLen];omega)) (λb4 _=>dV 6 rfl (Qw (cs:=[_,_]) rfl rfl QdM Yd rfl) (dSt 7 ?_ (hl:=(by simp only[Qb,List.length_set,List.length_cons,List.length_nil,List.length_map];omega)))))
 refine dTu [] ?_
 refine dNi ?_
 exact Qf (rs:=[.cell 2 63]) rfl (.cell rfl QcV aPk rfl (.nil)) (λw' h'=>⟨b4,by simp only[QR,Nat.zero_add];rfl,trivial,by have h2:=h';simp only[Nat.zero_add,List.nil_append]at h2;exact h2.ent aEt⟩)
theorem c64(w:World)(a:Option Addr)(cap:Nat)(a2:Option Addr)(cap2:Nat)(l:List Ace)(hs:Rw Ace.vals 4 w [] a l)(hs2:Rw Ace.vals 4 w [] a2 l)(hm:l.length<=1000000):CR 64 #[.slice a l.length cap,.slice a2 l.length cap2] w (.bool true):=by
 refine eN2 Tryz.func64 Tryz.ntmps64 ?_
 refine Qak ?_
 refine sCd rfl (λh1=>?_) λh1=>?_
 ·exfalso;first|omega|(simp at h1;done)|(have hq:=h1;simp at hq;done)|(have hq:=h1;omega)
 refine aU7 ?_
 refine Qt (α:=Nat) [4,5,11,12,13,14,15,16,17,18,19,20,21,22,23,24,25] (λk=>[(5,.int .i64 (k:Int))]) (λ_=>_) (λk=>k<=l.length) (λk=>l.length-k) 0 (Nat.zero_le _) aSx (λw h=>h) (λk hk1=>?_)
 refine aU8 ?_
 refine sCd rfl (λh2=>?_) λh2=>?_
 ·have hk:k<l.length:=by omega
  refine aU4 ?_
  refine Qp [] mixed ?_
  refine dP 0 ?_
  refine dP 1 ?_
  refine dV 2 rfl (Qa rfl rfl rfl X0 (k) om om (Rw.some hs om)) (dQ 3 [] rfl (Qm _ rfl rfl Qag rfl (Rw.rd hs hk)) (dP 4 ?_))
  refine dP 5 ?_
  refine dV 6 rfl (Qa rfl rfl rfl X0 (k) om om (Rw.some hs2 om)) (dQ 7 [] rfl (Qm _ rfl rfl Qag rfl (Rw.rd hs2 hk)) (dV 8 rfl (Qgb rfl rfl rfl QjQ (by rfl) (by rfl) (by rfl)) (dNi ?_)))
  refine sCd rfl (λh3=>?_) λh3=>?_
  ·exfalso;first|omega|(simp at h3;done)|(have hq:=h3;simp at hq;done)|(have hq:=h3;omega)
  refine aT5 ?_
  refine aU2 ?_
  exact QQ (k+1) om om aSx (λw h=>h)
 refine Qj rfl ?_
 refine aU4 ?_
 exact rV
theorem c18(w:World)(d:Dsc)(e1:Option Addr)(ec1:Nat)(u1:Option Addr)(uc1:Nat)(e2:Option Addr)(ec2:Nat)(u2:Option Addr)(uc2:Nat)(he1:Rw Ace.vals 4 w [] e1 d.en)(hu1:Rw Ace.vals 4 w [] u1 d.au)(he2:Rw Ace.vals 4 w [] e2 d.en)(hu2:Rw Ace.vals 4 w [] u2 d.au)(hme:d.en.length<=1000000)(hma:d.au.length<=1000000):CR 18 #[.agg #[.int .i64 d.ow,.int .i64 d.gr,.bool d.pr,.bool d.he,.slice e1 d.en.length ec1,.slice u1 d.au.length uc1],.agg #[.int .i64 d.ow,.int .i64 d.gr,.bool d.pr,.bool d.he,.slice e2 d.en.length ec2,.slice u2 d.au.length uc2]] w (.bool true):=by
 refine eN2 Tryz.func18 Tryz.ntmps18 ?_
 refine aU2 ?_
 refine oBx λb1 _=>?_
 refine oBx λb2 _=>?_
 refine Zn ?_
 refine XH 6 10 16 rfl
  (λhg3 _=>by
   refine Zn ?_
   exact oJt 6 16)
  (λhg5 _=>by
   refine aU5 ?_
   exact oJf 6 16) ?_
 refine aU ?_
 refine XH 6 17 23 rfl
  (λhg7 _=>by
   refine aU9 ?_
   refine o_p (ZE rfl rfl rfl Tryz.underlying4) rfl ?_
   exact oJt 6 23)
  (λhg9 _=>by
   refine aU5 ?_
   exact oJf 6 23) ?_
 refine aU ?_
 refine XH 6 24 30 rfl
  (λhg11 _=>by
   refine aU9 ?_
   refine o_p (ZE rfl rfl rfl Tryz.underlying4) rfl ?_
   exact oJt 6 30)
  (λhg13 _=>by
   refine aU5 ?_
   exact oJf 6 30) ?_
 refine aU ?_
 refine XH 6 31 37 rfl
  (λhg15 _=>by
   refine aU9 ?_
   refine oCq rfl (λw1 h1=>c64 w1 e1 ec1 e2 ec2 d.en (he1.later h1) (he2.later h1) hme) ?_
   exact oJt 6 37)
  (λhg17 _=>by
   refine aU5 ?_
   exact oJf 6 37) ?_
 refine aU ?_
 refine XH 6 38 44 rfl
  (λhg19 _=>by
   refine aU9 ?_
   refine oCq rfl (λw1 h1=>c64 w1 u1 uc1 u2 uc2 d.au (hu1.later h1) (hu2.later h1) hma) ?_
   exact oJt 6 44)
  (λhg21 _=>by
   refine aU5 ?_
   exact oJf 6 44) ?_
 refine aU2 ?_
 exact rV (h:=by simp[QR])
theorem c10(w:World)(d:Dsc)(ea:Option Addr)(eac:Nat)(aa:Option Addr)(aac:Nat)(hse:Rw Ace.vals 4 w [] ea d.en)(hsa:Rw Ace.vals 4 w [] aa d.au)(hme:d.en.length<=100000)(hma:d.au.length<=100000):CE 10 #[.agg #[.int .i64 d.ow,.int .i64 d.gr,.bool d.pr,.bool d.he,.slice ea d.en.length eac,.slice aa d.au.length aac]] w [] (λg:(Option Addr×Nat)×(Option Addr×Nat)=>.agg #[.int .i64 d.ow,.int .i64 d.gr,.bool d.pr,.bool d.he,.slice g.1.1 d.en.length g.1.2,.slice g.2.1 d.au.length g.2.2]) (λg=>True) λg=>[.own (.slice g.1.1 d.en.length g.1.2) 119 4 d.en.length (d.en.flatMap Ace.vals),.own (.slice g.2.1 d.au.length g.2.2) 119 4 d.au.length (d.au.flatMap Ace.vals)]:=by
 refine eN1 Tryz.func10 Tryz.ntmps10 ?_
 refine aU2 ?_
 refine oBx λb1 _=>?_
 refine Xm (C':=HS w [] [.blk b1 28 6 [.int .i64 d.ow,.int .i64 d.gr,.bool d.pr,.bool d.he,.slice ea d.en.length eac,.slice aa d.au.length aac]]) (λw h=>h) (oAl (λb2 _=>?_) Xq)
 refine aU2 ?_
 refine Qp [7,9] mixed ?_
 refine dFa 0 ?_
 refine dLd 1 [[],[]] ?_
 refine dFa 3 ?_
 refine dLd 4 [[],[]] ?_
 refine dH 2 rfl (QT rfl Qps rfl (λw1 h1=>c50 w1 ea eac d.en (hse.later h1) om)) (λge _=>dBa ?_)
 refine dFa 6 ?_
 refine dH 5 rfl (QT rfl Qps rfl (λw1 h1=>c50 w1 aa aac d.au (hsa.later h1) om)) (λgu _=>dBa ?_)
 refine dSt 7 ?_ (hl:=(by simp only[Qb,List.length_set,List.length_cons,List.length_nil,List.length_map];omega))
 refine dTu [9] ?_
 refine dFa 8 ?_
 refine dSt 9 ?_ (hl:=(by simp only[Qb,List.length_set,List.length_cons,List.length_nil,List.length_map];omega))
 refine dTu [] ?_
 refine dNi ?_
 refine aU5 ?_
 exact Qf (rs:=[.cell 2 28]) rfl (.cell rfl Xr aPk rfl (.nil)) (λw' h'=>⟨(ge,gu),rfl,trivial,h'.ent aEt⟩)
theorem c27(w:World)(nx:Int)(a:Option Addr)(cap:Nat)(l:List SItm)(hs:Rw SItm.vals 2 w [] a l)(hm:l.length<=9223372036854775807)(hb:∀x∈l,x.by_.length<=9223372036854775807):CR 27 #[.agg #[.int .i64 nx,.slice a l.length cap]] w (.bool (QfQ l)):=by
 refine eN1 Tryz.func27 Tryz.ntmps27 ?_
 refine aU2 ?_
 refine oBx λb1 _=>?_
 refine Zn ?_
 refine XH 5 8 13 rfl
  (λhg2 _=>by
   refine aU8 ?_
   exact oJt 5 13)
  (λhg4 _=>by
   refine aU4 ?_
   exact oJf 5 13) ?_
 refine aU ?_
 refine oOr 5 14 19 rfl
  (λhg6 _=>by
   refine aU8 ?_
   exact oJf 5 19)
  (λhg8 _=>by
   refine aU4 ?_
   exact oJt 5 19) ?_
 refine aU ?_
 refine sCd rfl (λh10=>?_) λh10=>?_
 ·have h0:Qlu l.length=false:=by have hq:=h10;unfold Qlu;simp only[Bool.not_eq_false',Bool.or_eq_true,Bool.and_eq_true,decide_eq_true_eq];omega
  have hf:QfQ l=false:=by unfold QfQ;rw[h0];rfl
  refine aU4 ?_
  exact rV (h:=by rw[hf];rfl)
 have h0:Qlu l.length=true:=by have hq:=h10;unfold Qlu;simp only[Bool.not_eq_true',Bool.or_eq_false_iff,Bool.and_eq_false_iff,decide_eq_false_iff_not];omega
 refine aU7 ?_
 refine Qt (α:=Nat) [2,3,20,21,22,23,24,25,26,27,28,29,30,31,32,33,34] (λk=>[(3,.int .i64 (k:Int))]) (λ_=>_) (λk=>k<=l.length/\(l.take k).all (λx=>decide (x.by_.length<=300))=true) (λk=>l.length-k) 0 ⟨Nat.zero_le _,rfl⟩ aSx (λw h=>h) (λk hkk=>?_)
 obtain⟨hk1,hk2⟩:=hkk
 refine aU9 ?_
 refine sCd rfl (λh11=>?_) λh11=>?_
 ·have hk:k<l.length:=by omega
  have hst:=Qlj (p:=λx=>decide (x.by_.length<=300)) hk
  have hgm:(nth l k).by_.length<=9223372036854775807:=hb _ (XO hk)
  refine aU8 ?_
  refine o_p (Qa rfl rfl rfl XY (k) om om (Rw.some hs om)) rfl (aU ?_)
  refine o_q (Qc rfl rfl ZR ((hs.rdj 1 hk rfl))) rfl (o_p (QJ rfl rfl Tryz.underlying9) rfl (aU2 ?_))
  refine sCd rfl (λh12=>?_) λh12=>?_
  ·have hbd:¬(nth l k).by_.length<=300:=by have hq:=h12;omega
   have hf:QfQ l=false:=by unfold QfQ;rw[Qox (p:=λx=>decide (x.by_.length<=300)) hk (decide_eq_false hbd),Bool.and_false]
   refine aU4 ?_
   exact rV (h:=by rw[hf];rfl)
  have hbd:(nth l k).by_.length<=300:=by have hq:=h12;omega
  refine aT5 ?_
  refine aU2 ?_
  exact QQ (k+1) om ⟨om,by rw[hst,hk2,decide_eq_true hbd];rfl⟩ aSx (λw h=>h)
 obtain rfl:k=l.length:=om
 rw[List.take_length]at hk2
 have hf:QfQ l=true:=by unfold QfQ;rw[h0,hk2];rfl
 refine Qj rfl ?_
 refine aU4 ?_
 exact rV (h:=by rw[hf];rfl)
theorem c7(w:World)(d:Dsc)(ea:Option Addr)(eac:Nat)(aa:Option Addr)(aac:Nat):CR 7 #[.agg #[.int .i64 d.ow,.int .i64 d.gr,.bool d.pr,.bool d.he,.slice ea d.en.length eac,.slice aa d.au.length aac]] w (.bool (QnQ d)):=by
 refine eN1 Tryz.func7 Tryz.ntmps7 ?_
 refine aU2 ?_
 refine oBx λb1 _=>?_
 refine aU9 ?_
 refine XH 5 7 12 rfl
  (λhg2 _=>by
   refine aU8 ?_
   exact oJt 5 12)
  (λhg4 _=>by
   refine aU4 ?_
   exact oJf 5 12) ?_
 refine aU2 ?_
 exact rV (h:=by simp only[QR,QnQ];congr 2;rw[Bool.eq_iff_iff];simp;omega)
theorem c34(w:World):CR 34 #[] w (.agg #[.int .i64 10,.int .i64 10,.bool false,.bool false,.slice none 0 0,.slice none 0 0]):=by
 refine eN0 Tryz.func34 Tryz.ntmps34 ?_
 refine aU2 ?_
 refine oAl (λb1 _=>?_) Xq
 refine aU3 ?_
 refine o_p (Qw (cs:=[_,_,_,_,_,_]) rfl rfl YU Xq rfl) rfl (aU2 ?_)
 exact Qf (rs:=[.cell 0 28]) rfl (.cell rfl Xr aPk rfl (.nil)) (λw' h'=>⟨by rfl,h'.below⟩)
theorem c35(w:World):CE 35 #[] w [] (λg:Option Addr×Nat=>.agg #[.int .i64 10,.int .i64 10,.bool false,.bool true,.slice g.1 1 g.2,.slice none 0 0]) (λg=>True) λg=>[.own (.slice g.1 1 g.2) 119 4 1 [.int .i64 0,.int .i64 0,.int .i64 1,.int .i64 1]]:=by
 refine eN0 Tryz.func35 Tryz.ntmps35 ?_
 refine aU2 ?_
 refine oAl (λb1 _=>?_) Xq
 refine aU3 ?_
 refine o_p (Qw (cs:=[_,_,_,_]) rfl rfl QgV XE rfl) rfl (o_h (Qd (cs:=[_,_,_,_]) rfl rfl X0 XE rfl rfl rfl) rfl (λb2 _=>o_p (Qw (cs:=[_,_,_,_,_,_]) rfl rfl YU Xq rfl) rfl (aU2 ?_)))
 exact Qf (rs:=[.cell 0 28]) rfl (.cell rfl Xr aPk rfl (.nil)) (λw' h'=>⟨(some ⟨b2,0,none⟩,1),rfl,trivial,(HS.own_shut (cap:=1) (n:=1) (sz:=4) (h'.ent (Bs:=[.blk b2 119 4 [.int .i64 0,.int .i64 0,.int .i64 1,.int .i64 1]]) aEt) rfl om (by decide)).ent aEt⟩)
end Go.Proofs
namespace Gx
open Go Go.RowKit
theorem QiS{P:Program}{fits:TypeId->Bool}{d e c c' off n:Nat}(h:c<=c')(h1:rowAt P fits d e c off n=true):rowAt P fits d e c' off n=true:=by
 cases d with
 | zero=>exact h1
 | succ d=>
  unfold rowAt at h1 ⊢;simp only[]at h1 ⊢;split at h1
  ·cases h1
  ·rename_i h0;rw[if_neg h0];simp only[Bool.or_eq_true,Bool.and_eq_true,decide_eq_true_eq]at h1 ⊢;rcases h1 with h1|h1
   ·exact .inl ⟨⟨h1.1.1,om⟩,h1.2⟩
   ·exact .inr ⟨om,h1.2⟩
theorem QdI{P:Program}:∀{d:Nat}{e c c' off u n:Nat},c<=c'->liesAt P d e c off u n=true->liesAt P d e c' off u n=true
 | 0,_,_,_,_,_,_,_,h=>h
 | d+1,e,c,c',off,u,n,hc,h=>by
  unfold liesAt at h ⊢;simp only[Bool.or_eq_true]at h ⊢;rcases h with h|h
  ·exact .inl (QiS hc h)
  ·refine .inr ?_;split at h
   ·exact QdI hc h
   ·cases h
section
variable{P:Program}{o:Oper}{L:Qe}{w0:World}{M:List Nat}{As As':List HA}
theorem Qir{src dst te b tot:Nat}{bt:TypeId}{x:Operand}{cs:List Value}(ho:o.op=.convert src dst x)(hx:ev L x=some (.pointer (some ⟨b,0,none⟩)))(hs:QhU P src te)(hd:P.underlying dst=some .unsafePointer)(hp:Qv As (.blk b bt tot cs) As')(h0:0<tot):OpQ P o L (HS w0 M As) (.pointer (some ⟨b,0,none⟩)):=by
 intro ρ w hρ hw;obtain⟨h1,j,h2,h3⟩:=hs;obtain⟨k,hk,this,_⟩:=(hw.blk_get hp).shape;simp only[execOp,ho,hρ _ _ hx,Sem.run_bind,Lib.run_to_unsafe w (⟨b,0,none⟩:Addr) h1 hd h2 h3 this (show 0<k by omega),Result.andThen_ok,Sem.run_pure];exact⟨rfl,Below.refl _ _⟩
theorem QfU{src dst te b tot:Nat}{bt:TypeId}{x:Operand}{cs:List Value}(ho:o.op=.convert src dst x)(hx:ev L x=some (.pointer (some ⟨b,0,none⟩)))(hs:P.underlying src=some .unsafePointer)(hd:QhU P dst te)(hp:Qv As (.blk b bt tot cs) As')(hl:liesAt P P.depth bt (tot/P.cellsOf bt) 0 te 1=true):OpQ P o L (HS w0 M As) (.pointer (some ⟨b,0,none⟩)):=by
 intro ρ w hρ hw;obtain⟨h1,j,h2,h3⟩:=hd;obtain⟨k,hk,this,_⟩:=(hw.blk_get hp).shape;simp only[execOp,ho,hρ _ _ hx,Sem.run_bind,Lib.run_from_unsafe w (⟨b,0,none⟩:Addr) hs h1 h2 this (QdI (Nat.div_le_div_right hk) hl),Result.andThen_ok,Sem.run_pure];exact⟨rfl,Below.refl _ _⟩
def isNE(P:Program)(f:FuncId):Prop:=∃fn,P.funcs[f]?=some fn/\(fn.name== "runtime.NumGoroutine")=false/\fn.body.isNone=true/\Extern.findNext fn=none/\Extern.find fn=some Extern.AbiNoEscape.same
theorem Qi8{f:FuncId}{x:Operand}{v:Value}{at':Array TypeId}{C:World->Prop}(ho:o.op=.call {callee:=.value (.func f),args:=#[x],argTypes:=at'})(hx:ev L x=some v)(hf:isNE P f):OpQ P o L C v:=by
 intro ρ w hρ hw;obtain⟨fn,h1,h2,h3,h4,h5⟩:=hf;have hcall:=run_callFunc_extern h1 h2 h3 h4 h5 #[v] w;rw[Lib.run_noEscape w v]at hcall
 have:(execOp ρ o).run P w=.ok (.value v) w:=by
  unfold execOp;simp only[ho,resolve,Sem.run_bind,hρ (.func f) _ rfl,Deferred.ofValue,Sem.run_pure,Result.andThen_ok,invoke,List.map_toArray,List.map_cons,List.map_nil,hρ _ _ hx,Array.empty_append,Array.append_empty,hcall]
 rw[this];exact⟨rfl,Below.refl _ _⟩
theorem Qih{x:Operand}{at':Array TypeId}{a:Addr}{n cap:Nat}(ho:o.op=.call {callee:=.builtin .unsafeSliceData,args:=#[x],argTypes:=at'})(hx:ev L x=some (.slice (some a) n cap))(hc:cap≠0):OpP P o L (.pointer (some a)):=by
 intro ρ w hρ;simp only[execOp,ho,resolve,Sem.run_bind,Sem.run_pure,Result.andThen_ok,invoke,builtin,List.map_toArray,List.map_cons,List.map_nil,hρ _ _ hx,Lib.run_unsafeSliceData_row w at' o.type a n cap hc]
theorem Qey{pt it e g cap:Nat}{x y:Operand}{l:List UInt8}(ho:o.op=.call {callee:=.builtin .unsafeString,args:=#[x,y],argTypes:=#[pt,it]})(hx:ev L x=some (.pointer (some ⟨g,0,none⟩)))(hy:ev L y=some (.int .i64 (l.length:Int)))(ht:P.underlying pt=some (.pointer e))(hce:P.cellsOf e=1)(h0:l≠[])
  (hp:Qv As (.own (.slice (some ⟨g,0,none⟩) l.length cap) e 1 l.length (l.map bv)) As'):OpH P o L (HS w0 M As) (λ_:Unit=>.string (bs l)) (λ_=>True) (λ_=>HS w0 M As'):=by
 intro ρ w hρ hw;have hl:0<l.length:=by cases l with|nil=>exact absurd rfl h0|cons=>simp
 obtain⟨g',e1,_,h1,h2,h3,hb⟩:=hw.own_blk hl hp;injection e1 with e1
 injection e1 with e1
 subst e1;have hk:=hb.head;obtain⟨k9,hk9,hsh,_⟩:=hk.shape
 have hr:=Lib.run_unsafeString_row (P:=P) w pt it o.type e ht hce g k9 hsh l h0 om (by simp only[maxLen]at h2;omega) (λj x hx=>by
  rw[XG];show w.cell? ⟨g,0+j,none⟩=_;rw[Nat.zero_add];exact Xc.cell hk (by rw[List.getElem?_map,hx];rfl))
 have hx':(execOp ρ o).run P w=.ok (.value (.string (bs l))) (w.freeze ⟨g,0,none⟩ l.length):=by
  simp only[execOp,ho,resolve,Sem.run_bind,Sem.run_pure,Result.andThen_ok,invoke,builtin,List.map_toArray,List.map_cons,List.map_nil,hρ _ _ hx,hρ _ _ hy,hr];rfl
 rw[hx'];refine⟨(),rfl,trivial,?_⟩
 have hf:∀k,k≠g->(w.freeze ⟨g,0,none⟩ l.length).heap[k]?=w.heap[k]?:=λk hne=>by
  simp only[World.freeze];split
  ·rfl
  ·simp[Array.getElem?_modify,Ne.symm hne]
 have h9:(w.freeze ⟨g,0,none⟩ l.length).os=w.os/\(w.freeze ⟨g,0,none⟩ l.length).tape=w.tape/\(w.freeze ⟨g,0,none⟩ l.length).output=w.output/\(w.freeze ⟨g,0,none⟩ l.length).heap.size=w.heap.size:=by
  simp only[World.freeze];split<;>simp
 exact(hb.swap (B:=⟨[g],λ_=>True,λ_ _ _ h=>h⟩) (w':=w.freeze ⟨g,0,none⟩ l.length) (λ_ h=>h) h9.1 h9.2.1 h9.2.2.1 h9.2.2.2 (λk hkk=>hf k (by simpa[HA.fp_blk]using hkk)) trivial).tail
theorem Qcf{t xt e by' n:Nat}{s x:Operand}{v:Value}{z xs:List Value}{l:List UInt8}(ho:o.op=.call {callee:=.builtin .append,args:=#[s,x],argTypes:=#[t,xt]})(hs:ev L s=some v)(hx:ev L x=some (.string (bs l)))(ht:tsl P t=some (e,1,by'))(hxt:P.underlying xt=some .string)(hz:Xs P e=some z)(hzs:z.length=1)
  (hp:Qv As (.own v e 1 n xs) As')(hroom:(n+l.length)*by'<=140737488355328)(hmax:n+l.length<=maxLen) :
  OpH P o L (HS w0 M As) (λg:Option Addr×Nat=>.slice g.1 (n+l.length) g.2) (λ_=>True) (λg=>HS w0 M (.own (.slice g.1 (n+l.length) g.2) e 1 (n+l.length) (xs++l.map bv)::As')):=by
 intro ρ w hρ hw;refine(Qgz ho hs hx ht hxt hz hzs hp hroom hmax ρ w hρ hw).mono λu w' hh=>?_;obtain⟨v',rfl,_,h⟩:=hh;obtain⟨a',cap',rfl,_⟩:=h.head.form;exact⟨(a',cap'),rfl,trivial,h⟩
end
end Gx
/-
  DERIVED: THE SHELF's CONTRACTS AT THIS DUMP,IN PLAIN WORDS (tools/lay-plain.mjs out of 'TryzShelf.lean',which tools/lay-shelf.mjs wrote): THE SAME DECLARATIONS UNDER THE SAME NAMES: 'import','namespace','open','def','theorem' AND NOTHING ELSE: no command of the shelf's: FOR A HAND-IN. Each laying: the table of numbers ('.._ren') and one theorem,a field a fact of the dump's own or the kernel's comparison;each contract: ONE APPLICATION.
-/
namespace Go.Proofs
open Go.Shelf
def Tryz.lays105_ren:Go.Shelf.Ren:=⟨λ |105=>78|212=>125|99=>126|165=>127|166=>122|170=>128|169=>124|263=>162|264=>163|206=>164|240=>160|241=>165|276=>211|277=>213|n=>n,λ |9=>9|3=>3|4=>4|20=>20|0=>0|46=>195|109=>196|5=>5|72=>189|76=>192|51=>143|146=>229|53=>231|148=>232|70=>187|37=>124|75=>191|127=>228|164=>258|80=>194|n=>n,λ |n=>n⟩
theorem Tryz.lays105:Go.Proofs.Lays.n105 Tryz.prog Tryz.lays105_ren:={
  mixed:=by kernel_rfl
  f99:=Tryz.func126.trans (congrArg some (by kernel_rfl))
  f105:=Tryz.func78.trans (congrArg some (by kernel_rfl))
  f165:=Tryz.func127.trans (congrArg some (by kernel_rfl))
  f166:=Tryz.func122.trans (congrArg some (by kernel_rfl))
  f169:=Tryz.func124.trans (congrArg some (by kernel_rfl))
  f170:=Tryz.func128.trans (congrArg some (by kernel_rfl))
  f206:=Tryz.func164.trans (congrArg some (by kernel_rfl))
  f212:=Tryz.func125.trans (congrArg some (by kernel_rfl))
  f240:=Tryz.func160.trans (congrArg some (by kernel_rfl))
  f241:=Tryz.func165.trans (congrArg some (by kernel_rfl))
  f263:=Tryz.func162.trans (congrArg some (by kernel_rfl))
  f264:=Tryz.func163.trans (congrArg some (by kernel_rfl))
  f276:=Tryz.func211.trans (congrArg some (by kernel_rfl))
  f277:=Tryz.func213.trans (congrArg some (by kernel_rfl))
  t0:=Tryz.underlying0
  a0:=Tryz.isAgg0
  z0:=Tryz.sizeOf0
  v0:=Tryz.zeroValue0
  t3:=Tryz.underlying3
  a3:=Tryz.isAgg3
  z3:=Tryz.sizeOf3
  v3:=Tryz.zeroValue3
  t4:=Tryz.underlying4
  a4:=Tryz.isAgg4
  z4:=Tryz.sizeOf4
  v4:=Tryz.zeroValue4
  t5:=Tryz.underlying5
  a5:=Tryz.isAgg5
  z5:=Tryz.sizeOf5
  v5:=Tryz.zeroValue5
  t9:=Tryz.underlying9
  a9:=Tryz.isAgg9
  z9:=Tryz.sizeOf9
  v9:=Tryz.zeroValue9
  t20:=Tryz.underlying20
  a20:=Tryz.isAgg20
  z20:=Tryz.sizeOf20
  v20:=Tryz.zeroValue20
  t37:=Tryz.underlying124
  a37:=Tryz.isAgg124
  z37:=Tryz.sizeOf124
  v37:=Tryz.zeroValue124
  t46:=Tryz.underlying195
  a46:=Tryz.isAgg195
  z46:=Tryz.sizeOf195
  v46:=Tryz.zeroValue195
  t51:=Tryz.underlying143
  a51:=Tryz.isAgg143
  z51:=Tryz.sizeOf143
  v51:=Tryz.zeroValue143
  t53:=Tryz.underlying231
  a53:=Tryz.isAgg231
  z53:=Tryz.sizeOf231
  v53:=Tryz.zeroValue231
  t70:=Tryz.underlying187
  a70:=Tryz.isAgg187
  z70:=Tryz.sizeOf187
  v70:=Tryz.zeroValue187
  t72:=Tryz.underlying189
  a72:=Tryz.isAgg189
  z72:=Tryz.sizeOf189
  v72:=Tryz.zeroValue189
  t75:=Tryz.underlying191
  a75:=Tryz.isAgg191
  z75:=Tryz.sizeOf191
  v75:=Tryz.zeroValue191
  t76:=Tryz.underlying192
  a76:=Tryz.isAgg192
  z76:=Tryz.sizeOf192
  v76:=Tryz.zeroValue192
  t109:=Tryz.underlying196
  a109:=Tryz.isAgg196
  z109:=Tryz.sizeOf196
  v109:=Tryz.zeroValue196
  t127:=Tryz.underlying228
  a127:=Tryz.isAgg228
  z127:=Tryz.sizeOf228
  v127:=Tryz.zeroValue228
  t146:=Tryz.underlying229
  a146:=Tryz.isAgg229
  z146:=Tryz.sizeOf229
  v146:=Tryz.zeroValue229
  t148:=Tryz.underlying232
  a148:=Tryz.isAgg232
  z148:=Tryz.sizeOf232
  v148:=Tryz.zeroValue232
  t164:=Tryz.underlying258
  a164:=Tryz.isAgg258
  z164:=Tryz.sizeOf258
  v164:=Tryz.zeroValue258}
theorem Tryz.Builder_Extra_105:Builder.Extra Tryz.prog Tryz.lays105_ren:={
  sizeBuilder:=by kernel_rfl
  liesBuilder:=by kernel_rfl
  t5:=Tryz.underlying5
  a5:=Tryz.isAgg5
  z5:=Tryz.sizeOf5
  v5:=Tryz.zeroValue5
  infoByte:=by kernel_rfl
  cellsByte:=by kernel_rfl
  sizeByte:=by kernel_rfl
  neB5:=by decide}
open Go.RowKit Go.Lib in
theorem Tryz.strings_Repeat(s:ByteArray)(c:Nat)(w:World)(hc:c<=9223372036854775807)(hlen:s.size*c<=140737488355328) :
    Calls Tryz.prog 78 #[.string s,.int .i64 c] w λe w'=>e=.returned (.string ⟨(Lib.repeatL s.data.toList c).toArray⟩)/\Below w.heap.size w w':=Any.strings_Repeat Tryz.lays105 Tryz.Builder_Extra_105 s c w hc hlen
end Go.Proofs

namespace Go.Proofs
open Go Go.RowKit Gx
attribute [local irreducible] Go.Calls Gx.S Gx.O Gx.D Gx.OpP Gx.OpQ Gx.OpH
set_option maxRecDepth 20000
instance:TFd Tryz.prog 189 0 0 187:=⟨by kernel_rfl⟩
instance:TSz Tryz.prog 187 1 false:=⟨by kernel_rfl⟩
theorem Qre:tsz Tryz.prog 189=some (2,true):=by kernel_rfl
theorem Qda:QhU Tryz.prog 187 189:=Qkh Tryz.underlying187 Qre (by decide)
theorem Qq5:isNE Tryz.prog 211:=⟨_,Tryz.func211,rfl,rfl,by kernel_rfl,by kernel_rfl⟩
theorem Qmy:QE Tryz.prog 160=true:=by kernel_rfl
instance:TFd Tryz.prog 189 1 1 124:=⟨by kernel_rfl⟩
theorem QrU(w:World)(b:Nat)(v:Value)(hw:HS w (fps [.blk b 189 2 [.pointer none,v]]) [.blk b 189 2 [.pointer none,v]] w):CE 160 #[.pointer (some ⟨b,0,none⟩)] w (fps [.blk b 189 2 [.pointer none,v]]) (λg:Unit=>.tuple #[]) (λg=>True) λg=>[.blk b 189 2 [.pointer (some ⟨b,0,none⟩),v]]:=by
 refine eW1 Tryz.func160 Tryz.ntmps160 hw ?_
 refine aU6 ?_
 refine o_p (Qgq rfl rfl rfl Qda) rfl (aU ?_)
 refine sCd rfl (λh1=>?_) λh1=>?_
 ·refine aU3 ?_
  refine o_q (Qir rfl rfl Qda Tryz.underlying258 aPk (by decide)) rfl (o_q (Qi8 rfl rfl Qq5) rfl (o_q (QfU rfl rfl Tryz.underlying258 Qda aPk (by kernel_rfl)) rfl (aU4 ?_)))
  exact Qcr rfl (λw' h'=>⟨(),rfl,trivial,h'.ent aEt⟩)
 exfalso;first|omega|(simp at h1;done)|(simp_all;done)
theorem Qrs(w:World)(b:Nat)(v:Value)(hw:HS w (fps [.blk b 189 2 [.pointer (some ⟨b,0,none⟩),v]]) [.blk b 189 2 [.pointer (some ⟨b,0,none⟩),v]] w):CE 160 #[.pointer (some ⟨b,0,none⟩)] w (fps [.blk b 189 2 [.pointer (some ⟨b,0,none⟩),v]]) (λg:Unit=>.tuple #[]) (λg=>True) λg=>[.blk b 189 2 [.pointer (some ⟨b,0,none⟩),v]]:=by
 refine eW1 Tryz.func160 Tryz.ntmps160 hw ?_
 refine aU6 ?_
 refine o_p (Qgq rfl rfl rfl Qda) rfl (aU ?_)
 refine sCd rfl (λh1=>?_) λh1=>?_
 ·exfalso;first|omega|(simp at h1;done)|(simp_all;done)
 refine aU7 ?_
 refine o_p (QeD rfl rfl rfl Qda) rfl (aU ?_)
 refine sCd rfl (λh2=>?_) λh2=>?_
 ·exfalso;first|omega|(simp at h2;done)|(simp_all;done)
 refine aU ?_
 exact Qcr rfl (λw' h'=>⟨(),rfl,trivial,h'.ent aEt⟩)
theorem QrP(w:World)(b:Nat)(a:Option Addr)(n cap:Nat)(xs:List Value)(s:List UInt8)(hw:HS w (fps [.blk b 189 2 [.pointer none,.slice a n cap],.own (.slice a n cap) 5 1 n xs]) [.blk b 189 2 [.pointer none,.slice a n cap],.own (.slice a n cap) 5 1 n xs] w)(hl:n+s.length<=1000000000):CE 122 #[.pointer (some ⟨b,0,none⟩),.string (bs s)] w (fps [.blk b 189 2 [.pointer none,.slice a n cap],.own (.slice a n cap) 5 1 n xs]) (λg:Option Addr×Nat=>.tuple #[.int .i64 (s.length:Int),.nilIface]) (λg=>True) λg=>[.blk b 189 2 [.pointer (some ⟨b,0,none⟩),.slice g.1 (n+s.length) g.2],.own (.slice g.1 (n+s.length) g.2) 5 1 (n+s.length) (xs++s.map bv)]:=by
 refine eW2 Tryz.func122 Tryz.ntmps122 hw ?_
 refine aU8 ?_
 refine o_h (QV (Cs:=[.blk b 189 2 [.pointer none,.slice a n cap]]) rfl Qmy rfl aPs (λw1 h1 hf=>QrU w1 b _ hf)) rfl (λ_ _=>aU9 ?_)
 refine o_h (Qcf rfl rfl rfl QP Tryz.underlying9 Qdi rfl aPk om (by simp only[maxLen];omega)) rfl (λb1 _=>aU7 ?_)
 refine o_p (QJ rfl rfl Tryz.underlying9) rfl (aU3 ?_)
 exact Qf (rs:=[.tmp 4,.tmp 5]) rfl (.tmp rfl (.tmp rfl (.nil))) (λw' h'=>⟨b1,rfl,trivial,h'.ent aEt⟩)
theorem Qpm(w:World)(b:Nat)(a:Option Addr)(n cap:Nat)(xs:List Value)(s:List UInt8)(hw:HS w (fps [.blk b 189 2 [.pointer (some ⟨b,0,none⟩),.slice a n cap],.own (.slice a n cap) 5 1 n xs]) [.blk b 189 2 [.pointer (some ⟨b,0,none⟩),.slice a n cap],.own (.slice a n cap) 5 1 n xs] w)(hl:n+s.length<=1000000000):CE 122 #[.pointer (some ⟨b,0,none⟩),.string (bs s)] w (fps [.blk b 189 2 [.pointer (some ⟨b,0,none⟩),.slice a n cap],.own (.slice a n cap) 5 1 n xs]) (λg:Option Addr×Nat=>.tuple #[.int .i64 (s.length:Int),.nilIface]) (λg=>True) λg=>[.blk b 189 2 [.pointer (some ⟨b,0,none⟩),.slice g.1 (n+s.length) g.2],.own (.slice g.1 (n+s.length) g.2) 5 1 (n+s.length) (xs++s.map bv)]:=by
 refine eW2 Tryz.func122 Tryz.ntmps122 hw ?_
 refine aU8 ?_
 refine o_h (QV (Cs:=[.blk b 189 2 [.pointer (some ⟨b,0,none⟩),.slice a n cap]]) rfl Qmy rfl aPs (λw1 h1 hf=>Qrs w1 b _ hf)) rfl (λ_ _=>aU9 ?_)
 refine o_h (Qcf rfl rfl rfl QP Tryz.underlying9 Qdi rfl aPk om (by simp only[maxLen];omega)) rfl (λb1 _=>aU7 ?_)
 refine o_p (QJ rfl rfl Tryz.underlying9) rfl (aU3 ?_)
 exact Qf (rs:=[.tmp 4,.tmp 5]) rfl (.tmp rfl (.tmp rfl (.nil))) (λw' h'=>⟨b1,rfl,trivial,h'.ent aEt⟩)
theorem d124(w:World)(b q cap:Nat)(l:List UInt8)(hw:HS w (fps [.blk b 189 2 [.pointer (some ⟨b,0,none⟩),.slice (some ⟨q,0,none⟩) l.length cap],.own (.slice (some ⟨q,0,none⟩) l.length cap) 5 1 l.length (l.map bv)]) [.blk b 189 2 [.pointer (some ⟨b,0,none⟩),.slice (some ⟨q,0,none⟩) l.length cap],.own (.slice (some ⟨q,0,none⟩) l.length cap) 5 1 l.length (l.map bv)] w)(h0:l≠[])(hcap:l.length<=cap):CE 124 #[.pointer (some ⟨b,0,none⟩)] w (fps [.blk b 189 2 [.pointer (some ⟨b,0,none⟩),.slice (some ⟨q,0,none⟩) l.length cap],.own (.slice (some ⟨q,0,none⟩) l.length cap) 5 1 l.length (l.map bv)]) (λg:Unit=>.string (bs l)) (λg=>True) λg=>[]:=by
 have hl0:0<l.length:=by cases l with|nil=>exact absurd rfl h0|cons=>simp
 refine eW1 Tryz.func124 Tryz.ntmps124 hw ?_
 refine aU5 ?_
 refine Qp [10] mixed ?_
 refine dP 0 ?_
 refine dP 1 ?_
 refine dFa 2 ?_
 refine dLd 3 [[4]] ?_
 refine dV 4 rfl (Qih rfl rfl om) (dP 5 ?_)
 refine dP 6 ?_
 refine dFa 7 ?_
 refine dLd 8 [[9]] ?_
 refine dV 9 rfl (QI rfl rfl Tryz.underlying124) (dH 10 rfl (Qey rfl rfl rfl Tryz.underlying228 (by kernel_rfl) h0 aPk) (λ_ _=>dTu [] ?_))
 refine dP 11 ?_
 refine dNi ?_
 exact rT rfl rfl (λw' h'=>⟨(),rfl,trivial,h'.nil⟩)
theorem c124(w:World)(b:Nat)(a:Option Addr)(cap:Nat)(l:List UInt8)(hw:HS w (fps [.blk b 189 2 [.pointer (some ⟨b,0,none⟩),.slice a l.length cap],.own (.slice a l.length cap) 5 1 l.length (l.map bv)]) [.blk b 189 2 [.pointer (some ⟨b,0,none⟩),.slice a l.length cap],.own (.slice a l.length cap) 5 1 l.length (l.map bv)] w)(h0:l≠[]):CE 124 #[.pointer (some ⟨b,0,none⟩)] w (fps [.blk b 189 2 [.pointer (some ⟨b,0,none⟩),.slice a l.length cap],.own (.slice a l.length cap) 5 1 l.length (l.map bv)]) (λg:Unit=>.string (bs l)) (λg=>True) λg=>[]:=by
  have hl:0<l.length:=by cases l with|nil=>exact absurd rfl h0|cons=>simp
  obtain⟨q,rfl,_,h1,_,_,hb⟩:=HS.own_blk hl (As':=[.blk b 189 2 [.pointer (some ⟨b,0,none⟩),.slice a l.length cap]]) aPk hw;exact d124 w b q cap l hw h0 h1
theorem c78(w:World)(c:Nat)(hc:c<=100000):CR 78 #[.string (bs [0]),.int .i64 (c:Int)] w (.string (bs (List.replicate c 0))):=by
  have h:=Tryz.strings_Repeat (bs [0]) c w om (by simp;omega)
  have e:Lib.repeatL (bs [0]).data.toList c=List.replicate c 0:=by
    have:=Lib.repeatL_replicate 0 1 c
    simpa using this
  rw[e]at h;exact h
theorem QrQ:QE Tryz.prog 98=true:=by kernel_rfl
theorem QdO:QE Tryz.prog 54=true:=by kernel_rfl
instance:TFn Tryz.prog 54:=⟨QdO⟩
theorem Qp5:Xs Tryz.prog 189=some [.pointer none,.slice none 0 0]:=by kernel_rfl
instance:TFn Tryz.prog 123:=⟨by kernel_rfl⟩
theorem Qi0:QE Tryz.prog 122=true:=by kernel_rfl
theorem QjF:QE Tryz.prog 46=true:=by kernel_rfl
instance:TFn Tryz.prog 78:=⟨by kernel_rfl⟩
theorem Qqp:QE Tryz.prog 124=true:=by kernel_rfl
theorem c54(w:World)(ua:Option Addr)(uc:Nat)(u:List Int)(hu:Vl w ua (u.map nv))(hum:u.length<=1000)(hur:∀x∈u,0<=x/\x<4294967296):CR 54 #[.slice ua u.length uc] w (.string (bs (nmB u))):=by
 refine eN1 Tryz.func54 Tryz.ntmps54 ?_
 refine Qqa ?_
 refine Qt (α:=Nat×Option Addr×Nat) [3,5,8,9,10,11,12,13,14,15,16] (λy=>[(8,.int .i64 (y.1:Int)),(3,.slice y.2.1 (nmB (u.take y.1)).length y.2.2)]) (λy=>HS w [] [.own (.slice y.2.1 (nmB (u.take y.1)).length y.2.2) 5 1 ((nmB (u.take y.1)).length) (((nmB (u.take y.1))).map bv)]) (λy=>y.1<=u.length) (λy=>u.length-y.1) (0,none,0) (Nat.zero_le _) aSx (λw h=>(h.own_nil 5 1).ent aEt) (λ⟨k,ga⟩hk1=>?_)
 dsimp only
 simp only[]at hk1
 refine aU5 ?_
 refine sCd rfl (λh1=>?_) λh1=>?_
 ·have hk:k<u.length:=by omega
  have hst:=Qnh hk
  have hnl:=XT (u.take k)
  rw[List.length_take]at hnl
  have hr9:=hur _ (XO (d:=0) hk)
  refine aU5 ?_
  refine o_p (Qa rfl rfl rfl QD (k) om om (hu.some (by rw[List.length_map];omega))) rfl (o_q (Qc rfl rfl XB ((hu.rd (ZL hk)))) rfl (aU5 ?_))
  refine o_p (Qk rfl rfl Yx XP) rfl (Ql (show _=Value.int .u32 (u.getD k 0)from by rw[QdL,Int.emod_eq_of_lt om om]) (o_h (QV (Cs:=[.own (.slice ga.1 (nmB (u.take k)).length ga.2) 5 1 ((nmB (u.take k)).length) (((nmB (u.take k))).map bv)]) rfl QrQ rfl aPs (λw1 h1 hf=>c98 w1 ga.1 ga.2 (nmB (u.take k)) (u.getD k 0) hf om om)) rfl (λgn _=>aT5 ?_)))
  refine aU2 ?_
  exact QQ (k+1,gn) (by(try simp only[]);omega) (by(try simp only[]);omega) (by dsimp only;rw[hst];exact aSx) (λw h=>by dsimp only;rw[hst];exact h.ent aEt)
 obtain rfl:k=u.length:=om
 rw[List.take_length]
 refine Qj rfl ?_
 refine aU3 ?_
 refine o_q (QcL rfl rfl Tryz.underlying124 Tryz.underlying9 Tryz.underlying5 aPk (QgF _)) rfl (aU2 ?_)
 exact rV (h:=by rw[QfG];rfl)
set_option maxHeartbeats 2000000 in
theorem c77(w:World)(nx:Int)(a:Option Addr)(cap:Nat)(l:List SItm)(hs:Rw SItm.vals 2 w [] a l)(hm:l.length<=100000)(hb:∀x∈l,x.by_.length<=100000)(hst0:(QO nx l).2=0):CR 77 #[.agg #[.int .i64 nx,.slice a l.length cap]] w (.string (bs (XF nx l))):=by
 obtain⟨hnx,hl60,hit9,hpl9⟩:=XR hst0
 have hple:=QjX hb
 have hsu:=Qpj (hd0 nx (QF l).2)
 have hhl:=Zx nx l
 have hd0l:(hd0 nx (QF l).2).length=12:=rfl
 have hhsl:(QhL nx (QF l).2).length=16:=rfl
 refine eN1 Tryz.func77 Tryz.ntmps77 ?_
 refine aU2 ?_
 refine oBx λb1 _=>?_
 refine aU6 ?_
 refine oCh rfl (λw1 h1=>c70 w1 a cap l (hs.later h1) hm hb) (λgp _=>ZW ?_)
 refine o_h (Qd (cs:=[_,_]) rfl rfl QD Ye rfl rfl rfl) rfl (λb2 _=>?_)
 refine oCq rfl (λw1 h1=>c54 w1 _ _ [nx,(QF l).2] (h1.vl_blk aPk) (by simp) (by intro x hx;simp only[List.mem_cons,List.mem_nil_iff,or_false]at hx;rcases hx with rfl|rfl<;>omega)) (o_p (Qao rfl rfl rfl (by(try simp only[List.length_append,List.length_cons,List.length_nil,List.length_replicate,List.length_take,List.length_drop,XT,List.length_cons]);omega)) rfl (Ql (show _=Value.string (bs (hd0 nx (QF l).2))from rfl) (aU4 ?_)))
 refine oAl (λb3 _=>?_) Qp5
 refine Xm (C':=HS w [] [.own (.slice none 0 0) 5 1 0 [],.blk b3 189 2 [.pointer none,.slice none 0 0],.own (.slice gp.1 l.length gp.2) 3 1 l.length ((QF l).1.map nv),.blk b1 63 2 [.int .i64 nx,.slice a l.length cap]]) (λw h=>(h.own_nil 5 1).ent aEt) (aU5 ?_)
 refine oCq rfl (λw1 h1=>c123 w1 (hd0 nx (QF l).2) om) (o_h (Qd (cs:=[_]) rfl rfl QD Ye rfl rfl rfl) rfl (λb4 _=>?_))
 refine oCq rfl (λw1 h1=>c54 w1 _ _ [QkL (hd0 nx (QF l).2)] (h1.vl_blk aPk) (by simp) (by intro x hx;simp only[List.mem_cons,List.mem_nil_iff,or_false]at hx;rcases hx with rfl<;>omega)) (o_p (Qao rfl rfl rfl (by(try simp only[List.length_append,List.length_cons,List.length_nil,List.length_replicate,List.length_take,List.length_drop,XT,List.length_cons]);omega)) rfl (Ql (show _=Value.string (bs (QhL nx (QF l).2))from rfl) (o_h (QV (Cs:=[.blk b3 189 2 [.pointer none,.slice none 0 0],.own (.slice none 0 0) 5 1 0 []]) rfl Qi0 rfl aPs (λw1 h1 hf=>QrP w1 b3 none 0 0 [] (QhL nx (QF l).2) hf om)) rfl (λg1 _=>Zn ?_))))
 refine Qi (L':=[(2,_),(3,_),(6,_),(30,_),(31,_),(32,_)]) aSx (λ_ h=>h) ?_
 refine Qt (α:=Nat×Option Addr×Nat) [7,8,9,32,33,34,35,36,37,38,39,40,41,42,43,44,45,46,47,48,49,50,51,52,53,54,55,56,57,58,59,60,61,62,63] (λy=>[(32,.int .i64 (y.1:Int))]) (λy=>HS w [] [.blk b3 189 2 [.pointer (some ⟨b3,0,none⟩),.slice y.2.1 (Xo nx l y.1).length y.2.2],.own (.slice y.2.1 (Xo nx l y.1).length y.2.2) 5 1 (Xo nx l y.1).length ((Xo nx l y.1).map bv),.own (.slice gp.1 l.length gp.2) 3 1 l.length ((QF l).1.map nv),.blk b1 63 2 [.int .i64 nx,.slice a l.length cap]]) (λy=>y.1<=l.length) (λy=>l.length-y.1) (0,g1.1,g1.2) (Nat.zero_le _) aSx (λw h=>by dsimp only;rw[show(Xo nx l 0)=QhL nx (QF l).2 from List.append_nil _];exact h.ent aEt) (λ⟨k,ga⟩hk1=>?_)
 dsimp only
 simp only[]at hk1
 refine aU5 ?_
 refine sCd rfl (λh5=>?_) λh5=>?_
 ·have hk:k<l.length:=by omega
  have hrg:=(Yb (hit9 k hk)).1
  have hbk:(nth l k).by_.length<=100000:=hb _ (XO hk)
  have hpk:=Qct hb k om
  have hpm:=Qe9 hb l.length (Nat.le_refl _) k om
  rw[List.take_length]at hpm
  have hhk:=QbU nx l k om
  have hha:=Qbw (nth l k).by_
  have hup:upT (Xa (nth l k))-Xa (nth l k)=((ZU (Xa (nth l k)):Nat):Int)/\ZU (Xa (nth l k))<=16:=by unfold ZU upT Xa;omega
  have hil:Xa (nth l k)=16+((nth l k).by_.length:Int):=rfl
  have hpl5:=Zb l
  have hsc:Xo nx l (k+1)=((Xo nx l k)++(nmB [Xk (nth l k).by_,(nth l k).id,(QF (l.take k)).2,Xa (nth l k)]++(nth l k).by_))++(List.replicate (ZU (Xa (nth l k))) (0:UInt8)):=by rw[QeK];unfold Qhq;rw[<-List.append_assoc]
  refine Yr (λw h=>Vl.some (HS.vl_own (a:=gp.1) (t:=3) h aPk) (by rw[List.length_map];omega)) λhsm=>aU6 ?_
  refine o_p (Qa rfl rfl rfl XY (k) om om (Rw.some hs om)) rfl (o_q (Qm _ rfl rfl Qaa rfl (Rw.rd hs hk)) rfl (oAl (λb6 _=>?_) Yq))
  refine aU7 ?_
  refine o_p (QJ rfl rfl Tryz.underlying9) rfl (aT ?_)
  refine Ql (show _=Value.int .i64 (Xa (nth l k))from rfl) (aU3 ?_)
  refine Qp [15] mixed ?_
  refine dFa 0 ?_
  refine dLd 1 [[11,2]] ?_
  refine dQ 2 [[11]] rfl (Qh rfl QjF rfl (λw1 h1=>c46 w1 (nth l k).by_ om)) (dFa 3 ?_)
  refine dLd 4 [[11,10]] ?_
  refine dP 5 ?_
  refine dP 6 ?_
  refine dV 7 rfl (Qa rfl rfl rfl QD (k) om om hsm) (dQ 8 [[11,10]] rfl (Qo rfl rfl XB (λw h=>(HS.vl_own (a:=gp.1) (t:=3) h aPk).rd (ZL (k:=k) om))) (Qs (show _=Value.int .i64 (QF (l.take k)).2 from by rw[Qju hk]) (dP 9 ?_)))
  refine dFa 12 ?_
  refine dLd 13 [[14]] ?_
  refine dH 10 rfl (Qd (cs:=[_,_,_,_]) rfl rfl QD Ye rfl rfl rfl) (λb7 _=>dBa ?_)
  refine dQ 11 [[]] rfl (Qh rfl QdO rfl (λw1 h1=>c54 w1 _ _ [Xk (nth l k).by_,(nth l k).id,(QF (l.take k)).2,Xa (nth l k)] (h1.vl_blk aPk) (by simp) (by intro x hx;simp only[List.mem_cons,List.mem_nil_iff,or_false]at hx;rcases hx with rfl|rfl|rfl|rfl<;>omega))) (dV 14 rfl (Qao rfl rfl rfl (by(try simp only[List.length_append,List.length_cons,List.length_nil,List.length_replicate,List.length_take,List.length_drop,XT,List.length_cons]);omega)) (Qs (show _=Value.string (bs (nmB [Xk (nth l k).by_,(nth l k).id,(QF (l.take k)).2,Xa (nth l k)]++(nth l k).by_))from rfl) (dH 15 rfl (QV (Cs:=[.blk b3 189 2 [.pointer (some ⟨b3,0,none⟩),.slice ga.1 (Xo nx l k).length ga.2],.own (.slice ga.1 (Xo nx l k).length ga.2) 5 1 (Xo nx l k).length ((Xo nx l k).map bv)]) rfl Qi0 rfl aPs (λw1 h1 hf=>Qpm w1 b3 ga.1 (Xo nx l k).length ga.2 ((Xo nx l k).map bv) (nmB [Xk (nth l k).by_,(nth l k).id,(QF (l.take k)).2,Xa (nth l k)]++(nth l k).by_) hf (by simp only[List.length_append,List.length_replicate,XT,List.length_cons,List.length_nil];omega))) (λg2 _=>dTu [] ?_))))
  refine dNi ?_
  refine Qi (L':=[(2,_),(3,_),(6,_),(9,_),(30,_),(31,_),(32,_)]) aSx (λ_ h=>h) ?_
  refine aU2 ?_
  refine Xm (C':=HS w [] [.blk b3 189 2 [.pointer (some ⟨b3,0,none⟩),.slice g2.1 ((Xo nx l k)++(nmB [Xk (nth l k).by_,(nth l k).id,(QF (l.take k)).2,Xa (nth l k)]++(nth l k).by_)).length g2.2],.own (.slice g2.1 ((Xo nx l k)++(nmB [Xk (nth l k).by_,(nth l k).id,(QF (l.take k)).2,Xa (nth l k)]++(nth l k).by_)).length g2.2) 5 1 ((Xo nx l k)++(nmB [Xk (nth l k).by_,(nth l k).id,(QF (l.take k)).2,Xa (nth l k)]++(nth l k).by_)).length (((Xo nx l k)++(nmB [Xk (nth l k).by_,(nth l k).id,(QF (l.take k)).2,Xa (nth l k)]++(nth l k).by_)).map bv),.blk b6 72 2 [.int .i64 (nth l k).id,.string (bs (nth l k).by_)],.own (.slice gp.1 l.length gp.2) 3 1 l.length ((QF l).1.map nv),.blk b1 63 2 [.int .i64 nx,.slice a l.length cap]]) (λw h=>by rw[List.map_append (l₁:=(Xo nx l k)),@List.length_append _ (Xo nx l k) (nmB [Xk (nth l k).by_,(nth l k).id,(QF (l.take k)).2,Xa (nth l k)]++(nth l k).by_)];exact h.ent aEt) (oCq rfl (λw1 h1=>Qo7 w1 (Xa (nth l k)) om) (aT2 ?_))
  refine Ql (show _=Value.int .i64 ((ZU (Xa (nth l k)):Nat):Int)from by rw[hup.1]) (oCq rfl (λw1 h1=>c78 w1 (ZU (Xa (nth l k))) om) (o_h (QV (Cs:=[.blk b3 189 2 [.pointer (some ⟨b3,0,none⟩),.slice g2.1 ((Xo nx l k)++(nmB [Xk (nth l k).by_,(nth l k).id,(QF (l.take k)).2,Xa (nth l k)]++(nth l k).by_)).length g2.2],.own (.slice g2.1 ((Xo nx l k)++(nmB [Xk (nth l k).by_,(nth l k).id,(QF (l.take k)).2,Xa (nth l k)]++(nth l k).by_)).length g2.2) 5 1 ((Xo nx l k)++(nmB [Xk (nth l k).by_,(nth l k).id,(QF (l.take k)).2,Xa (nth l k)]++(nth l k).by_)).length (((Xo nx l k)++(nmB [Xk (nth l k).by_,(nth l k).id,(QF (l.take k)).2,Xa (nth l k)]++(nth l k).by_)).map bv)]) rfl Qi0 rfl aPs (λw1 h1 hf=>Qpm w1 b3 g2.1 ((Xo nx l k)++(nmB [Xk (nth l k).by_,(nth l k).id,(QF (l.take k)).2,Xa (nth l k)]++(nth l k).by_)).length g2.2 (((Xo nx l k)++(nmB [Xk (nth l k).by_,(nth l k).id,(QF (l.take k)).2,Xa (nth l k)]++(nth l k).by_)).map bv) (List.replicate (ZU (Xa (nth l k))) (0:UInt8)) hf (by simp only[List.length_append,List.length_replicate,XT,List.length_cons,List.length_nil];omega))) rfl (λg3 _=>Xm (C':=HS w [] [.blk b3 189 2 [.pointer (some ⟨b3,0,none⟩),.slice g3.1 (((Xo nx l k)++(nmB [Xk (nth l k).by_,(nth l k).id,(QF (l.take k)).2,Xa (nth l k)]++(nth l k).by_))++(List.replicate (ZU (Xa (nth l k))) (0:UInt8))).length g3.2],.own (.slice g3.1 (((Xo nx l k)++(nmB [Xk (nth l k).by_,(nth l k).id,(QF (l.take k)).2,Xa (nth l k)]++(nth l k).by_))++(List.replicate (ZU (Xa (nth l k))) (0:UInt8))).length g3.2) 5 1 (((Xo nx l k)++(nmB [Xk (nth l k).by_,(nth l k).id,(QF (l.take k)).2,Xa (nth l k)]++(nth l k).by_))++(List.replicate (ZU (Xa (nth l k))) (0:UInt8))).length ((((Xo nx l k)++(nmB [Xk (nth l k).by_,(nth l k).id,(QF (l.take k)).2,Xa (nth l k)]++(nth l k).by_))++(List.replicate (ZU (Xa (nth l k))) (0:UInt8))).map bv),.own (.slice gp.1 l.length gp.2) 3 1 l.length ((QF l).1.map nv),.blk b1 63 2 [.int .i64 nx,.slice a l.length cap]]) (λw h=>by rw[List.map_append (l₁:=((Xo nx l k)++(nmB [Xk (nth l k).by_,(nth l k).id,(QF (l.take k)).2,Xa (nth l k)]++(nth l k).by_))),@List.length_append _ ((Xo nx l k)++(nmB [Xk (nth l k).by_,(nth l k).id,(QF (l.take k)).2,Xa (nth l k)]++(nth l k).by_)) (List.replicate (ZU (Xa (nth l k))) (0:UInt8))];exact h.ent aEt) (aT4 ?_))))
  refine aU2 ?_
  exact QQ (k+1,g3) (by(try simp only[]);omega) (by(try simp only[]);omega) aSx (λw h=>by dsimp only;rw[hsc];exact h.ent aEt)
 obtain rfl:k=l.length:=om
 refine Qj rfl ?_
 refine aU2 ?_
 refine o_h (QV (Cs:=[.blk b3 189 2 [.pointer (some ⟨b3,0,none⟩),.slice ga.1 (XF nx l).length ga.2],.own (.slice ga.1 (XF nx l).length ga.2) 5 1 (XF nx l).length ((XF nx l).map bv)]) rfl Qqp rfl aPs (λw1 h1 hf=>c124 w1 b3 ga.1 ga.2 (XF nx l) hf (by intro e9;rw[e9]at hhl;simp at hhl;omega))) rfl (λ_ _=>aU2 ?_)
 exact rV
instance:TFn Tryz.prog 77:=⟨by kernel_rfl⟩
theorem c30(w:World)(nx:Int)(a:Option Addr)(cap:Nat)(l:List SItm)(hs:Rw SItm.vals 2 w [] a l)(hm:l.length<=100000)(hb:∀x∈l,x.by_.length<=100000):CR 30 #[.agg #[.int .i64 nx,.slice a l.length cap]] w (.tuple #[.string (bs (if(QO nx l).2=0 then QW nx l else[])),.int .i64 (QO nx l).2]):=by
 refine eN1 Tryz.func30 Tryz.ntmps30 ?_
 refine aU2 ?_
 refine oBx λb1 _=>?_
 refine aU7 ?_
 refine oCq rfl (λw1 h1=>c72 w1 nx a cap l (hs.later h1) hm hb) (aU7 ?_)
 refine sCd rfl (λh2=>?_) λh2=>?_
 ·have h0:¬(QO nx l).2=0:=h2
  refine aU6 ?_
  exact Qf (rs:=[.tmp 2,.tmp 3]) rfl (.tmp rfl (.tmp rfl (.nil))) (λw' h'=>⟨by rw[if_neg h0];rfl,h'.below⟩)
 have h0:(QO nx l).2=0:=h2
 obtain⟨hnx,hl60,hit9,hpl9⟩:=XR h0
 have hhl:=Zx nx l
 refine aU4 ?_
 refine oCq rfl (λw1 h1=>c77 w1 nx a cap l (hs.later h1) hm hb h0) (aU6 ?_)
 refine o_p (QJ rfl rfl Tryz.underlying9) rfl (aT ?_)
 refine Ql (show _=Value.int .i64 ((8192-(XF nx l).length:Nat):Int)from congrArg (Value.int .i64) om) (oCq rfl (λw1 h1=>c78 w1 (8192-(XF nx l).length) om) (o_p (Qao rfl rfl rfl (by(try simp only[List.length_append,List.length_cons,List.length_nil,List.length_replicate,List.length_take,List.length_drop,List.length_append,List.length_replicate]);omega)) rfl (aU ?_)))
 refine o_p (Qao rfl rfl rfl (by(try simp only[List.length_append,List.length_cons,List.length_nil,List.length_replicate,List.length_take,List.length_drop,List.length_append,List.length_replicate]);omega)) rfl (Ql (show _=Value.string (bs (QW nx l))from by rw[QW]) (aU3 ?_))
 exact Qf (rs:=[.tmp 2,.tmp 3]) rfl (.tmp rfl (.tmp rfl (.nil))) (λw' h'=>⟨by rw[if_pos h0,h0];rfl,h'.below⟩)
instance:TFn Tryz.prog 23:=⟨by kernel_rfl⟩
instance:TFn Tryz.prog 34:=⟨by kernel_rfl⟩
theorem QdN:QE Tryz.prog 24=true:=by kernel_rfl
instance:TFn Tryz.prog 24:=⟨QdN⟩
theorem QpG:QE Tryz.prog 35=true:=by kernel_rfl
instance:TFn Tryz.prog 36:=⟨by kernel_rfl⟩
instance:TFn Tryz.prog 30:=⟨by kernel_rfl⟩
instance:TFn Tryz.prog 28:=⟨by kernel_rfl⟩
instance:TFn Tryz.prog 29:=⟨by kernel_rfl⟩
theorem Qds{α:Type}[Inhabited α]{vals:α->List Value}{sz:Nat}{w:World}:Rw vals sz w [] none ([]:List α):=⟨λh=>absurd h (Nat.lt_irrefl 0)⟩
theorem Qrp(w:World)(a:Option Addr)(cap:Nat)(a2:Option Addr)(cap2:Nat)(l:List Int)(hs:Vl w a (l.map nv))(hs2:Vl w a2 (l.map nv))(hm:l.length<=100000):CR 29 #[.slice a l.length cap,.slice a2 l.length cap2] w (.bool true):=by
  have h9:=c29 w a a2 cap cap2 l l hs.rwI hs2.rwI hm hm;rw[decide_eq_true rfl]at h9;exact h9
set_option maxHeartbeats 2000000 in
theorem c5(w:World):CR 5 #[] w (.bool true):=by
 refine eN0 Tryz.func5 Tryz.ntmps5 ?_
 refine aU6 ?_
 refine oCq rfl (λw1 h1=>c23 w1) (oCq rfl (λw1 h1=>c34 w1) (oCh rfl (λw1 h1=>by have h9:=c24 w1 256 none 0 [] dA none 0 none 0 Qds (by decide) (by intro x hx;cases hx) Qds Qds (by decide) (by decide);rw[aw_1]at h9;exact h9) (λgA _=>aU4 ?_)))
 refine oAl (λb1 _=>?_) Yd
 refine aU5 ?_
 refine Xv (α:=Nat×Option Addr×Nat) [4,5,6,22,23,24,25,26,27,28] (λx=>[(4,.pointer (some ⟨x.1,0,none⟩)),(5,.int .i64 257),(6,.int .i64 0)]) (λx=>HS w [] [.blk x.1 63 2 [.int .i64 258,.slice x.2.1 2 x.2.2],.own (.slice x.2.1 lB.length x.2.2) 72 2 lB.length (lB.flatMap SItm.vals),.blk b1 63 2 [.int .i64 257,.slice gA.1 1 gA.2],.own (.slice gA.1 lA.length gA.2) 72 2 lA.length (lA.flatMap SItm.vals)]) (λ_=>True) ?_ ?_
 ·skip
  refine Qp [8] mixed ?_
  refine dLn 0 [[]] ?_
  refine Z5 1 7 rfl rfl (QT rfl QpG rfl (λw1 h1=>c35 w1)) (Xf rfl Yd) (by kernel_rfl) (λw h=>h.ent aEt) rfl rfl (λgO _=>?_) (λb2 _=>?_)
  ·skip
   refine dBa ?_
   refine Z5 2 7 rfl rfl (QT rfl QdN rfl (λw1 h1=>by have h9:=c24 w1 257 gA.1 gA.2 lA dB gO.1 gO.2 none 0 (HS.rw_own (l:=lA) sv2 h1 aPk rfl) (by decide) (by intro x hx;simp only[lA,lB,List.mem_cons,List.mem_nil_iff,or_false]at hx;subst hx<;>decide) (HS.rw_own (l:=dB.en) av4 h1 aPk rfl) Qds (by decide) (by decide);rw[Qq8]at h9;exact h9)) (Xf rfl Yd) (by kernel_rfl) (λw h=>h.ent aEt) rfl rfl (λgB _=>?_) (λb3 _=>?_)
   ·skip
    refine dBa ?_
    refine dP 3 ?_
    refine dP 4 ?_
    refine dP 5 ?_
    refine dP 6 ?_
    refine dH 7 rfl (Xf rfl Yd) (λb4 _=>dBa ?_)
    refine dSt 8 ?_ (hl:=(by simp only[Qb,List.length_set,List.length_cons,List.length_nil,List.length_map];omega))
    refine dTu [] ?_
    refine dP 9 ?_
    refine dP 10 ?_
    refine dNi ?_
    exact Qn (b4,gB) trivial aSx (λw h=>h.ent aEt)
   skip
   refine dBa ?_
   refine dH 2 rfl (QT rfl QdN rfl (λw1 h1=>by have h9:=c24 w1 257 gA.1 gA.2 lA dB gO.1 gO.2 none 0 (HS.rw_own (l:=lA) sv2 h1 aPk rfl) (by decide) (by intro x hx;simp only[lA,lB,List.mem_cons,List.mem_nil_iff,or_false]at hx;subst hx<;>decide) (HS.rw_own (l:=dB.en) av4 h1 aPk rfl) Qds (by decide) (by decide);rw[Qq8]at h9;exact h9)) (λgB _=>dBa ?_)
   refine dP 3 ?_
   refine dP 4 ?_
   refine dP 5 ?_
   refine dP 6 ?_
   refine dSt 8 ?_ (hl:=(by simp only[Qb,List.length_set,List.length_cons,List.length_nil,List.length_map];omega))
   refine dTu [] ?_
   refine dP 9 ?_
   refine dP 10 ?_
   refine dNi ?_
   exact Qn (b3,gB) trivial aSx (λw h=>h.ent aEt)
  skip
  refine dBa ?_
  refine dH 1 rfl (QT rfl QpG rfl (λw1 h1=>c35 w1)) (λgO _=>dBa ?_)
  refine dH 2 rfl (QT rfl QdN rfl (λw1 h1=>by have h9:=c24 w1 257 gA.1 gA.2 lA dB gO.1 gO.2 none 0 (HS.rw_own (l:=lA) sv2 h1 aPk rfl) (by decide) (by intro x hx;simp only[lA,lB,List.mem_cons,List.mem_nil_iff,or_false]at hx;subst hx<;>decide) (HS.rw_own (l:=dB.en) av4 h1 aPk rfl) Qds (by decide) (by decide);rw[Qq8]at h9;exact h9)) (λgB _=>dBa ?_)
  refine dP 3 ?_
  refine dP 4 ?_
  refine dP 5 ?_
  refine dP 6 ?_
  refine dSt 8 ?_ (hl:=(by simp only[Qb,List.length_set,List.length_cons,List.length_nil,List.length_map];omega))
  refine dTu [] ?_
  refine dP 9 ?_
  refine dP 10 ?_
  refine dNi ?_
  exact Qn (b2,gB) trivial aSx (λw h=>h.ent aEt)
 intro x hx
 refine aU3 ?_
 refine oCh rfl (λw1 h1=>by have h9:=c36 w1 258 x.2.1 x.2.2 lB (HS.rw_own (l:=lB) sv2 h1 aPk rfl) (by decide) (by intro x hx;simp only[lA,lB,List.mem_cons,List.mem_nil_iff,or_false]at hx;rcases hx with rfl|rfl<;>decide);rw[if_pos aw_3,aw_3,aw_4]at h9;exact h9) (λgP _=>ZW ?_)
 refine oCq rfl (λw1 h1=>by have h9:=c30 w1 257 gA.1 gA.2 lA (HS.rw_own (l:=lA) sv2 h1 aPk rfl) (by decide) (by intro x hx;simp only[lA,lB,List.mem_cons,List.mem_nil_iff,or_false]at hx;subst hx<;>decide);rw[if_pos aw_5,aw_5]at h9;exact h9) (aU7 ?_)
 refine Qi (L':=[(0,_),(2,_),(3,_),(4,_),(5,_),(6,_),(7,_),(8,_),(9,_),(10,_),(11,_)]) aSx (λ_ h=>h) ?_
 refine aU2 ?_
 refine o_h (Qd (cs:=[_]) rfl rfl QD Ye rfl rfl rfl) rfl (λb5 _=>?_)
 refine oCh rfl (λw1 h1=>by have h9:=c28 w1 258 x.2.1 x.2.2 lB (some ⟨b5,0,none⟩) 1 [257] (HS.rw_own (l:=lB) sv2 h1 aPk rfl) (by decide) (by intro x hx;simp only[lA,lB,List.mem_cons,List.mem_nil_iff,or_false]at hx;rcases hx with rfl|rfl<;>decide) (h1.vl_blk aPk) (by decide) (by intro x hx;simp only[List.mem_cons,List.mem_nil_iff,or_false]at hx;subst hx;decide);rw[aw_6,aw_7]at h9;exact h9) (λgC _=>aU4 ?_)
 refine oAl (λb6 _=>?_) Yd
 refine aU9 ?_
 refine XH 3 49 52 rfl
  (λhg7 _=>by
   refine aU4 ?_
   exact oJt 3 52)
  (λhg9 _=>by
   refine aU2 ?_
   exact oJf 3 52) ?_
 refine aU ?_
 refine XH 3 53 56 rfl
  (λhg11 _=>by
   refine aU4 ?_
   exact oJt 3 56)
  (λhg13 _=>by
   refine aU2 ?_
   exact oJf 3 56) ?_
 refine aU ?_
 refine XH 3 57 60 rfl
  (λhg15 _=>by
   refine aU4 ?_
   exact oJt 3 60)
  (λhg17 _=>by
   refine aU2 ?_
   exact oJf 3 60) ?_
 refine aU ?_
 refine XH 3 61 64 rfl
  (λhg19 _=>by
   refine aU4 ?_
   exact oJt 3 64)
  (λhg21 _=>by
   refine aU2 ?_
   exact oJf 3 64) ?_
 refine aU ?_
 refine XH 4 65 69 rfl
  (λhg23 _=>by
   refine aU3 ?_
   refine o_h (Qd (cs:=[_,_]) rfl rfl QD Ye rfl rfl rfl) rfl (λb25 _=>aU ?_)
   refine oCq rfl (λw1 h1=>Qrp w1 gP.1 gP.2 (some ⟨b25,0,none⟩) 2 [16,48] (HS.vl_own (cs:=[.int .i64 16,.int .i64 48]) h1 aPk) (h1.vl_blk aPk) (by decide)) ?_
   exact oJt 4 69)
  (λhg26 _=>by
   refine aU3 ?_
   exact oJf 4 69) ?_
 refine aU ?_
 refine XH 3 70 73 rfl
  (λhg28 _=>by
   refine aU4 ?_
   exact oJt 3 73)
  (λhg30 _=>by
   refine aU2 ?_
   exact oJf 3 73) ?_
 refine aU ?_
 refine XH 3 74 77 rfl
  (λhg32 _=>by
   refine aU4 ?_
   exact oJt 3 77)
  (λhg34 _=>by
   refine aU2 ?_
   exact oJf 3 77) ?_
 refine aU ?_
 refine XH 4 78 82 rfl
  (λhg36 _=>by
   refine aU3 ?_
   refine o_p (QJ rfl rfl Tryz.underlying9) rfl (Ql (show _=Value.int .i64 8240 from by rw[aw_8];rfl) (aU2 ?_))
   exact oJt 4 82)
  (λhg38 _=>by
   refine aU3 ?_
   exact oJf 4 82) ?_
 refine aU ?_
 refine XH 3 83 86 rfl
  (λhg40 _=>by
   refine aU4 ?_
   exact oJt 3 86)
  (λhg42 _=>by
   refine aU2 ?_
   exact oJf 3 86) ?_
 refine aU ?_
 refine XH 4 87 91 rfl
  (λhg44 _=>by
   refine aU3 ?_
   refine o_h (Qd (cs:=[_]) rfl rfl QD Ye rfl rfl rfl) rfl (λb46 _=>aU ?_)
   refine oCq rfl (λw1 h1=>Qrp w1 gC.2.1 gC.2.2 (some ⟨b46,0,none⟩) 1 [256] (HS.vl_own (cs:=[.int .i64 256]) h1 aPk) (h1.vl_blk aPk) (by decide)) ?_
   exact oJt 4 91)
  (λhg47 _=>by
   refine aU3 ?_
   exact oJf 4 91) ?_
 refine aU ?_
 refine XH 4 92 96 rfl
  (λhg49 _=>by
   refine aU6 ?_
   exact oJt 4 96)
  (λhg51 _=>by
   refine aU3 ?_
   exact oJf 4 96) ?_
 refine aU2 ?_
 exact rV
theorem Qn3:QE Tryz.prog 142=true:=by kernel_rfl
instance:TFn Tryz.prog 90:=⟨by kernel_rfl⟩
theorem Qm4:Xs Tryz.prog 155=some [.string (bs []),.string (bs [])]:=by kernel_rfl
theorem Ql6:tar Tryz.prog 155=some (2,9,1):=by kernel_rfl
theorem QnM:tsz Tryz.prog 155=some (2,true):=by kernel_rfl
instance:TSz Tryz.prog 155 2 true:=⟨QnM⟩
theorem Qqi:QE Tryz.prog 200=true:=by kernel_rfl
theorem QpX:QE Tryz.prog 199=true:=by kernel_rfl
theorem Qgj:QE Tryz.prog 45=true:=by kernel_rfl
instance:TFn Tryz.prog 45:=⟨Qgj⟩
instance:TFn Tryz.prog 145:=⟨by kernel_rfl⟩
theorem u8z{x:UInt8}:((x.toNat:Nat):Int)=0 ↔ x=0:=⟨λh=>UInt8.toNat_inj.1 (by show x.toNat=0;omega),λh=>by rw[h];rfl⟩
theorem cutI(h:List UInt8)(i j:Nat):(h.take j).drop i=(h.drop i).take (j-i):=by rw[List.drop_take]
theorem c142(w:World)(a:Option Addr)(m cap:Nat)(x:List UInt8)(hs:Vl w a (x.map bv))(hm:x.length=m)(h2:2<=m)(hc:m<=cap)(hc9:cap<=9223372036854775807):CR 142 #[.slice a m cap] w (.int .u16 (at2 x 0)):=by
 refine eN1 Tryz.func142 Tryz.ntmps142 ?_
 refine aU5 ?_
 refine Qp [] mixed ?_
 refine dP 0 ?_
 refine dV 1 rfl (Qa rfl rfl rfl QP 0 rfl om (hs.some (by rw[List.length_map];omega))) (dQ 2 [] rfl (Qc rfl rfl QaP ((hs.rd (i:=0) (X9 (l:=x) (k:=0) om)))) (dV 3 rfl (Qk rfl rfl Zl XX) (dP 4 ?_)))
 refine dV 5 rfl (Qa rfl rfl rfl QP 1 rfl om (hs.some (by rw[List.length_map];omega))) (dQ 6 [] rfl (Qc rfl rfl QaP ((hs.rd (i:=1) (X9 (l:=x) (k:=1) om)))) (dV 7 rfl (Qk rfl rfl Zl XX) (dV 8 rfl (Qfj rfl rfl rfl (by decide) 8 rfl) (dP 9 ?_))))
 refine dP 10 ?_
 refine dNi ?_
 exact rV (h:=by rw[<-Qep];rfl)
theorem c90(w:World)(a:Option Addr)(m cap:Nat)(x:List UInt8)(hs:Vl w a (x.map bv))(hm:x.length=m)(h2:4<=m)(hc:m<=cap)(hc9:cap<=9223372036854775807):CR 90 #[.slice a m cap] w (.int .u32 (at4 x 0)):=by
 have hx2:=YC x 0
 have hx3:=YC x 2
 refine eN1 Tryz.func90 Tryz.ntmps90 ?_
 refine aU5 ?_
 refine Qp [] mixed ?_
 refine dP 0 ?_
 refine dQ 1 [] rfl (Qh rfl Qn3 rfl (λw1 h1=>c142 w1 a m cap x (hs.later h1) hm om hc hc9)) (dV 2 rfl (Qk rfl rfl XX XP) (dP 3 ?_))
 refine dV 4 rfl (QM _ _ 2 m rfl rfl QP ⟨_,_,rfl,rfl⟩ rfl om om) (dQ 5 [] rfl (Qh rfl Qn3 rfl (λw1 h1=>c142 w1 (X1 a cap 2 1) (m-2) (cap-2) (x.drop 2) (by rw[List.map_drop];exact(hs.later h1).drop (by rw[List.length_map];omega) om) (by rw[List.length_drop];omega) om om om)) (dV 6 rfl (Qk rfl rfl XX XP) (dV 7 rfl (Qfj rfl rfl rfl (by decide) 16 rfl) (dP 8 ?_))))
 refine dP 9 ?_
 refine dNi ?_
 exact rV (h:=by have h9:=Qfy (at2 x 0) (at2 (x.drop 2) 0) (YC _ _) (YC _ _);rw[ZS]at h9 ⊢;exact(congrArg Ending.returned h9))
theorem c45(w:World)(s:List UInt8)(p:Nat)(hm:s.length<=1000000)(hp:p+4<=s.length):CR 45 #[.string (bs s),.int .i64 (p:Int)] w (.int .i64 (at4 s p)):=by
 have h4:=Qaj s p
 have hdl:(s.drop p).length=s.length-p:=List.length_drop
 refine eN2 Tryz.func45 Tryz.ntmps45 ?_
 refine aU8 ?_
 refine o_p (Yo p rfl rfl rfl Tryz.underlying9 rfl om) rfl (o_h (Qc9 rfl rfl Tryz.underlying9 Tryz.underlying124 Tryz.underlying5 rfl (by simp only[maxLen];omega)) rfl (λ⟨b1,c2⟩⟨h3,k4⟩=>oCq rfl (λw1 h1=>by have h9:=c90 w1 (some ⟨b1,0,none⟩) (s.drop p).length c2 (s.drop p) (h1.vl_blk aPk) rfl om (by assumption) (by have hq9:c2<=maxLen:=(by assumption);simp only[maxLen]at hq9;omega);rw[Zh,Nat.add_zero]at h9;exact h9) (o_p (Qk rfl rfl XP Yx) rfl ?_)))
 try refine oWr ?_
 refine aU2 ?_
 exact rV
theorem c39(w:World)(s:List UInt8)(hm:s.length<=1000000):CR 39 #[.string (bs s)] w (.int .i64 (XD s)):=by
 refine eN1 Tryz.func39 Tryz.ntmps39 ?_
 refine aU7 ?_
 refine o_p (QJ rfl rfl Tryz.underlying9) rfl (aT ?_)
 refine aU5 ?_
 refine oCq rfl (λw1 h1=>c52 w1 _ _ _) (aU ?_)
 refine XH 4 9 13 rfl
  (λhg1 _=>by
   refine aU3 ?_
   refine o_p (Qc3 rfl rfl rfl om om) rfl (aU2 ?_)
   exact oJt 4 13)
  (λhg3 _=>by
   refine aU3 ?_
   exact oJf 4 13) ?_
 refine oCq rfl (λw1 h1=>c42 w1 _ _) (aU2 ?_)
 exact rV (h:=by simp only[QR,XD,cond_eq_ite,Bool.and_eq_true,decide_eq_true_eq])
theorem c93(w:World)(s:List UInt8)(hm:s.length<=1000000)(h8:8192<=s.length):CR 93 #[.string (bs s)] w (.agg #[.string (bs (h1S s)),.string (bs (h2S s))]):=by
 refine eN1 Tryz.func93 Tryz.ntmps93 ?_
 refine aU2 ?_
 refine oAl (λb1 _=>?_) Qm4
 refine aU2 ?_
 refine Qp [8] mixed ?_
 refine dP 0 ?_
 refine dP 1 ?_
 refine dV 2 rfl (QJ rfl rfl Tryz.underlying9) (dP 3 ?_)
 try refine dWr ?_
 refine dV 4 rfl (Qbg (s.length-8192) rfl rfl rfl Tryz.underlying9 om om) (dP 5 ?_)
 refine dV 6 rfl (Yo 8192 rfl rfl rfl Tryz.underlying9 rfl om) (dV 7 rfl (QdK (cs:=[_,_]) rfl rfl Ql6 Qm4 rfl) (dSt 8 ?_ (hl:=(by simp only[Qb,List.length_set,List.length_cons,List.length_nil,List.length_map];omega))))
 refine dTu [] ?_
 refine dNi ?_
 exact Qf (rs:=[.cell 2 155]) rfl (.cell rfl QnM aPk rfl (.nil)) (λw' h'=>⟨by rfl,h'.below⟩)
theorem c200(w:World)(s:List UInt8)(hm:s.length<=1000000):CR 200 #[.string (bs s),.int .u8 0] w (.string (bs (YM s))):=by
 refine eN2 Tryz.func200 Tryz.ntmps200 ?_
 refine aU6 ?_
 refine Qt (α:=List UInt8) [0,5,6,7,8,9,10,11,12,13,14,15,16,17,18,19,20,21] (λt=>[(0,.string (bs t))]) (λ_=>_) (λt=>t.length<=1000000/\YM s=YM t) (λt=>t.length) s ⟨hm,rfl⟩ aSx (λw h=>h) (λt htt=>?_)
 obtain⟨ht1,ht2⟩:=htt
 refine aU4 ?_
 refine o_p (QJ rfl rfl Tryz.underlying9) rfl (aU2 ?_)
 refine XH 8 8 16 rfl
  (λhg1 _=>by
   refine aU5 ?_
   refine o_p (QJ rfl rfl Tryz.underlying9) rfl (aT2 ?_)
   refine aU ?_
   refine o_p (YF rfl rfl rfl Tryz.underlying9 (t.length-1) om om) rfl ?_
   refine aU4 ?_
   exact oJt 8 16)
  (λhg3 _=>by
   refine aU7 ?_
   exact oJf 8 16) ?_
 refine aU ?_
 refine sCd rfl (λh5=>?_) λh5=>?_
 ·have hq9:=h5
  have hz9:t.getD (t.length-1) 0=0:=u8z.1 hq9.2
  have hst:=Qiw (s:=t) om hz9
  refine aU5 ?_
  refine o_p (QJ rfl rfl Tryz.underlying9) rfl (aT ?_)
  refine o_p (Qbg (t.length-1) rfl rfl rfl Tryz.underlying9 om om) rfl (aU3 ?_)
  exact QQ (t.take (t.length-1)) (by simp only[List.length_take,List.length_drop];omega) ⟨by simp only[List.length_take,List.length_drop];omega,by rw[ht2,hst]⟩ aSx (λw h=>h)
 have hst:YM t=t:=by rcases Nat.eq_zero_or_pos t.length with h9|h9;(rw[List.eq_nil_of_length_eq_zero h9];rfl);exact QiK h9 (λh8=>by have hq:=h5;rcases hq with hq|hq;omega;exact hq (u8z.2 h8))
 refine Qj rfl ?_
 refine aU5 ?_
 exact rV (h:=by rw[ht2,hst];rfl)
theorem c199(w:World)(s:List UInt8)(hm:s.length<=1000000):CR 199 #[.string (bs s),.int .u8 0] w (.string (bs (ZV s))):=by
 refine eN2 Tryz.func199 Tryz.ntmps199 ?_
 refine aU6 ?_
 refine Qt (α:=List UInt8) [0,5,6,7,8,9,10,11,12,13,14,15] (λt=>[(0,.string (bs t))]) (λ_=>_) (λt=>t.length<=1000000/\ZV s=ZV t) (λt=>t.length) s ⟨hm,rfl⟩ aSx (λw h=>h) (λt htt=>?_)
 obtain⟨ht1,ht2⟩:=htt
 refine aU4 ?_
 refine o_p (QJ rfl rfl Tryz.underlying9) rfl (aU2 ?_)
 refine XH 5 8 13 rfl
  (λhg1 _=>by
   refine aU3 ?_
   refine o_p (YF rfl rfl rfl Tryz.underlying9 (0) om om) rfl ?_
   refine aU4 ?_
   exact oJt 5 13)
  (λhg3 _=>by
   refine aU4 ?_
   exact oJf 5 13) ?_
 refine aU ?_
 refine sCd rfl (λh5=>?_) λh5=>?_
 ·have hq9:=h5
  have hz9:t.getD (0) 0=0:=u8z.1 hq9.2
  have hst:=Qi1 (s:=t) om hz9
  refine aU4 ?_
  refine o_p (Yo 1 rfl rfl rfl Tryz.underlying9 rfl om) rfl (aU3 ?_)
  exact QQ (t.drop 1) (by simp only[List.length_take,List.length_drop];omega) ⟨by simp only[List.length_take,List.length_drop];omega,by rw[ht2,hst]⟩ aSx (λw h=>h)
 have hst:ZV t=t:=by rcases Nat.eq_zero_or_pos t.length with h9|h9;(rw[List.eq_nil_of_length_eq_zero h9];rfl);exact QiV h9 (λh8=>by have hq:=h5;rcases hq with hq|hq;omega;exact hq (u8z.2 h8))
 refine Qj rfl ?_
 refine aU5 ?_
 exact rV (h:=by rw[ht2,hst];rfl)
theorem Qk0(s:List UInt8):(YM s).length<=s.length:=by
  unfold YM;rw[List.length_reverse];refine Nat.le_trans ?_ (Nat.le_of_eq List.length_reverse);exact(List.dropWhile_sublist _).length_le
theorem c145(w:World)(s:List UInt8)(hm:s.length<=1000000):CR 145 #[.string (bs s),.string (bs [0])] w (.string (bs (ZV (YM s)))):=by
 refine eN2 Tryz.func145 Tryz.ntmps145 ?_
 refine Zn ?_
 refine oOr 3 9 12 rfl
  (λhg1 _=>by
   refine aU4 ?_
   exact oJf 3 12)
  (λhg3 _=>by
   refine aU2 ?_
   exact oJt 3 12) ?_
 refine aU ?_
 refine sCd rfl (λh5=>?_) λh5=>?_
 ·have hs9:s=[]:=by have hq:=h5;simpa using hq
  subst hs9
  refine aU5 ?_
  exact rV
 refine aU5 ?_
 refine o_p (QJ rfl rfl Tryz.underlying9) rfl (aU2 ?_)
 refine XH 4 17 21 rfl
  (λhg6 _=>by
   refine aU3 ?_
   refine o_p (YF rfl rfl rfl Tryz.underlying9 (0) om om) rfl ?_
   refine aU2 ?_
   exact oJt 4 21)
  (λhg8 _=>by
   refine aU3 ?_
   exact oJf 4 21) ?_
 refine aU ?_
 refine sCd rfl (λh10=>?_) λh10=>?_
 ·refine aU ?_
  refine Qp [] mixed ?_
  refine dP 0 ?_
  refine dP 1 ?_
  refine dV 2 rfl (YF rfl rfl rfl Tryz.underlying9 (0) om om) ?_
  refine dQ 3 [] rfl (Qh rfl Qqi rfl (λw1 h1=>c200 w1 s hm)) (dP 4 ?_)
  refine dV 5 rfl (YF rfl rfl rfl Tryz.underlying9 (0) om om) ?_
  refine dQ 6 [] rfl (Qh rfl QpX rfl (λw1 h1=>c199 w1 (YM s) (by have:=Qk0 s;omega))) (dP 7 ?_)
  refine dNi ?_
  exact rV
 exfalso;have hq:=h10;simp at hq
theorem c94(w:World)(h:List UInt8)(p:Nat)(hm:h.length<=100000)(hp:p<=1000000000000):CR 94 #[.string (bs h),.int .i64 (p:Int)] w (.tuple #[.agg #[.int .i64 (itA h p).x.id,.string (bs (itA h p).x.by_)],.int .i64 (itA h p).n,.bool (itA h p).ok]):=by
 have hz:=Qaj h (p+12)
 have hu9:=Qfg (at4 h (p+12))
 have hbl:(Qan h p).length<=200000:=by unfold Qan;rw[List.length_take,List.length_drop];omega
 have hpl:(Qcg h p).length<=1000000:=by unfold Qcg;rw[List.length_take,List.length_drop];omega
 refine eN2 Tryz.func94 Tryz.ntmps94 ?_
 refine aU2 ?_
 refine oAl (λb1 _=>?_) Yq
 refine aU8 ?_
 refine o_p (QJ rfl rfl Tryz.underlying9) rfl (aT ?_)
 refine oCq rfl (λw1 h1=>c52 w1 _ _ _) (aU2 ?_)
 refine sCd rfl (λh2=>?_) λh2=>?_
 ·have hno:QfD h p=false:=by unfold QfD;rw[decide_eq_false (by have hq:=h2;omega)];rfl
  have hT:itA h p=⟨⟨0,[]⟩,0,false⟩:=by unfold itA;rw[hno];rfl
  refine aU2 ?_
  refine o_p (Qw (cs:=[_,_]) rfl rfl QjC Yq rfl) rfl (aU4 ?_)
  exact Qf (rs:=[.cell 4 72,.tmp 5,.tmp 6]) rfl (.cell rfl Qaa aPk rfl (.tmp rfl (.tmp rfl (.nil)))) (λw' h'=>⟨by rw[hT];rfl,h'.below⟩)
 have hl16:p+16<=h.length:=by have hq:=h2;omega
 refine aT6 ?_
 refine Ql (show _=Value.int .i64 ((p+12:Nat):Int)from by first|rfl|(congr 1;omega)) (oCq rfl (λw1 h1=>c45 w1 h (p+12) om om) (aT8 ?_))
 refine Ql (show _=Value.int .i64 ((p+8:Nat):Int)from by first|rfl|(congr 1;omega)) (oCq rfl (λw1 h1=>c45 w1 h (p+8) om om) (aU3 ?_))
 refine oOr 8 27 35 rfl
  (λhg3 _=>by
   refine aU5 ?_
   refine o_p (QJ rfl rfl Tryz.underlying9) rfl (aT4 ?_)
   refine aU ?_
   refine oCq rfl (λw1 h1=>c52 w1 _ _ _) (aU2 ?_)
   exact oJf 8 35)
  (λhg5 _=>by
   refine aU7 ?_
   exact oJt 8 35) ?_
 refine aU ?_
 refine oOr 8 36 44 rfl
  (λhg7 _=>by
   refine aU5 ?_
   refine oCq rfl (λw1 h1=>Qo7 w1 (at4 h (p+12)) om) (aT2 ?_)
   refine aU3 ?_
   refine o_p (QJ rfl rfl Tryz.underlying9) rfl (aU2 ?_)
   exact oJf 8 44)
  (λhg9 _=>by
   refine aU7 ?_
   exact oJt 8 44) ?_
 refine aU ?_
 refine sCd rfl (λh11=>?_) λh11=>?_
 ·have hno:¬QfD h p=true:=by intro h9;obtain⟨_,k1,k2,k3⟩:=Qg6 h9;have hu:=Qfg (at4 h (p+12));have hq:=h11;first|omega|(simp at hq;omega)|(rcases hq with(hq|hq)|hq<;>first|omega|exact hq k1)
  have hT:itA h p=⟨⟨0,[]⟩,0,false⟩:=by unfold itA;rw[if_neg hno]
  refine aU2 ?_
  refine o_p (Qw (cs:=[_,_]) rfl rfl QjC Yq rfl) rfl (aU4 ?_)
  exact Qf (rs:=[.cell 4 72,.tmp 5,.tmp 6]) rfl (.cell rfl Qaa aPk rfl (.tmp rfl (.tmp rfl (.nil)))) (λw' h'=>⟨by rw[hT];rfl,h'.below⟩)
 have hyes:QfD h p=true:=by have hq:=h11;unfold QfD;simp only[Bool.and_eq_true,decide_eq_true_eq];first|omega|(simp at hq;omega)|(refine⟨om,?_,?_,?_⟩<;>first|omega|exact hq.1.1)
 obtain⟨_,k1,k2,k3⟩:=Qg6 hyes
 have hu:=Qfg (at4 h (p+12))
 have hzn:(at4 h (p+12))=(((at4 h (p+12)).toNat:Nat):Int):=om
 have hT:itA h p=⟨⟨at4 h (p+4),Qan h p⟩,at4 h (p+12),QhW (Qcg h p)&&decide (at4 h p=Xk (Qan h p))⟩:=by unfold itA;rw[if_pos hyes]
 have hpn:upT (at4 h (p+12))=(((at4 h (p+12)).toNat+ZU (at4 h (p+12)):Nat):Int):=by unfold ZU;omega
 refine aU2 ?_
 refine Qp [13] mixed ?_
 refine dP 0 ?_
 refine dP 1 ?_
 refine dP 2 ?_
 try refine dWr ?_
 refine Qs (show _=Value.int .i64 ((p+4:Nat):Int)from by first|rfl|(congr 1;omega)) (dQ 3 [[]] rfl (Qh rfl Qgj rfl (λw1 h1=>c45 w1 h (p+4) om om)) (dP 4 ?_))
 refine dP 5 ?_
 refine dP 6 ?_
 try refine dWr ?_
 refine Qs (show _=Value.int .i64 ((p+16:Nat):Int)from by first|rfl|(congr 1;omega)) (dP 7 ?_)
 refine dP 8 ?_
 refine dP 9 ?_
 try refine dWr ?_
 refine dV 10 rfl (Z6 _ _ (p+16) (p+(at4 h (p+12)).toNat) rfl rfl Tryz.underlying9 ⟨_,_,rfl,rfl⟩ ⟨_,_,rfl,om⟩ om om) (Qs (show _=Value.string (bs (Qan h p))from by rw[cutI];unfold Qan;congr 3;omega) (dV 11 rfl (Qw (cs:=[_,_]) rfl rfl QjC Yq rfl) (dH 12 rfl (Xf rfl Yq) (λb12 _=>dBa ?_))))
 refine dSt 13 ?_ (hl:=(by simp only[Qb,List.length_set,List.length_cons,List.length_nil,List.length_map];omega))
 refine dTu [] ?_
 refine dNi ?_
 refine aU ?_
 refine Qi (L':=[(0,_),(1,_),(4,_),(5,_),(6,_),(7,_),(8,_)]) aSx (λ_ h=>h) ?_
 refine aT5 ?_
 refine aU2 ?_
 refine oCq rfl (λw1 h1=>Qo7 w1 (at4 h (p+12)) om) (aT ?_)
 refine o_p (Z6 _ _ (p+(at4 h (p+12)).toNat) (p+((at4 h (p+12)).toNat+ZU (at4 h (p+12)))) rfl rfl Tryz.underlying9 ⟨_,_,rfl,om⟩ ⟨_,_,rfl,om⟩ om om) rfl (Ql (show _=Value.string (bs (Qcg h p))from by rw[cutI];unfold Qcg;congr 3;omega) (oCq rfl (λw1 h1=>c145 w1 (Qcg h p) hpl) (aU3 ?_)))
 refine Qp [13] mixed ?_
 refine dLn 0 [[]] ?_
 refine dP 1 ?_
 refine dP 2 ?_
 refine dP 3 ?_
 refine dP 4 ?_
 apply XC 72
 ·exact rfl
 ·intro hg13
  have hs14:=hg13;try simp only[dT]at hs14
  refine dPo 5 72 hg13 ?_
  refine dPo 6 72 hg13 ?_
  refine dQo 7 72 [[10]] hg13 rfl rfl rfl (Qh rfl Qgj rfl (λw1 h1=>c45 w1 h p om om)) ?_
  refine dFo 8 72 hg13 ?_
  refine dQo 9 72 [[10]] hg13 rfl rfl rfl (X8 rfl rfl ZR aPk rfl) ?_
  refine dQo 10 72 [[]] hg13 rfl rfl rfl (Qh rfl QjF rfl (λw1 h1=>c46 w1 (Qan h p) hbl)) ?_
  refine dPo 11 72 hg13 ?_
  refine dV 12 rfl (XI rfl rfl hg13 rfl) (dSt 13 ?_ (hl:=(by simp only[Qb,List.length_set,List.length_cons,List.length_nil,List.length_map];omega)))
  refine dTu [] ?_
  refine dP 14 ?_
  refine dP 15 ?_
  refine dNi ?_
  exact Qf (rs:=[.cell 4 72,.tmp 5,.tmp 6]) rfl (.cell rfl Qaa aPk rfl (.tmp rfl (.tmp rfl (.nil)))) (λw' h'=>⟨by rw[hT,<-show decide (ZV (YM (Qcg h p))=[])=QhW (Qcg h p)from by rw[Bool.eq_iff_iff,decide_eq_true_eq];exact Qij _,show decide (ZV (YM (Qcg h p))=[])=_ from hg13];rfl,h'.below⟩)
 intro hg15
 have hs16:=hg15;try simp only[dN]at hs16
 refine dOf 5 72 hg15 ?_
 refine dOf 6 72 hg15 ?_
 refine dOf 7 72 hg15 ?_
 refine dOf 8 72 hg15 ?_
 refine dOf 9 72 hg15 ?_
 refine dOf 10 72 hg15 ?_
 refine dOf 11 72 hg15 ?_
 refine dV 12 rfl (Q8 rfl rfl hg15 rfl) (dSt 13 ?_ (hl:=(by simp only[Qb,List.length_set,List.length_cons,List.length_nil,List.length_map];omega)))
 refine dTu [] ?_
 refine dP 14 ?_
 refine dP 15 ?_
 refine dNi ?_
 exact Qf (rs:=[.cell 4 72,.tmp 5,.tmp 6]) rfl (.cell rfl Qaa aPk rfl (.tmp rfl (.tmp rfl (.nil)))) (λw' h'=>⟨by rw[hT,<-show decide (ZV (YM (Qcg h p))=[])=QhW (Qcg h p)from by rw[Bool.eq_iff_iff,decide_eq_true_eq];exact Qij _,show decide (ZV (YM (Qcg h p))=[])=_ from hg15];rfl,h'.below⟩)
instance:TFn Tryz.prog 93:=⟨by kernel_rfl⟩
instance:TFn Tryz.prog 94:=⟨by kernel_rfl⟩
theorem c47(w:World)(q v:List UInt8):CE 47 #[.string (bs q),.string (bs v)] w [] (λg:Nat×Nat=>.func (.func 92) #[] #[.pointer (some ⟨g.1,0,none⟩),.pointer (some ⟨g.2,0,none⟩)]) (λg=>True) λg=>[.blk g.1 9 1 [.string (bs v)],.blk g.2 9 1 [.string (bs q)]]:=by
 refine eN2 Tryz.func47 Tryz.ntmps47 ?_
 refine aU2 ?_
 refine oBx λb1 _=>?_
 refine oBx λb2 _=>?_
 refine aU7 ?_
 exact rT rfl rfl (λw' h'=>⟨(b2,b1),rfl,trivial,h'.ent aEt⟩)
theorem Qo1{q v:List UInt8}(h:v.length=8){m:Nat}(hm:m<=2):∃B,Yp q v=Qc5 q v m++B:=by
  rw[<-QnO h];rcases(show m=0\/m=1\/m=2 by omega)with rfl|rfl|rfl
  · exact⟨Qc5 q v 2,by rw[Qc5,List.nil_append]⟩
  · exact⟨QdY (Qal q 1) v,by rw[Qc5]⟩
  · exact⟨[],by rw[List.append_nil]⟩
theorem Qok{q:List UInt8}{k:Nat}(hk:k<2):[Value.string (bs (h1S q)),Value.string (bs (h2S q))][k*1]?=some (.string (bs (Qal q k))):=by
  unfold Qal;rcases(show k=0\/k=1 by omega)with rfl|rfl
  · rw[if_pos rfl];rfl
  · rw[if_neg (by decide)];rfl
theorem QoP{q v:List UInt8}{k:Nat}{x:SItm}(h:v.length=8)(hk:k<2)(hx:QdY (Qal q k) v=[x]):x∈Yp q v:=by
  unfold Yp;rw[if_pos h];rcases(show k=0\/k=1 by omega)with rfl|rfl
  · exact List.mem_append_left _ (by rw[show h1S q=Qal q 0 from by simp[Qal],hx];exact List.mem_singleton.2 rfl)
  · exact List.mem_append_right _ (by rw[show h2S q=Qal q 1 from by simp[Qal],hx];exact List.mem_singleton.2 rfl)
theorem c92(w:World)(S:Type)(J:S->Prop)(C:S->HA)(st:S->SItm->S->Prop)(co:S->Bool)(Q:SItm->Prop)(lr:Nat)(q v:List UInt8)(gv gs:Nat)(s:S)(hw:HS w (fps [C s]) [C s] w)(hv:(∀(s2:S)(x:SItm)(w1:World),HS w (fps [C s]) [C s2] w1->J s2->Q x->YO Tryz.prog lr [Value.agg (SItm.vals x).toArray].toArray w1 λe w2=>∃s3:S,e=.returned (.bool (co s3))/\(st s2 x s3/\(co s3=true->J s3))/\HS w1 (fps [C s2]) [C s3] w2))(hrv:Rd w (fps [C s]) gv 0 (.string (bs v)))(hrs:Rd w (fps [C s]) gs 0 (.string (bs q)))(hm:q.length<=16384)(h8:8192<=q.length)(hvl:v.length<=100000)(hQ:∀x∈Yp q v,Q x)(hJ:J s):CE 92 #[.func (.yield lr) #[] #[],.pointer (some ⟨gv,0,none⟩),.pointer (some ⟨gs,0,none⟩)] w (fps [C s]) (λg:S×Bool=>.tuple #[]) (λg=>RunY st co s (Yp q v) g.1 g.2) λg=>[C g.1]:=by
 have h4a:=Qaj v 0
 have h4b:=Qaj v 4
 refine eW3 Tryz.func92 Tryz.ntmps92 hw ?_
 refine aU3 ?_
 refine o_q (Qc rfl rfl ZR (hrv)) rfl (o_p (QJ rfl rfl Tryz.underlying9) rfl (aU2 ?_))
 refine sCd rfl (λh1=>?_) λh1=>?_
 ·have hT:Yp q v=[]:=by unfold Yp;rw[if_neg (by have hq:=h1;omega)]
  exact Qnm rfl (λw' h'=>⟨(s,true),rfl,by rw[hT];exact .nil s,h'.ent aEt⟩)
 have hv8:v.length=8:=by have hq:=h1;omega
 refine aU2 ?_
 refine Qp [] mixed ?_
 refine dQ 0 [] rfl (Qc rfl rfl ZR (hrv)) (dQ 1 [] rfl (Qh rfl Qgj rfl (λw1 h1=>c45 w1 v 0 om om)) (dQ 2 [] rfl (Qc rfl rfl ZR (hrv)) (dQ 3 [] rfl (Qh rfl Qgj rfl (λw1 h1=>c45 w1 v 4 om om)) (dP 4 ?_))))
 refine dP 5 ?_
 refine dNi ?_
 refine aU2 ?_
 refine o_q (Qc rfl rfl ZR (hrs)) rfl (oCq rfl (λw1 h1=>c93 w1 q om h8) (aU3 ?_))
 refine Qi (L':=[(0,_),(4,_),(5,_),(19,_),(20,_)]) aSx (λ_ h=>h) ?_
 refine Qt (α:=Nat×S) [7,8,9,10,20,21,22,23,24,25,26,27,28,29,30,31,32,33,34,35,36,37,38,39,40,41,42] (λx=>[(20,.int .i64 (x.1:Int))]) (λx=>HS w (fps [C s]) [C x.2]) (λx=>x.1<=2/\RunY st co s (Qc5 q v x.1) x.2 true/\J x.2) (λx=>2-x.1) (0,s) ⟨Nat.zero_le _,.nil s,hJ⟩ aSx (λw h=>h.ent aEt) (λ⟨k,sk⟩hx=>?_)
 dsimp only
 obtain⟨hk1,hk2,hk3⟩:=hx
 simp only[]at hk1 hk2 hk3
 refine aU5 ?_
 refine sCd rfl (λh2=>?_) λh2=>?_
 ·have hk0:k<2:=by have hq:=h2;omega
  have hfl:=QlU h8 k
  have hst:Qc5 q v (k+1)=Qc5 q v k++QdY (Qal q k) v:=rfl
  refine aU5 ?_
  refine o_p (Qmg rfl rfl rfl Ql6 ZR _ rfl om (Qok hk0)) rfl (aU6 ?_)
  refine Ql (show _=Value.int .i64 (((at4 v 0).toNat:Nat):Int)from congrArg (Value.int .i64) om) (oCq rfl (λw1 h1=>c94 w1 (Qal q k) (at4 v 0).toNat om om) (aU4 ?_))
  refine oAl (λb3 _=>?_) Yq
  refine aU8 ?_
  refine XH 4 31 35 rfl
   (λhg4 _=>by
    refine aU6 ?_
    exact oJt 4 35)
   (λhg6 _=>by
    refine aU3 ?_
    exact oJf 4 35) ?_
  refine aU ?_
  refine Qjb (α:=S×Bool) 5 36 41 _ (λx=>!x.2) (λx=>HS w (fps [C s]) [.blk b3 72 2 [.int .i64 (itA (Qal q k) (at4 v 0).toNat).x.id,.string (bs (itA (Qal q k) (at4 v 0).toNat).x.by_)],C x.1]) (λx=>RunY st co s (Qc5 q v (k+1)) x.1 x.2/\(x.2=true->J x.1)) rfl
   (by
    intro hg8
    have hs9:=hg8;try simp only[Bool.and_eq_true,decide_eq_true_eq]at hs9
    have hkk:QdY (Qal q k) v=[(itA (Qal q k) (at4 v 0).toNat).x]:=if_pos (by have hq:=hg8;simpa using hq)
    refine aU5 ?_
    refine o_h (Qhn (Cs:=[C sk]) rfl rfl rfl aPs (λw1 h1 hf9=>hv sk (itA (Qal q k) (at4 v 0).toNat).x w1 (h1.ent aEt) hk3 (hQ _ (QoP hv8 hk0 hkk)))) rfl (λsy hRy=>aU2 ?_)
    refine o_p (XI rfl rfl hg8 rfl) rfl (aU ?_)
    exact Qn (sy,co sy) ⟨by rw[hst,hkk];exact hk2.app (RunY.one hRy.1),hRy.2⟩ aSx (λw h=>h.ent aEt))
   (by
    intro hg10
    have hs11:=hg10;try simp only[Bool.and_eq_false_iff,decide_eq_false_iff_not]at hs11
    have hkk:QdY (Qal q k) v=[]:=if_neg (λh9=>by have hq:=hg10;simp[h9.1,h9.2]at hq)
    refine aU4 ?_
    refine o_p (Q8 rfl rfl hg10 rfl) rfl (aU ?_)
    exact Qn (sk,true) ⟨by rw[hst,hkk,List.append_nil];exact hk2,λ_=>hk3⟩ aSx (λw h=>h.ent aEt)) ?_
  intro⟨sy,by9⟩ hx
  dsimp only
  obtain⟨hR2,hI2⟩:=hx
  simp only[]at hR2 hI2
  refine aU ?_
  refine sCd rfl (λh12=>?_) λh12=>?_
  ·obtain rfl:by9=false:=by have hq:=h12;simpa using hq
   have hE9:∃B,Yp q v=Qc5 q v (k+1)++B:=Qo1 hv8 om
   obtain⟨B9,hB9⟩:=hE9
   exact Qnm rfl (λw' h'=>⟨(sy,false),rfl,by rw[hB9];exact hR2.off B9,h'.ent aEt⟩)
  obtain rfl:by9=true:=by have hq:=h12;simpa using hq
  refine aT4 ?_
  refine aU2 ?_
  exact sBk (k+1,sy) (by(try simp only[]);omega) ⟨by(try simp only[]);omega,hR2,hI2 rfl⟩
 obtain rfl:k=2:=by have hq:=h2;omega
 rw[QnO hv8]at hk2
 refine Qj rfl ?_
 exact Qcr rfl (λw' h'=>⟨(sk,true),rfl,hk2,h'.ent aEt⟩)
theorem Qjy:Xs Tryz.prog 96=some [.int .i64 0,.nilFunc]:=by kernel_rfl
theorem Qpw:YA Tryz.prog 96=some [(0,1),(1,1)]:=by kernel_rfl
theorem Qnv:tsz Tryz.prog 96=some (2,true):=by kernel_rfl
instance:TSz Tryz.prog 96 2 true:=⟨Qnv⟩
theorem c43(w:World):CR 43 #[] w (.agg #[.int .i64 3,.func (.func 86) #[] #[]]):=by
 refine eN0 Tryz.func43 Tryz.ntmps43 ?_
 refine aU2 ?_
 refine oAl (λb1 _=>?_) Qjy
 refine aU3 ?_
 refine o_p (Qw (cs:=[_,_]) rfl rfl Qpw Qjy rfl) rfl (aU2 ?_)
 exact Qf (rs:=[.cell 0 96]) rfl (.cell rfl Qnv aPk rfl (.nil)) (λw' h'=>⟨rfl,h'.below⟩)
theorem c51(w:World):CR 51 #[] w (.agg #[.int .i64 2,.func (.func 95) #[] #[]]):=by
 refine eN0 Tryz.func51 Tryz.ntmps51 ?_
 refine aU2 ?_
 refine oAl (λb1 _=>?_) Qjy
 refine aU3 ?_
 refine o_p (Qw (cs:=[_,_]) rfl rfl Qpw Qjy rfl) rfl (aU2 ?_)
 exact Qf (rs:=[.cell 0 96]) rfl (.cell rfl Qnv aPk rfl (.nil)) (λw' h'=>⟨rfl,h'.below⟩)
theorem c40(w:World)(co mo rm:Int)(a:Option Addr)(cap:Nat)(L:List LNd)(hs:Nt w [] a L)(hB:Bd (pln L))(hkl:∀i,i<L.length->∀x∈(nth L i).es,x.key.length<=1000000):CR 40 #[.agg #[.int .i64 co,.int .i64 mo,.int .i64 rm,.slice a L.length cap]] w (.int .i64 (Q0 (⟨co,mo,rm,pln L⟩:Tre)).2):=by
 refine eN1 Tryz.func40 Tryz.ntmps40 ?_
 refine aU2 ?_
 refine oBx λb1 _=>?_
 refine aU5 ?_
 refine oCq rfl (λw1 h1=>c81 w1 co mo rm a cap L (hs.later h1.nil) hB hkl) (ZW ?_)
 exact rV
end Go.Proofs
namespace Gx
open Go Go.RowKit
def Qnl(fid:FuncId)(tmps:Array Value)(ps:Array Tmp)(assign body:Code)(D:Nat):Option Code->Obj
 | none=>.loop (rdy fid tmps ps assign body D)
 | some e=>.loop {rdy fid tmps ps assign body D with state:=.done,pending:=some e}
def Qq4(b:Bool):Option Code:=bif b then none else some .ret
def dfO(D:Nat):HA:=.obj D (.deferred (some []))
section
variable{X:Ctx}{k:List KI}{L:Qe}{w0:World}{M:List Nat}{As As':List HA}
theorem Qfi{l D:Nat}{fid:FuncId}{tmps:Array Value}{ps:Array Tmp}{assign body:Code}(hrd:X.rd=some l)(hp:Qv As (.obj l (.loop {rdy fid tmps ps assign body D with state:=.busy})) As')(h:∀w,HS w0 M (.obj l (Qnl fid tmps ps assign body D (Qq4 false))::As') w->X.R (.returned (.bool false)) w):S X (.c .ret::k) L (HS w0 M As):=by
 refine Qin (Yg λa w ha hw=>?_);show(match X.rd with|none=>bodyPostM X.F 0 X.P X.fn X.R .ret a w|some l=>roundPost X.P l X.R .ret a w);rw[hrd];exact⟨_,_,run_endRound (some .ret) (hw.obj_get hp),h _ (hw.putObj hp _)⟩
theorem QdC{l D:Nat}{fid:FuncId}{tmps:Array Value}{ps:Array Tmp}{assign body:Code}(hrd:X.rd=some l)(hp:Qv As (.obj l (.loop {rdy fid tmps ps assign body D with state:=.busy})) As')(h:∀w,HS w0 M (.obj l (Qnl fid tmps ps assign body D (Qq4 true))::As') w->X.R (.returned (.bool true)) w):S X [] L (HS w0 M As):=
 Zd hrd hp h
theorem Qfv{g:Operand}{ps:Array Tmp}{assign body:Code}{gf:FuncId}{fa lb:Array Value}{G:Type}{Bs:G->List HA}{on:G->Bool}(hrd:X.rd=none)(hg:ev L g=some (.func (.func gf) fa lb))(hfn:QE X.P gf=true)
  (hit:∀(fid:FuncId)(D l:Nat)(a:Act)(w1:World)(ob:Obj),ob=.loop (rdy fid a.tmps ps assign body D)->FR X.n [] L a->HS w0 M (.obj l ob::.obj D (.deferred (some []))::As) w1 ->
   Calls X.P gf (fa++ #[.func (.yield l) #[] #[]]++lb) w1 λe w2=>(∃v,e=.returned v)/\∃x,HS w0 M (.obj l (Qnl fid a.tmps ps assign body D (Qq4 (on x)))::.obj D (.deferred (some []))::Bs x) w2)
  (next:∀D x,on x=true->S {X with df:=D::X.df} k L (HS w0 M (.obj D (.deferred (some []))::Bs x)))
  (back:∀D x,on x=false->S {X with df:=D::X.df} (.c .ret::k) L (HS w0 M (.obj D (.deferred (some []))::Bs x))):S X (.c (.rangeFunc g ps assign body)::k) L (HS w0 M As):=by
 intro a w ha hw;refine wpIn_rangeFunc (F:=X.F) (n:=0) λfid _=>?_;have hro:X.F.round=none:=hrd;rw[hro];have hw1:=(hw.allocObj (.deferred (some []))).allocObj (.loop (rdy fid a.tmps ps assign body w.heap.size));rw[World.size_alloc]at hw1;have hen:=run_enterLoop_outer (P:=X.P) (w:=w) fid a.tmps ps assign body;obtain⟨W1,hW1⟩:∃W1,(w.alloc (.deferred (some []))).alloc (.loop (rdy fid a.tmps ps assign body w.heap.size))=W1:=⟨_,rfl⟩;rw[hW1]at hw1;rw[show(Loop.mk .ready none fid a.tmps ps assign body w.heap.size)=rdy fid a.tmps ps assign body w.heap.size from rfl,hW1]at hen
 refine⟨w.heap.size+1,[{target:=.collected w.heap.size,args:=#[]}],W1,{target:=.fn (.func gf) lb,args:=fa++ #[.func (.yield (w.heap.size+1)) #[] #[]]},W1,gf,
  fa++ #[.func (.yield (w.heap.size+1)) #[] #[]]++lb,W1,hen,?_,λ_ _=>trivial,?_,λh=>(by cases h),?_⟩
 ·simp only[resolve,ha.evl hg];simp[go_sem]
 ·simp[invoke,go_sem,Zv hfn]
 ·refine CallsIn.mono (X.callsIn (hit fid _ _ {a with defers:=[]} _ _ rfl ⟨rfl,ha.size,ha.slot⟩ hw1)) λe w2 he=>?_;obtain⟨⟨v,rfl⟩,x,hx⟩:=he;have hfr:FR X.n (w.heap.size::X.df) L {a with defers:=[{target:=.collected w.heap.size,args:=#[]}]++a.defers}:=⟨by show _++a.defers=_;rw[ha.defers];rfl,ha.size,ha.slot⟩;cases hj:on x with
  | true=>
   rw[hj]at hx;refine⟨none,_,run_endLoop (hx.obj_get .here) (by simp[rdy]),?_⟩;have h4:=next w.heap.size x hj _ _ hfr (hx.putObj .here (.loop {rdy fid a.tmps ps assign body w.heap.size with state:=.exhausted})).tail
   rw[Zr]at h4;exact h4
  | false=>
   rw[hj]at hx;refine⟨some .ret,_,run_endLoop (hx.obj_get .here) (by simp),?_⟩;have h4:=back w.heap.size x hj _ _ hfr (hx.putObj .here (.loop {rdy fid a.tmps ps assign body w.heap.size with state:=.exhausted,pending:=some .ret})).tail;rw[Zr]at h4;exact h4
def Qpx(n:Nat){α:Type}(df:α->List Nat)(LJ:α->Qe)(CJ:α->World->Prop)(I:α->Prop)(m:α->Nat)(x:α)(a:Act)(w:World):Prop:=∃y,m y<m x/\I y/\FR n (df y) (LJ y) a/\CJ y w
theorem QoR{α:Type}{c:Code}{C:World->Prop}(md:List Nat)(Lm:α->Qe)(CJ:α->World->Prop)(I:α->Prop)(m:α->Nat)(df:α->List Nat)(x0:α)(hI:I x0)(hdf:X.df=df x0)(hL:QaX L (Lm x0++Z9 md L))(hC:∀w,C w->CJ x0 w)
  (h:∀x,I x->S {X with df:=df x} (.c c::.join (Qpx X.n df (λx=>Lm x++Z9 md L) CJ I m x)::k) (Lm x++Z9 md L) (CJ x)):S X (.c (.loop c)::k) L C:=by
 intro a w ha hw;intro b kk cs hro hb hr
 have key:∀N x,I x->m x=N->∀(a:Act)(w:World),FR X.n (df x) (Lm x++Z9 md L) a->CJ x w ->
   ∃e a' w',post X k e a' w'/\ArrivesIn (Machine.fenced X.P X.F) X.P (lone (b.atR a (.code c::.inLoop c::kk)) cs w) b kk cs e a' w':=by
  intro N
  induction N using Nat.strongRecOn with
  | _ N ih=>
   intro x hx hN a w hfr hcj;have h9:=h x hx a w hfr hcj;rw[Zr]at h9;obtain⟨e,a₁,w₁,hq,harr⟩:=h9 b (.inLoop c::kk) cs hro hb hr;cases e with
   | normal=>
    obtain⟨y,hlt,hy,hfr',hcj'⟩:=hq;obtain⟨e₂,a₂,w₂,hq₂,harr₂⟩:=ih (m y) (hN▸hlt) y hy rfl a₁ w₁ hfr' hcj';exact⟨e₂,a₂,w₂,hq₂,.of_steps (StepsIn.trans harr (.one (fenced_calm hb hr rfl) stepR_inLoop)) harr₂⟩
   | exit id=>exact⟨_,a₁,w₁,hq,.pass (x:=.inLoop c) rfl (λ_ _=>.inl (by simp)) harr⟩
   | goto l=>exact⟨_,a₁,w₁,hq,.pass (x:=.inLoop c) rfl (λ_ _=>.inl (by simp)) harr⟩
   | ret=>exact⟨_,a₁,w₁,hq,.pass (x:=.inLoop c) rfl (λ_ _=>.inl (by simp)) harr⟩
   | panic ch=>exact⟨_,a₁,w₁,hq,.pass (x:=.inLoop c) rfl (λ_ _=>.inl (by simp)) harr⟩
   | outgrown=>exact⟨_,a₁,w₁,hq,.pass (x:=.inLoop c) rfl (λ_ _=>.inl (by simp)) harr⟩
 obtain⟨e,a',w',hq,harr⟩:=key _ x0 hI rfl a w (by rw[<-hdf];exact ha.sub hL.all) (hC w hw);exact⟨e,a',w',hq,.of_steps (.one (fenced_calm hb hr rfl) stepR_loop) harr⟩
theorem Qjn{α:Type}{LJ:α->Qe}{CJ:α->World->Prop}{C:World->Prop}{I:α->Prop}{m:α->Nat}{df:α->List Nat}{n:Nat}{x:α}(y:α)(hn:X.n=n)(hdf:X.df=df y)(hm:m y<m x)(hI:I y)(hL:QaX L (LJ y))(hC:∀w,C w->CJ y w):S X (.join (Qpx n df LJ CJ I m x)::k) L C:=
 λ_ w ha hw=>⟨y,hm,hI,by rw[<-hn,<-hdf];exact ha.sub hL.all,hC w hw⟩
theorem Qgs{F:Fence}{n:Nat}{P:Program}{fn:Func}{tmps:Array Value}{R:Ending->World->Prop}:∀{ds:List Nat}{w:World},HS w0 M (ds.map dfO++As) w->(∀w,HS w0 M As w->LeavesInM F n P fn tmps R [] .returning w)->LeavesInM F n P fn tmps R (Qpy ds) .returning w
 | [],w,hw,h=>h w hw
 | D::ds,w,hw,h=>⟨by simp,.inl ⟨D,_,rfl,run_takeDeferred (hw.obj_get .here),Qgs (hw.putObj .here (.deferred none)).tail h⟩⟩
theorem Ql3{rs:List ResultVar}{vs:List Value}(hr:X.fn.results=rs.toArray)(hp:Qv As (.star (X.df.map dfO)) As')(hv:RV X.P L As' rs vs)(h:∀w,HS w0 M As' w->X.R (.returned (QR vs)) w)(hrd:X.rd=none:=by rfl):S X (.c .ret::k) L (HS w0 M As):=by
 refine Qin (Yg λa w ha hw=>?_);show(match X.rd with|none=>bodyPostM X.F 0 X.P X.fn X.R .ret a w|some l=>roundPost X.P l X.R .ret a w);rw[hrd];show LeavesInM X.F 0 X.P X.fn a.tmps X.R a.defers .returning w;rw[ha.defers];refine Qgs (HS.star_open (hw.pick hp)) λw h1=>?_;refine⟨QR vs,?_,h _ h1⟩;have hm:=hv.run ha h1;rw[QcD hr,Array.mapM_eq_mapM_toList];simp only[Sem.run_bind,Sem.run_map,hm,Result.andThen_ok,Sem.run_pure]
 match vs with
 | []=>rfl
 | [v]=>rfl
 | u::v::vs=>simp[QR]
end
end Gx
namespace Gx
open Go Go.RowKit
def Qgn:Obj->Obj
 | .loop r=>.loop {r with state:=.done,pending:=some .ret}
 | o=>o
end Gx
namespace Gx
open Go Go.RowKit
theorem QpC{X:Ctx}{k:List KI}{L:Qe}{w0:World}{M:List Nat}{As As1:List HA}{D:Nat}{ds:List Nat}(hp:Qv As1 (.star (ds.map dfO)) As)(h:S X k L (HS w0 M (.star ((D::ds).map dfO)::As))):S X k L (HS w0 M (.obj D (.deferred (some []))::As1)):=
 λa w ha hw=>h a w ha (HS.star_close (Bs:=(D::ds).map dfO) (by
  have h1:HS w0 M (.star (ds.map dfO)::.obj D (.deferred (some []))::As) w:=hw.perm ((hp.perm.cons _).trans (List.Perm.swap _ _ _));have h2:=HS.star_open h1;exact h2.perm List.perm_middle))
end Gx
namespace Go.Proofs
open Go Go.RowKit Gx
attribute [local irreducible] Go.Calls Gx.S Gx.O Gx.D Gx.OpP Gx.OpQ Gx.OpH
set_option maxRecDepth 20000
theorem Qiu:QE Tryz.prog 39=true:=by kernel_rfl
theorem Qiq:QE Tryz.prog 40=true:=by kernel_rfl
theorem Qkf:QE Tryz.prog 51=true:=by kernel_rfl
theorem QbW:tfd Tryz.prog 96 0=some (0,3):=by kernel_rfl
instance:TFd Tryz.prog 96 0 0 3:=⟨QbW⟩
theorem Qka:QE Tryz.prog 53=true:=by kernel_rfl
instance:TFn Tryz.prog 47:=⟨by kernel_rfl⟩
theorem QnW:QE Tryz.prog 92=true:=by kernel_rfl
def fiD(o:Option (List UInt8)):Dsc:=(o.map Yf).getD noD
def fiE(o:Option (List UInt8))(e:Int):Int:=(o.map YT).getD e
theorem Qm7{S:Type}{f:S->Option (List UInt8)}{id:Int}{l:List SItm}{s s':S}{b:Bool}(h:RunY (λs x s'=>f s'=if x.id=id then some x.by_ else none) (λs=>(f s).isNone) s l s' b)(h0:f s=none):f s'=ZZ l id:=by
  induction h with
  | nil s=>rw[h0];rfl
  | @go s s' s'' x l b hst hc _ ih=>
    have h1:f s'=none:=by simpa using hc
    rw[h1]at hst;have h2:¬x.id=id:=λe=>by rw[if_pos e]at hst;cases hst
    rw[ih h1];unfold ZZ;rw[List.find?_cons_of_neg (by simpa using h2)]
  | @stop s s' x l hst hc=>
    have h1:x.id=id:=by
      by_cases e:x.id=id
      · exact e
      · rw[if_neg e]at hst;rw[hst]at hc;cases hc
    rw[hst,if_pos h1];unfold ZZ;rw[List.find?_cons_of_pos (by simpa using h1)];rfl
set_option maxHeartbeats 4000000 in
theorem c11o(w:World)(q:List UInt8)(mo rm:Int)(a:Option Addr)(cap:Nat)(L:List LNd)(id:Int)(hm:q.length<=16384)(hs:Nt w [] a L)(hB:Bd (pln L))(hkl:∀i,i<L.length->∀x∈(nth L i).es,x.key.length<=1000000)(hE0:XD q=0)(h0:(Q0 (⟨2,mo,rm,pln L⟩:Tre)).2=0)(hid:0<=id/\id<=2147483647)(hx0:ZA (2:Int) (nmB [id])=0)(hx:(Qr (2:Int) (pln L) (nmB [id])).2.2=true)(hvl:(XV (2:Int) (pln L) (nmB [id])).val.length<=100000):CE 11 #[.string (bs q),.agg #[.int .i64 2,.int .i64 mo,.int .i64 rm,.slice a L.length cap],.int .i64 id] w [] (λg:(Option Addr×Nat)×(Option Addr×Nat)=>.tuple #[.agg #[.int .i64 (fiD (ZZ (Yp q (XV (2:Int) (pln L) (nmB [id])).val) id)).ow,.int .i64 (fiD (ZZ (Yp q (XV (2:Int) (pln L) (nmB [id])).val) id)).gr,.bool (fiD (ZZ (Yp q (XV (2:Int) (pln L) (nmB [id])).val) id)).pr,.bool (fiD (ZZ (Yp q (XV (2:Int) (pln L) (nmB [id])).val) id)).he,.slice g.1.1 (fiD (ZZ (Yp q (XV (2:Int) (pln L) (nmB [id])).val) id)).en.length g.1.2,.slice g.2.1 (fiD (ZZ (Yp q (XV (2:Int) (pln L) (nmB [id])).val) id)).au.length g.2.2],.int .i64 (fiE (ZZ (Yp q (XV (2:Int) (pln L) (nmB [id])).val) id) 31)]) (λg=>True) λg=>[.own (.slice g.1.1 (fiD (ZZ (Yp q (XV (2:Int) (pln L) (nmB [id])).val) id)).en.length g.1.2) 119 4 (fiD (ZZ (Yp q (XV (2:Int) (pln L) (nmB [id])).val) id)).en.length ((fiD (ZZ (Yp q (XV (2:Int) (pln L) (nmB [id])).val) id)).en.flatMap Ace.vals),.own (.slice g.2.1 (fiD (ZZ (Yp q (XV (2:Int) (pln L) (nmB [id])).val) id)).au.length g.2.2) 119 4 (fiD (ZZ (Yp q (XV (2:Int) (pln L) (nmB [id])).val) id)).au.length ((fiD (ZZ (Yp q (XV (2:Int) (pln L) (nmB [id])).val) id)).au.flatMap Ace.vals)]:=by
 obtain⟨hq1,hq2⟩:=Qky hE0
 have hFV:QK [.int .i64 (XD q),.int .i64 (Q0 (⟨2,mo,rm,pln L⟩:Tre)).2,.int .i64 (cond (decide ((2:Int)=2)) 0 15),.int .i64 (cond (decide (0<=id)&&decide (id<=2147483647)) 0 2)]=0:=by simp[QK,hE0,h0,hid.1,hid.2]
 have hkk:(nmB [id]).length<=1000000:=by rw[XT];exact(by decide:4*1<=1000000)
 refine eN3 Tryz.func11 Tryz.ntmps11 ?_
 refine aU2 ?_
 refine oBx λb1 _=>?_
 refine oBx λb2 _=>?_
 refine oAl (λb3 _=>?_) Xq
 refine oAl (λb4 _=>?_) XK
 refine aU2 ?_
 refine Qp [] mixed ?_
 refine dP 0 ?_
 refine dQ 1 [] rfl (Qh rfl Qiu rfl (λw1 h1=>c39 w1 q om)) (dLn 2 [] ?_)
 refine dQ 3 [] rfl (Qh rfl Qiq rfl (λw1 h1=>c40 w1 2 mo rm a cap L (hs.later h1.nil) hB hkl)) (dFa 4 ?_)
 refine dLd 5 [] ?_
 refine dQ 6 [] rfl (Qh rfl Qkf rfl (λw1 h1=>c51 w1)) (dV 7 rfl (Qar rfl rfl QbW XB rfl) (dP 8 ?_))
 refine dQ 9 [] rfl (Qh rfl Z2 rfl (λw1 h1=>c42 w1 _ _)) (dLd 10 [] ?_)
 refine dQ 11 [] rfl (Qh rfl Qgc rfl (λw1 h1=>c52 w1 _ _ _)) (dQ 12 [] rfl (Qh rfl Z2 rfl (λw1 h1=>c42 w1 _ _)) (dH 13 rfl (Qd (cs:=[_,_,_,_]) rfl rfl Xn XK rfl rfl rfl) (λb5 _=>dBa ?_)))
 refine dQ 14 [] rfl (Qh rfl Qa2 rfl (λw1 h1=>f38 h1 aPk (by rfl) (by rfl) (by decide))) (Qs (show _=Value.int .i64 0 from congrArg (Value.int .i64) hFV) (dP 15 ?_))
 refine dNi ?_
 refine aU6 ?_
 refine sCd rfl (λh6=>?_) λh6=>?_
 ·exfalso;simp at h6
 refine aU2 ?_
 refine Qp [9] mixed ?_
 refine dLn 0 [[]] ?_
 refine dLd 1 [[]] ?_
 refine Z5 2 8 rfl rfl (Qd (cs:=[_]) rfl rfl QD Ye rfl rfl rfl) (Xf rfl XU) (by kernel_rfl) (λw h=>h.ent aEt) rfl rfl (λb7 _=>?_) (λb8 _=>?_)
 ·skip
  refine dBa ?_
  refine dQ 3 [[]] rfl (Qh rfl QdO rfl (λw1 h1=>c54 w1 _ _ [id] (h1.vl_blk aPk) (by simp) (by intro x hx;simp only[List.mem_cons,List.mem_nil_iff,or_false]at hx;rcases hx with rfl;omega))) (dQ 4 [[]] rfl (Qh rfl Qka rfl (λw1 h1=>c53o w1 2 mo rm a cap L (nmB [id]) (hs.later h1.nil) hB hkl h0 hkk hx0 hx)) (dP 5 ?_))
  refine dP 6 ?_
  refine dP 7 ?_
  refine dH 8 rfl (Xf rfl XU) (λb9 _=>dBa ?_)
  refine dSt 9 ?_ (hl:=(by simp only[Qb,List.length_set,List.length_cons,List.length_nil,List.length_map];omega))
  refine dTu [] ?_
  refine dP 10 ?_
  refine dNi ?_
  refine aU2 ?_
  refine Qi (L':=[(0,_),(5,_),(6,_),(7,_),(8,_),(9,_)]) aSx (λ_ h=>h) ?_
  refine aU4 ?_
  refine sCd rfl (λh10=>?_) λh10=>?_
  ·exfalso;simp at h10
  refine aU7 ?_
  refine oCh rfl (λw1 h1=>c47 w1 q (XV (2:Int) (pln L) (nmB [id])).val) (λgL _=>aU2 ?_)
  refine Qfv (G:={s:(Option (List UInt8)×((Option Addr×Nat)×(Option Addr×Nat))) // s.1=(ZZ (Yp q (XV (2:Int) (pln L) (nmB [id])).val) id)}) (Bs:=λs=>[.blk b3 28 6 [.int .i64 (fiD s.1.1).ow,.int .i64 (fiD s.1.1).gr,.bool (fiD s.1.1).pr,.bool (fiD s.1.1).he,.slice s.1.2.1.1 (fiD s.1.1).en.length s.1.2.1.2,.slice s.1.2.2.1 (fiD s.1.1).au.length s.1.2.2.2],.blk b4 34 1 [.int .i64 (fiE s.1.1 0)],.own (.slice s.1.2.1.1 (fiD s.1.1).en.length s.1.2.1.2) 119 4 (fiD s.1.1).en.length ((fiD s.1.1).en.flatMap Ace.vals),.own (.slice s.1.2.2.1 (fiD s.1.1).au.length s.1.2.2.2) 119 4 (fiD s.1.1).au.length ((fiD s.1.1).au.flatMap Ace.vals),.blk b1 24 4 [.int .i64 2,.int .i64 mo,.int .i64 rm,.slice a L.length cap],.blk b2 3 1 [.int .i64 id],.blk b9 50 2 [.string (bs (XV (2:Int) (pln L) (nmB [id])).key),.string (bs (XV (2:Int) (pln L) (nmB [id])).val)],.blk gL.1 9 1 [.string (bs (XV (2:Int) (pln L) (nmB [id])).val)],.blk gL.2 9 1 [.string (bs q)]]) (on:=λs=>s.1.1.isNone) rfl rfl QnW (λfid D l a9 w1 ob hob ha9 hw1=>?_) (λD x hon=>?_) (λD x hon=>?_)
  ·skip
   have h2:HS w [] ((λs:(Option (List UInt8)×((Option Addr×Nat)×(Option Addr×Nat)))=>.star [.obj l (cond s.1.isNone ob (Qgn ob)),.obj D (.deferred (some [])),.blk b3 28 6 [.int .i64 (fiD s.1).ow,.int .i64 (fiD s.1).gr,.bool (fiD s.1).pr,.bool (fiD s.1).he,.slice s.2.1.1 (fiD s.1).en.length s.2.1.2,.slice s.2.2.1 (fiD s.1).au.length s.2.2.2],.blk b4 34 1 [.int .i64 (fiE s.1 0)],.own (.slice s.2.1.1 (fiD s.1).en.length s.2.1.2) 119 4 (fiD s.1).en.length ((fiD s.1).en.flatMap Ace.vals),.own (.slice s.2.2.1 (fiD s.1).au.length s.2.2.2) 119 4 (fiD s.1).au.length ((fiD s.1).au.flatMap Ace.vals)]) (none,((none,0),(none,0)))::[.blk b1 24 4 [.int .i64 2,.int .i64 mo,.int .i64 rm,.slice a L.length cap],.blk b2 3 1 [.int .i64 id],.blk b9 50 2 [.string (bs (XV (2:Int) (pln L) (nmB [id])).key),.string (bs (XV (2:Int) (pln L) (nmB [id])).val)],.blk gL.1 9 1 [.string (bs (XV (2:Int) (pln L) (nmB [id])).val)],.blk gL.2 9 1 [.string (bs q)]]) w1:=HS.star_close (Bs:=[_,_,_,_,_,_]) (((hw1.own_nil 119 4).own_nil 119 4).ent aEt)
   have q5:=h2.rd_blkF QaI (b:=b2) (i:=0) aPk rfl
   have qv:=h2.rd_blkF QaI (b:=gL.1) (i:=0) aPk rfl
   have qs:=h2.rd_blkF QaI (b:=gL.2) (i:=0) aPk rfl
   refine Calls.mono (c92 w1 (Option (List UInt8)×((Option Addr×Nat)×(Option Addr×Nat))) (λs=>s.1=none) (λs:(Option (List UInt8)×((Option Addr×Nat)×(Option Addr×Nat)))=>.star [.obj l (cond s.1.isNone ob (Qgn ob)),.obj D (.deferred (some [])),.blk b3 28 6 [.int .i64 (fiD s.1).ow,.int .i64 (fiD s.1).gr,.bool (fiD s.1).pr,.bool (fiD s.1).he,.slice s.2.1.1 (fiD s.1).en.length s.2.1.2,.slice s.2.2.1 (fiD s.1).au.length s.2.2.2],.blk b4 34 1 [.int .i64 (fiE s.1 0)],.own (.slice s.2.1.1 (fiD s.1).en.length s.2.1.2) 119 4 (fiD s.1).en.length ((fiD s.1).en.flatMap Ace.vals),.own (.slice s.2.2.1 (fiD s.1).au.length s.2.2.2) 119 4 (fiD s.1).au.length ((fiD s.1).au.flatMap Ace.vals)]) (λs x s3=>s3.1=if x.id=id then some x.by_ else none) (λs=>s.1.isNone) (λx=>x.by_.length<=1000000) l q (XV (2:Int) (pln L) (nmB [id])).val gL.1 gL.2 (none,((none,0),(none,0))) (HS.focus (Cs:=[_]) h2) ?_ qv qs hm om hvl (λx hx=>by have:=Qg3 om x hx;omega) rfl) λe w2 hx=>?_
   rotate_left
   ·obtain⟨⟨sm,bm⟩,he,hr,h5⟩:=hx
    refine⟨⟨_,he⟩,⟨sm,Qm7 (f:=λs:(Option (List UInt8)×((Option Addr×Nat)×(Option Addr×Nat)))=>s.1) hr rfl⟩,?_⟩
    have h6:=HS.star_open (HS.callA h2 h5)
    subst hob
    obtain⟨o9,g9⟩:=sm
    cases o9<;>exact h6.ent aEt
   intro s2 x w3 h3 hI2 hQx
   have h4:=HS.star_open (HS.focus (Cs:=[_]) (Ds:=[]) h3)
   have r5:=h3.keep q5
   subst hob
   obtain⟨o2,g2⟩:=s2
   obtain rfl:o2=none:=hI2
   dsimp only[cond,Option.isNone]at h4 r5 ⊢
   refine QcH (α:=Nat) (fn:=Tryz.f11) (As1:=λb10=>.obj D (.deferred (some []))::[.blk b3 28 6 [.int .i64 (fiD none).ow,.int .i64 (fiD none).gr,.bool (fiD none).pr,.bool (fiD none).he,.slice g2.1.1 (fiD none).en.length g2.1.2,.slice g2.2.1 (fiD none).au.length g2.2.2],.blk b4 34 1 [.int .i64 (fiE none 0)],.own (.slice g2.1.1 (fiD none).en.length g2.1.2) 119 4 (fiD none).en.length ((fiD none).en.flatMap Ace.vals),.own (.slice g2.2.1 (fiD none).au.length g2.2.2) 119 4 (fiD none).au.length ((fiD none).au.flatMap Ace.vals),.blk b10 72 2 (SItm.vals x)]) (L1:=λb10=>[(10,.pointer (some ⟨b10,0,none⟩)),(5,.pointer (some ⟨b2,0,none⟩)),(6,.pointer (some ⟨b3,0,none⟩)),(7,.pointer (some ⟨b4,0,none⟩))]) h4 rfl (FR.round1 ha9 46 _ rfl) ?_ ?_
   ·skip
    refine aU ?_
    refine oAl (λb11 _=>?_) Yq
    refine aU2 ?_
    exact Qck b11 aSx (λw h=>h.ent aEt)
   skip
   intro b10
   refine aU5 ?_
   refine o_q (Qc rfl rfl XB (r5)) rfl (aU2 ?_)
   refine sCd rfl (λh12=>?_) λh12=>?_
   ·have hxid:x.id=id:=h12
    refine aU4 ?_
    refine oCh rfl (λw1 h1=>c55 w1 x.by_ hQx) (λgd _=>aU5 ?_)
    exact Qfi rfl aPk (λw h=>⟨(some x.by_,gd),rfl,⟨(if_pos hxid).symm,λh=>by cases h⟩,by refine HS.star_close (Bs:=[_,_,_,_,_,_]) ?_;exact h.ent aEt⟩)
   have hxid:¬x.id=id:=h12
   refine aU2 ?_
   exact QdC rfl aPk (λw h=>⟨(none,g2),rfl,⟨(if_neg hxid).symm,λ_=>rfl⟩,by refine HS.star_close (Bs:=[_,_,_,_,_,_]) ?_;exact h.ent aEt⟩)
  ·skip
   obtain⟨⟨o9,g9⟩,ho9⟩:=x
   obtain rfl:o9=none:=by cases o9;rfl;cases hon
   dsimp only at ho9 ⊢
   refine aU3 ?_
   refine o_p (Qw (cs:=[_,_,_,_,_,_]) rfl rfl YU Xq rfl) rfl (aU3 ?_)
   exact QaF (rs:=[.cell 6 28,.cell 7 34]) rfl aPk (.cell rfl Xr aPk rfl (.cell1 rfl ZK aPk rfl (.nil))) (λw' h'=>⟨((none,0),(none,0)),by rw[<-ho9];rfl,trivial,by rw[<-ho9];exact((h'.own_nil 119 4).own_nil 119 4).ent aEt⟩)
  skip
  obtain⟨⟨o9,g9⟩,ho9⟩:=x
  obtain⟨b9,rfl⟩:∃b,o9=some b:=by cases o9;cases hon;exact⟨_,rfl⟩
  dsimp only at ho9 ⊢
  exact QaF (rs:=[.cell 6 28,.cell 7 34]) rfl aPk (.cell rfl Xr aPk rfl (.cell1 rfl ZK aPk rfl (.nil))) (λw' h'=>⟨g9,by rw[<-ho9];rfl,trivial,by rw[<-ho9];exact h'.ent aEt⟩)
 skip
 refine dBa ?_
 refine dH 2 rfl (Qd (cs:=[_]) rfl rfl QD Ye rfl rfl rfl) (λb13 _=>dBa ?_)
 refine dQ 3 [[]] rfl (Qh rfl QdO rfl (λw1 h1=>c54 w1 _ _ [id] (h1.vl_blk aPk) (by simp) (by intro x hx;simp only[List.mem_cons,List.mem_nil_iff,or_false]at hx;rcases hx with rfl;omega))) (dQ 4 [[]] rfl (Qh rfl Qka rfl (λw1 h1=>c53o w1 2 mo rm a cap L (nmB [id]) (hs.later h1.nil) hB hkl h0 hkk hx0 hx)) (dP 5 ?_))
 refine dP 6 ?_
 refine dP 7 ?_
 refine dSt 9 ?_ (hl:=(by simp only[Qb,List.length_set,List.length_cons,List.length_nil,List.length_map];omega))
 refine dTu [] ?_
 refine dP 10 ?_
 refine dNi ?_
 refine aU2 ?_
 refine Qi (L':=[(0,_),(5,_),(6,_),(7,_),(8,_),(9,_)]) aSx (λ_ h=>h) ?_
 refine aU4 ?_
 refine sCd rfl (λh14=>?_) λh14=>?_
 ·exfalso;simp at h14
 refine aU7 ?_
 refine oCh rfl (λw1 h1=>c47 w1 q (XV (2:Int) (pln L) (nmB [id])).val) (λgL _=>aU2 ?_)
 refine Qfv (G:={s:(Option (List UInt8)×((Option Addr×Nat)×(Option Addr×Nat))) // s.1=(ZZ (Yp q (XV (2:Int) (pln L) (nmB [id])).val) id)}) (Bs:=λs=>[.blk b3 28 6 [.int .i64 (fiD s.1.1).ow,.int .i64 (fiD s.1.1).gr,.bool (fiD s.1.1).pr,.bool (fiD s.1.1).he,.slice s.1.2.1.1 (fiD s.1.1).en.length s.1.2.1.2,.slice s.1.2.2.1 (fiD s.1.1).au.length s.1.2.2.2],.blk b4 34 1 [.int .i64 (fiE s.1.1 0)],.own (.slice s.1.2.1.1 (fiD s.1.1).en.length s.1.2.1.2) 119 4 (fiD s.1.1).en.length ((fiD s.1.1).en.flatMap Ace.vals),.own (.slice s.1.2.2.1 (fiD s.1.1).au.length s.1.2.2.2) 119 4 (fiD s.1.1).au.length ((fiD s.1.1).au.flatMap Ace.vals),.blk b1 24 4 [.int .i64 2,.int .i64 mo,.int .i64 rm,.slice a L.length cap],.blk b2 3 1 [.int .i64 id],.blk b8 50 2 [.string (bs (XV (2:Int) (pln L) (nmB [id])).key),.string (bs (XV (2:Int) (pln L) (nmB [id])).val)],.blk gL.1 9 1 [.string (bs (XV (2:Int) (pln L) (nmB [id])).val)],.blk gL.2 9 1 [.string (bs q)]]) (on:=λs=>s.1.1.isNone) rfl rfl QnW (λfid D l a9 w1 ob hob ha9 hw1=>?_) (λD x hon=>?_) (λD x hon=>?_)
 ·skip
  have h2:HS w [] ((λs:(Option (List UInt8)×((Option Addr×Nat)×(Option Addr×Nat)))=>.star [.obj l (cond s.1.isNone ob (Qgn ob)),.obj D (.deferred (some [])),.blk b3 28 6 [.int .i64 (fiD s.1).ow,.int .i64 (fiD s.1).gr,.bool (fiD s.1).pr,.bool (fiD s.1).he,.slice s.2.1.1 (fiD s.1).en.length s.2.1.2,.slice s.2.2.1 (fiD s.1).au.length s.2.2.2],.blk b4 34 1 [.int .i64 (fiE s.1 0)],.own (.slice s.2.1.1 (fiD s.1).en.length s.2.1.2) 119 4 (fiD s.1).en.length ((fiD s.1).en.flatMap Ace.vals),.own (.slice s.2.2.1 (fiD s.1).au.length s.2.2.2) 119 4 (fiD s.1).au.length ((fiD s.1).au.flatMap Ace.vals)]) (none,((none,0),(none,0)))::[.blk b1 24 4 [.int .i64 2,.int .i64 mo,.int .i64 rm,.slice a L.length cap],.blk b2 3 1 [.int .i64 id],.blk b8 50 2 [.string (bs (XV (2:Int) (pln L) (nmB [id])).key),.string (bs (XV (2:Int) (pln L) (nmB [id])).val)],.blk gL.1 9 1 [.string (bs (XV (2:Int) (pln L) (nmB [id])).val)],.blk gL.2 9 1 [.string (bs q)]]) w1:=HS.star_close (Bs:=[_,_,_,_,_,_]) (((hw1.own_nil 119 4).own_nil 119 4).ent aEt)
  have q5:=h2.rd_blkF QaI (b:=b2) (i:=0) aPk rfl
  have qv:=h2.rd_blkF QaI (b:=gL.1) (i:=0) aPk rfl
  have qs:=h2.rd_blkF QaI (b:=gL.2) (i:=0) aPk rfl
  refine Calls.mono (c92 w1 (Option (List UInt8)×((Option Addr×Nat)×(Option Addr×Nat))) (λs=>s.1=none) (λs:(Option (List UInt8)×((Option Addr×Nat)×(Option Addr×Nat)))=>.star [.obj l (cond s.1.isNone ob (Qgn ob)),.obj D (.deferred (some [])),.blk b3 28 6 [.int .i64 (fiD s.1).ow,.int .i64 (fiD s.1).gr,.bool (fiD s.1).pr,.bool (fiD s.1).he,.slice s.2.1.1 (fiD s.1).en.length s.2.1.2,.slice s.2.2.1 (fiD s.1).au.length s.2.2.2],.blk b4 34 1 [.int .i64 (fiE s.1 0)],.own (.slice s.2.1.1 (fiD s.1).en.length s.2.1.2) 119 4 (fiD s.1).en.length ((fiD s.1).en.flatMap Ace.vals),.own (.slice s.2.2.1 (fiD s.1).au.length s.2.2.2) 119 4 (fiD s.1).au.length ((fiD s.1).au.flatMap Ace.vals)]) (λs x s3=>s3.1=if x.id=id then some x.by_ else none) (λs=>s.1.isNone) (λx=>x.by_.length<=1000000) l q (XV (2:Int) (pln L) (nmB [id])).val gL.1 gL.2 (none,((none,0),(none,0))) (HS.focus (Cs:=[_]) h2) ?_ qv qs hm om hvl (λx hx=>by have:=Qg3 om x hx;omega) rfl) λe w2 hx=>?_
  rotate_left
  ·obtain⟨⟨sm,bm⟩,he,hr,h5⟩:=hx
   refine⟨⟨_,he⟩,⟨sm,Qm7 (f:=λs:(Option (List UInt8)×((Option Addr×Nat)×(Option Addr×Nat)))=>s.1) hr rfl⟩,?_⟩
   have h6:=HS.star_open (HS.callA h2 h5)
   subst hob
   obtain⟨o9,g9⟩:=sm
   cases o9<;>exact h6.ent aEt
  intro s2 x w3 h3 hI2 hQx
  have h4:=HS.star_open (HS.focus (Cs:=[_]) (Ds:=[]) h3)
  have r5:=h3.keep q5
  subst hob
  obtain⟨o2,g2⟩:=s2
  obtain rfl:o2=none:=hI2
  dsimp only[cond,Option.isNone]at h4 r5 ⊢
  refine QcH (α:=Nat) (fn:=Tryz.f11) (As1:=λb10=>.obj D (.deferred (some []))::[.blk b3 28 6 [.int .i64 (fiD none).ow,.int .i64 (fiD none).gr,.bool (fiD none).pr,.bool (fiD none).he,.slice g2.1.1 (fiD none).en.length g2.1.2,.slice g2.2.1 (fiD none).au.length g2.2.2],.blk b4 34 1 [.int .i64 (fiE none 0)],.own (.slice g2.1.1 (fiD none).en.length g2.1.2) 119 4 (fiD none).en.length ((fiD none).en.flatMap Ace.vals),.own (.slice g2.2.1 (fiD none).au.length g2.2.2) 119 4 (fiD none).au.length ((fiD none).au.flatMap Ace.vals),.blk b10 72 2 (SItm.vals x)]) (L1:=λb10=>[(10,.pointer (some ⟨b10,0,none⟩)),(5,.pointer (some ⟨b2,0,none⟩)),(6,.pointer (some ⟨b3,0,none⟩)),(7,.pointer (some ⟨b4,0,none⟩))]) h4 rfl (FR.round1 ha9 46 _ rfl) ?_ ?_
  ·skip
   refine aU ?_
   refine oAl (λb15 _=>?_) Yq
   refine aU2 ?_
   exact Qck b15 aSx (λw h=>h.ent aEt)
  skip
  intro b10
  refine aU5 ?_
  refine o_q (Qc rfl rfl XB (r5)) rfl (aU2 ?_)
  refine sCd rfl (λh16=>?_) λh16=>?_
  ·have hxid:x.id=id:=h16
   refine aU4 ?_
   refine oCh rfl (λw1 h1=>c55 w1 x.by_ hQx) (λgd _=>aU5 ?_)
   exact Qfi rfl aPk (λw h=>⟨(some x.by_,gd),rfl,⟨(if_pos hxid).symm,λh=>by cases h⟩,by refine HS.star_close (Bs:=[_,_,_,_,_,_]) ?_;exact h.ent aEt⟩)
  have hxid:¬x.id=id:=h16
  refine aU2 ?_
  exact QdC rfl aPk (λw h=>⟨(none,g2),rfl,⟨(if_neg hxid).symm,λ_=>rfl⟩,by refine HS.star_close (Bs:=[_,_,_,_,_,_]) ?_;exact h.ent aEt⟩)
 ·skip
  obtain⟨⟨o9,g9⟩,ho9⟩:=x
  obtain rfl:o9=none:=by cases o9;rfl;cases hon
  dsimp only at ho9 ⊢
  refine aU3 ?_
  refine o_p (Qw (cs:=[_,_,_,_,_,_]) rfl rfl YU Xq rfl) rfl (aU3 ?_)
  exact QaF (rs:=[.cell 6 28,.cell 7 34]) rfl aPk (.cell rfl Xr aPk rfl (.cell1 rfl ZK aPk rfl (.nil))) (λw' h'=>⟨((none,0),(none,0)),by rw[<-ho9];rfl,trivial,by rw[<-ho9];exact((h'.own_nil 119 4).own_nil 119 4).ent aEt⟩)
 skip
 obtain⟨⟨o9,g9⟩,ho9⟩:=x
 obtain⟨b9,rfl⟩:∃b,o9=some b:=by cases o9;cases hon;exact⟨_,rfl⟩
 dsimp only at ho9 ⊢
 exact QaF (rs:=[.cell 6 28,.cell 7 34]) rfl aPk (.cell rfl Xr aPk rfl (.cell1 rfl ZK aPk rfl (.nil))) (λw' h'=>⟨g9,by rw[<-ho9];rfl,trivial,by rw[<-ho9];exact h'.ent aEt⟩)
def Zj(a b co id:Int):Int:=if a=0 then if b=0 then if co=2 then if 0<=id/\id<=2147483647 then 0 else 2 else 15 else b else a
theorem Qlc(a b co id:Int):QK [.int .i64 a,.int .i64 b,.int .i64 (cond (decide (co=2)) 0 15),.int .i64 (cond (decide (0<=id)&&decide (id<=2147483647)) 0 2)]=Zj a b co id:=by
  unfold Zj
  by_cases h1:a=0<;>by_cases h2:b=0<;>by_cases h3:co=2<;>by_cases h4:0<=id<;>by_cases h5:id<=2147483647<;>simp[QK,h1,h2,h3,h4,h5]
theorem c11e(w:World)(q:List UInt8)(co mo rm:Int)(a:Option Addr)(cap:Nat)(L:List LNd)(id:Int)(hm:q.length<=16384)(hs:Nt w [] a L)(hB:Bd (pln L))(hkl:∀i,i<L.length->∀x∈(nth L i).es,x.key.length<=1000000)(he:¬(Zj (XD q) (Q0 (⟨co,mo,rm,pln L⟩:Tre)).2 co id)=0):CR 11 #[.string (bs q),.agg #[.int .i64 co,.int .i64 mo,.int .i64 rm,.slice a L.length cap],.int .i64 id] w (.tuple #[.agg #[.int .i64 0,.int .i64 0,.bool false,.bool false,.slice none 0 0,.slice none 0 0],.int .i64 (Zj (XD q) (Q0 (⟨co,mo,rm,pln L⟩:Tre)).2 co id)]):=by
 have hFV:=Qlc (XD q) (Q0 (⟨co,mo,rm,pln L⟩:Tre)).2 co id
 refine eN3 Tryz.func11 Tryz.ntmps11 ?_
 refine aU2 ?_
 refine oBx λb1 _=>?_
 refine oBx λb2 _=>?_
 refine oAl (λb3 _=>?_) Xq
 refine oAl (λb4 _=>?_) XK
 refine aU2 ?_
 refine Qp [] mixed ?_
 refine dP 0 ?_
 refine dQ 1 [] rfl (Qh rfl Qiu rfl (λw1 h1=>c39 w1 q om)) (dLn 2 [] ?_)
 refine dQ 3 [] rfl (Qh rfl Qiq rfl (λw1 h1=>c40 w1 co mo rm a cap L (hs.later h1.nil) hB hkl)) (dFa 4 ?_)
 refine dLd 5 [] ?_
 refine dQ 6 [] rfl (Qh rfl Qkf rfl (λw1 h1=>c51 w1)) (dV 7 rfl (Qar rfl rfl QbW XB rfl) (dP 8 ?_))
 refine dQ 9 [] rfl (Qh rfl Z2 rfl (λw1 h1=>c42 w1 _ _)) (dLd 10 [] ?_)
 refine dQ 11 [] rfl (Qh rfl Qgc rfl (λw1 h1=>c52 w1 _ _ _)) (dQ 12 [] rfl (Qh rfl Z2 rfl (λw1 h1=>c42 w1 _ _)) (dH 13 rfl (Qd (cs:=[_,_,_,_]) rfl rfl Xn XK rfl rfl rfl) (λb5 _=>dBa ?_)))
 refine dQ 14 [] rfl (Qh rfl Qa2 rfl (λw1 h1=>f38 h1 aPk (by rfl) (by rfl) (by decide))) (Qs (show _=Value.int .i64 (Zj (XD q) (Q0 (⟨co,mo,rm,pln L⟩:Tre)).2 co id)from congrArg (Value.int .i64) hFV) (dP 15 ?_))
 refine dNi ?_
 refine aU6 ?_
 refine sCd rfl (λh6=>?_) λh6=>?_
 ·refine aU2 ?_
  refine o_p (Qw (cs:=[_,_,_,_,_,_]) rfl rfl YU Xq rfl) rfl (aU4 ?_)
  exact Qf (rs:=[.cell 6 28,.cell 7 34]) rfl (.cell rfl Xr aPk rfl (.cell1 rfl ZK aPk rfl (.nil))) (λw' h'=>⟨by rfl,h'.below⟩)
 exfalso;exact he (by have hq:=h6;simpa using hq)
theorem c11m(w:World)(q:List UInt8)(mo rm:Int)(a:Option Addr)(cap:Nat)(L:List LNd)(id:Int)(hm:q.length<=16384)(hs:Nt w [] a L)(hB:Bd (pln L))(hkl:∀i,i<L.length->∀x∈(nth L i).es,x.key.length<=1000000)(hE0:XD q=0)(h0:(Q0 (⟨2,mo,rm,pln L⟩:Tre)).2=0)(hid:0<=id/\id<=2147483647)(hx0:ZA (2:Int) (nmB [id])=0)(hx:¬(Qr (2:Int) (pln L) (nmB [id])).2.2=true):CR 11 #[.string (bs q),.agg #[.int .i64 2,.int .i64 mo,.int .i64 rm,.slice a L.length cap],.int .i64 id] w (.tuple #[.agg #[.int .i64 0,.int .i64 0,.bool false,.bool false,.slice none 0 0,.slice none 0 0],.int .i64 6]):=by
 have hFV:QK [.int .i64 (XD q),.int .i64 (Q0 (⟨2,mo,rm,pln L⟩:Tre)).2,.int .i64 (cond (decide ((2:Int)=2)) 0 15),.int .i64 (cond (decide (0<=id)&&decide (id<=2147483647)) 0 2)]=0:=by simp[QK,hE0,h0,hid.1,hid.2]
 have hkk:(nmB [id]).length<=1000000:=by rw[XT];exact(by decide:4*1<=1000000)
 refine eN3 Tryz.func11 Tryz.ntmps11 ?_
 refine aU2 ?_
 refine oBx λb1 _=>?_
 refine oBx λb2 _=>?_
 refine oAl (λb3 _=>?_) Xq
 refine oAl (λb4 _=>?_) XK
 refine aU2 ?_
 refine Qp [] mixed ?_
 refine dP 0 ?_
 refine dQ 1 [] rfl (Qh rfl Qiu rfl (λw1 h1=>c39 w1 q om)) (dLn 2 [] ?_)
 refine dQ 3 [] rfl (Qh rfl Qiq rfl (λw1 h1=>c40 w1 2 mo rm a cap L (hs.later h1.nil) hB hkl)) (dFa 4 ?_)
 refine dLd 5 [] ?_
 refine dQ 6 [] rfl (Qh rfl Qkf rfl (λw1 h1=>c51 w1)) (dV 7 rfl (Qar rfl rfl QbW XB rfl) (dP 8 ?_))
 refine dQ 9 [] rfl (Qh rfl Z2 rfl (λw1 h1=>c42 w1 _ _)) (dLd 10 [] ?_)
 refine dQ 11 [] rfl (Qh rfl Qgc rfl (λw1 h1=>c52 w1 _ _ _)) (dQ 12 [] rfl (Qh rfl Z2 rfl (λw1 h1=>c42 w1 _ _)) (dH 13 rfl (Qd (cs:=[_,_,_,_]) rfl rfl Xn XK rfl rfl rfl) (λb5 _=>dBa ?_)))
 refine dQ 14 [] rfl (Qh rfl Qa2 rfl (λw1 h1=>f38 h1 aPk (by rfl) (by rfl) (by decide))) (Qs (show _=Value.int .i64 0 from congrArg (Value.int .i64) hFV) (dP 15 ?_))
 refine dNi ?_
 refine aU6 ?_
 refine sCd rfl (λh6=>?_) λh6=>?_
 ·exfalso;simp at h6
 refine aU2 ?_
 refine Qp [9] mixed ?_
 refine dLn 0 [[]] ?_
 refine dLd 1 [[]] ?_
 refine Z5 2 8 rfl rfl (Qd (cs:=[_]) rfl rfl QD Ye rfl rfl rfl) (Xf rfl XU) (by kernel_rfl) (λw h=>h.ent aEt) rfl rfl (λb7 _=>?_) (λb8 _=>?_)
 ·skip
  refine dBa ?_
  refine dQ 3 [[]] rfl (Qh rfl QdO rfl (λw1 h1=>c54 w1 _ _ [id] (h1.vl_blk aPk) (by simp) (by intro x hx;simp only[List.mem_cons,List.mem_nil_iff,or_false]at hx;rcases hx with rfl;omega))) (dQ 4 [[]] rfl (Qh rfl Qka rfl (λw1 h1=>c53m w1 2 mo rm a cap L (nmB [id]) (hs.later h1.nil) hB hkl h0 hkk hx0 hx)) (dP 5 ?_))
  refine dP 6 ?_
  refine dP 7 ?_
  refine dH 8 rfl (Xf rfl XU) (λb9 _=>dBa ?_)
  refine dSt 9 ?_ (hl:=(by simp only[Qb,List.length_set,List.length_cons,List.length_nil,List.length_map];omega))
  refine dTu [] ?_
  refine dP 10 ?_
  refine dNi ?_
  refine aU2 ?_
  refine Qi (L':=[(0,_),(5,_),(6,_),(7,_),(8,_),(9,_)]) aSx (λ_ h=>h) ?_
  refine aU4 ?_
  refine sCd rfl (λh10=>?_) λh10=>?_
  ·refine aU2 ?_
   refine o_p (Qw (cs:=[_,_,_,_,_,_]) rfl rfl YU Xq rfl) rfl (aU4 ?_)
   exact Qf (rs:=[.cell 6 28,.cell 7 34]) rfl (.cell rfl Xr aPk rfl (.cell1 rfl ZK aPk rfl (.nil))) (λw' h'=>⟨by rfl,h'.below⟩)
  exfalso;simp at h10
 skip
 refine dBa ?_
 refine dH 2 rfl (Qd (cs:=[_]) rfl rfl QD Ye rfl rfl rfl) (λb11 _=>dBa ?_)
 refine dQ 3 [[]] rfl (Qh rfl QdO rfl (λw1 h1=>c54 w1 _ _ [id] (h1.vl_blk aPk) (by simp) (by intro x hx;simp only[List.mem_cons,List.mem_nil_iff,or_false]at hx;rcases hx with rfl;omega))) (dQ 4 [[]] rfl (Qh rfl Qka rfl (λw1 h1=>c53m w1 2 mo rm a cap L (nmB [id]) (hs.later h1.nil) hB hkl h0 hkk hx0 hx)) (dP 5 ?_))
 refine dP 6 ?_
 refine dP 7 ?_
 refine dSt 9 ?_ (hl:=(by simp only[Qb,List.length_set,List.length_cons,List.length_nil,List.length_map];omega))
 refine dTu [] ?_
 refine dP 10 ?_
 refine dNi ?_
 refine aU2 ?_
 refine Qi (L':=[(0,_),(5,_),(6,_),(7,_),(8,_),(9,_)]) aSx (λ_ h=>h) ?_
 refine aU4 ?_
 refine sCd rfl (λh12=>?_) λh12=>?_
 ·refine aU2 ?_
  refine o_p (Qw (cs:=[_,_,_,_,_,_]) rfl rfl YU Xq rfl) rfl (aU4 ?_)
  exact Qf (rs:=[.cell 6 28,.cell 7 34]) rfl (.cell rfl Xr aPk rfl (.cell1 rfl ZK aPk rfl (.nil))) (λw' h'=>⟨by rfl,h'.below⟩)
 exfalso;simp at h12
theorem QlY:QE Tryz.prog 43=true:=by kernel_rfl
instance:TFn Tryz.prog 44:=⟨by kernel_rfl⟩
def fhE(a b c co:Int):Int:=if a=0 then if b=0 then if c=0 then if co=3 then 0 else 15 else c else b else a
theorem fh_1(a b:Int):QK [.int .i64 a,.int .i64 b]=if a=0 then b else a:=by
  by_cases h1:a=0<;>by_cases h2:b=0<;>simp[QK,h1,h2]
theorem fh_2(c co:Int):QK [.int .i64 c,.int .i64 (cond (decide (co=3)) 0 15)]=if c=0 then(if co=3 then 0 else 15)else c:=by
  by_cases h1:c=0<;>by_cases h2:co=3<;>simp[QK,h1,h2]
theorem Qrb{S:Type}{f:S->Option Int}{own:List UInt8}{l:List SItm}{s s':S}{b:Bool}(h:RunY (λs x s'=>f s'=if x.by_=own then some x.id else none) (λs=>(f s).isNone) s l s' b)(h0:f s=none):f s'=Qjc l own:=by
  induction h with
  | nil s=>rw[h0];rfl
  | @go s s' s'' x l b hst hc _ ih=>
    have h1:f s'=none:=by simpa using hc
    rw[h1]at hst;have h2:¬x.by_=own:=λe=>by rw[if_pos e]at hst;cases hst
    rw[ih h1];unfold Qjc;rw[List.find?_cons_of_neg (by simpa using h2)]
  | @stop s s' x l hst hc=>
    have h1:x.by_=own:=by
      by_cases e:x.by_=own
      · exact e
      · rw[if_neg e]at hst;rw[hst]at hc;cases hc
    rw[hst,if_pos h1];unfold Qjc;rw[List.find?_cons_of_pos (by simpa using h1)];rfl
set_option maxHeartbeats 4000000 in
theorem c8o(w:World)(q:List UInt8)(mo rm:Int)(a:Option Addr)(cap:Nat)(L:List LNd)(T:BT)(dp lo hi:Nat)(d:Dsc)(ea:Option Addr)(eac:Nat)(aa:Option Addr)(aac:Nat)(hm:q.length<=16384)(hs:Nt w [] a L)(hB:Bd (pln L))(hkl:∀i,i<L.length->∀x∈(nth L i).es,x.key.length<=1000000)(hse:Rw Ace.vals 4 w [] ea d.en)(hsa:Rw Ace.vals 4 w [] aa d.au)(hme:d.en.length<=100000)(hma:d.au.length<=100000)(hE0:XD q=0)(h0:(Q0 (⟨3,mo,rm,pln L⟩:Tre)).2=0)(hd0:(Q9 d).2=0)(hl2:L.length<=1000)(hBl:Bel lo hi dp T)(hN:NIn (pln L) T)(hT0:T.idx=0)(hf:T.flat.length<=10000)(hE:∀x∈T.flat,4<=x.key.length/\x.key.length<=1000000/\x.val.length<=100000):CR 8 #[.string (bs q),.agg #[.int .i64 3,.int .i64 mo,.int .i64 rm,.slice a L.length cap],.agg #[.int .i64 d.ow,.int .i64 d.gr,.bool d.pr,.bool d.he,.slice ea d.en.length eac,.slice aa d.au.length aac]] w (.tuple #[.int .i64 ((fbH q (QG d) T.flat).getD 0),.int .i64 (if(fbH q (QG d) T.flat).isSome=true then 0 else 6)]):=by
 obtain⟨hq1,hq2⟩:=Qky hE0
 have hF1:QK [.int .i64 (XD q),.int .i64 (Q0 (⟨3,mo,rm,pln L⟩:Tre)).2]=0:=by simp[QK,hE0,h0]
 have hF2:QK [.int .i64 (Q9 d).2,.int .i64 (cond (decide ((3:Int)=3)) 0 15)]=0:=by simp[QK,hd0]
 have hol:=Qc8 d
 obtain⟨_,⟨hen16,hau16⟩,_,_⟩:=Qbq hd0
 refine eN3 Tryz.func8 Tryz.ntmps8 ?_
 refine aU2 ?_
 refine oBx λb1 _=>?_
 refine oBx λb2 _=>?_
 refine oAl (λb3 _=>?_) Ye
 refine oAl (λb4 _=>?_) XK
 refine aU3 ?_
 refine Qp [] mixed ?_
 refine dP 0 ?_
 refine dQ 1 [] rfl (Qh rfl Qiu rfl (λw1 h1=>c39 w1 q om)) (dLn 2 [] ?_)
 refine dQ 3 [] rfl (Qh rfl Qiq rfl (λw1 h1=>c40 w1 3 mo rm a cap L (hs.later h1.nil) hB hkl)) (dH 4 rfl (Qd (cs:=[_,_]) rfl rfl Xn XK rfl rfl rfl) (λb5 _=>dBa ?_))
 refine dQ 5 [] rfl (Qh rfl Qa2 rfl (λw1 h1=>f38 h1 aPk (by rfl) (by rfl) (by decide))) (Qs (show _=Value.int .i64 0 from congrArg (Value.int .i64) hF1) (dP 6 ?_))
 refine dNi ?_
 refine aU5 ?_
 refine sCd rfl (λh6=>?_) λh6=>?_
 ·exfalso;simp at h6
 refine aU4 ?_
 refine oCq rfl (λw1 h1=>by have h9:=c41 w1 d ea eac aa aac (hse.later h1) (hsa.later h1) hme hma;rw[if_pos hd0]at h9;exact h9) (aU3 ?_)
 refine oAl (λb7 _=>?_) zr_9
 refine aU5 ?_
 refine Qp [] mixed ?_
 refine dP 0 ?_
 refine dFa 1 ?_
 refine dLd 2 [] ?_
 refine dQ 3 [] rfl (Qh rfl QlY rfl (λw1 h1=>c43 w1)) (dV 4 rfl (Qar rfl rfl QbW XB rfl) (dP 5 ?_))
 refine dQ 6 [] rfl (Qh rfl Z2 rfl (λw1 h1=>c42 w1 _ _)) (dH 7 rfl (Qd (cs:=[_,_]) rfl rfl Xn XK rfl rfl rfl) (λb8 _=>dBa ?_))
 refine dQ 8 [] rfl (Qh rfl Qa2 rfl (λw1 h1=>f38 h1 aPk (by rfl) (by rfl) (by decide))) (Qs (show _=Value.int .i64 0 from congrArg (Value.int .i64) hF2) (dP 9 ?_))
 refine dNi ?_
 refine aU ?_
 refine Qi (L':=[(0,_),(4,_),(6,_),(7,_),(9,_),(10,_)]) aSx (λ_ h=>h) ?_
 refine aU4 ?_
 refine sCd rfl (λh9=>?_) λh9=>?_
 ·exfalso;simp at h9
 refine aU4 ?_
 refine oCh rfl (λw1 h1=>c44o w1 3 mo rm a cap L T dp lo hi (hs.later h1.nil) hB hkl h0 hl2 hBl hN hT0 hf) (λ⟨xa,xc⟩_=>Qfd ?_)
 refine Qi (L':=[(0,_),(6,_),(7,_),(9,_),(47,_),(48,_),(49,_)]) aSx (λ_ h=>h) ?_
 refine QoR (α:=Nat×List Nat) [14,15,49,50,51,52,53,54,55,56,57,58,59,60,61,62,64,65,66,67,68,69,70] (λx=>[(49,.int .i64 (x.1:Int))]) (λx=>HS w [] [.star (x.2.map dfO),.blk b3 3 1 [.int .i64 ((none:Option Int).getD 0)],.blk b4 34 1 [.int .i64 0],.blk b1 24 4 [.int .i64 3,.int .i64 mo,.int .i64 rm,.slice a L.length cap],.blk b2 28 6 [.int .i64 d.ow,.int .i64 d.gr,.bool d.pr,.bool d.he,.slice ea d.en.length eac,.slice aa d.au.length aac],.blk b7 9 1 [.string (bs (QG d))],.own (.slice (xa,xc).1 T.flat.length (xa,xc).2) 50 2 T.flat.length (T.flat.flatMap TEnt.vals)]) (λx=>x.1<=T.flat.length/\fbH q (QG d) (T.flat.take x.1)=none) (λx=>T.flat.length-x.1) (λx=>x.2) (0,[]) ⟨Nat.zero_le _,rfl⟩ rfl aSx (λw h=>HS.star_close (Bs:=[]) (h.ent aEt)) (λ⟨k,ds⟩hk1=>?_)
 dsimp only at hk1 ⊢
 obtain⟨hk1,hk2⟩:=hk1
 refine aU5 ?_
 refine sCd rfl (λh10=>?_) λh10=>?_
 ·have hk:k<T.flat.length:=by omega
  obtain⟨hE1,hE2,hE3⟩:=hE _ (QX hk)
  refine Yr (λw h=>QcQ (a:=xa) (n:=T.flat.length) om h aPk) λhga=>?_
  obtain⟨gx,hgx,_⟩:=hga
  refine aU5 ?_
  refine o_p (Qa rfl rfl rfl Xg _ rfl om hgx) rfl (o_q (ZQ _ rfl rfl Z4 rfl (λw h=>QoB hk hgx h aPk)) rfl (oAl (λb11 _=>?_) XU))
  refine aU4 ?_
  refine Qp [] mixed ?_
  refine dFa 0 ?_
  refine dLd 1 [] ?_
  refine dQ 2 [] rfl (Qh rfl Qgj rfl (λw1 h1=>c45 w1 (nth T.flat k).key 0 om om)) (dLd 3 [] ?_)
  refine dQ 4 [] rfl (Qh rfl QjF rfl (λw1 h1=>c46 w1 (QG d) om)) (dP 5 ?_)
  refine dNi ?_
  refine sCd rfl (λh12=>?_) λh12=>?_
  ·have hst:=Qn8 hk hk2 (show fbE q (QG d) (nth T.flat k)=none from if_neg h12)
   refine Qj rfl ?_
   refine aT2 ?_
   refine aU2 ?_
   exact Qjn (k+1,ds) rfl rfl (by(try simp only[]);omega) ⟨by(try simp only[]);omega,hst⟩ aSx (λw h=>h.ent aEt)
  have hy:at4 (nth T.flat k).key 0=Xk (QG d):=by have hq:=h12;simpa using hq
  refine aU6 ?_
  refine oCh rfl (λw1 h1=>c47 w1 q (nth T.flat k).val) (λgL _=>aU2 ?_)
  refine Qfv (G:={s:(Option Int) // s=Qjc (Yp q (nth T.flat k).val) (QG d)}) (Bs:=λs=>[.blk b3 3 1 [.int .i64 (s.1.getD 0)],.blk b4 34 1 [.int .i64 0],.blk b1 24 4 [.int .i64 3,.int .i64 mo,.int .i64 rm,.slice a L.length cap],.blk b2 28 6 [.int .i64 d.ow,.int .i64 d.gr,.bool d.pr,.bool d.he,.slice ea d.en.length eac,.slice aa d.au.length aac],.blk b7 9 1 [.string (bs (QG d))],.own (.slice (xa,xc).1 T.flat.length (xa,xc).2) 50 2 T.flat.length (T.flat.flatMap TEnt.vals),.blk b11 50 2 [.string (bs (nth T.flat k).key),.string (bs (nth T.flat k).val)],.blk gL.1 9 1 [.string (bs (nth T.flat k).val)],.blk gL.2 9 1 [.string (bs q)],.star (ds.map dfO)]) (on:=λs=>s.1.isNone) rfl rfl QnW (λfid D l a9 w1 ob hob ha9 hw1=>?_) (λD x hon=>?_) (λD x hon=>?_)
  ·skip
   have h2:HS w [] ((λs:(Option Int)=>.star [.obj l (cond s.isNone ob (Qgn ob)),.obj D (.deferred (some [])),.blk b3 3 1 [.int .i64 (s.getD 0)],.blk b4 34 1 [.int .i64 0]]) none::[.blk b1 24 4 [.int .i64 3,.int .i64 mo,.int .i64 rm,.slice a L.length cap],.blk b2 28 6 [.int .i64 d.ow,.int .i64 d.gr,.bool d.pr,.bool d.he,.slice ea d.en.length eac,.slice aa d.au.length aac],.blk b7 9 1 [.string (bs (QG d))],.own (.slice (xa,xc).1 T.flat.length (xa,xc).2) 50 2 T.flat.length (T.flat.flatMap TEnt.vals),.blk b11 50 2 [.string (bs (nth T.flat k).key),.string (bs (nth T.flat k).val)],.blk gL.1 9 1 [.string (bs (nth T.flat k).val)],.blk gL.2 9 1 [.string (bs q)],.star (ds.map dfO)]) w1:=HS.star_close (Bs:=[_,_,_,_]) (hw1.ent aEt)
   have q9:=h2.rd_blkF QaI (b:=b7) (i:=0) aPk rfl
   have qv:=h2.rd_blkF QaI (b:=gL.1) (i:=0) aPk rfl
   have qs:=h2.rd_blkF QaI (b:=gL.2) (i:=0) aPk rfl
   refine Calls.mono (c92 w1 (Option Int) (λs=>s=none) (λs:(Option Int)=>.star [.obj l (cond s.isNone ob (Qgn ob)),.obj D (.deferred (some [])),.blk b3 3 1 [.int .i64 (s.getD 0)],.blk b4 34 1 [.int .i64 0]]) (λs x s3=>s3=if x.by_=(QG d)then some x.id else none) (λs=>s.isNone) (λx=>x.by_.length<=1000000) l q (nth T.flat k).val gL.1 gL.2 none (HS.focus (Cs:=[_]) h2) ?_ qv qs hm om hE3 (λx hx=>by have:=Qg3 om x hx;omega) rfl) λe w2 hx=>?_
   rotate_left
   ·obtain⟨⟨sm,bm⟩,he,hr,h5⟩:=hx
    refine⟨⟨_,he⟩,⟨sm,Qrb (f:=λs:(Option Int)=>s) hr rfl⟩,?_⟩
    have h6:=HS.star_open (HS.callA h2 h5)
    subst hob
    cases sm<;>exact h6.ent aEt
   intro s2 x w3 h3 hI2 hQx
   have h4:=HS.star_open (HS.focus (Cs:=[_]) (Ds:=[]) h3)
   have r9:=h3.keep q9
   subst hob
   obtain rfl:s2=none:=hI2
   dsimp only[cond,Option.isNone]at h4 r9 ⊢
   refine QcH (α:=Nat) (fn:=Tryz.f8) (As1:=λb15=>.obj D (.deferred (some []))::[.blk b3 3 1 [.int .i64 ((none:Option Int).getD 0)],.blk b4 34 1 [.int .i64 0],.blk b15 72 2 (SItm.vals x)]) (L1:=λb15=>[(15,.pointer (some ⟨b15,0,none⟩)),(6,.pointer (some ⟨b3,0,none⟩)),(7,.pointer (some ⟨b4,0,none⟩)),(9,.pointer (some ⟨b7,0,none⟩))]) h4 rfl (FR.round1 ha9 63 _ rfl) ?_ ?_
   ·skip
    refine aU ?_
    refine oAl (λb13 _=>?_) Yq
    refine aU2 ?_
    exact Qck b13 aSx (λw h=>h.ent aEt)
   skip
   intro b15
   refine aU5 ?_
   refine o_q (Qc rfl rfl ZR (r9)) rfl (aU2 ?_)
   refine sCd rfl (λh14=>?_) λh14=>?_
   ·have hxb:x.by_=(QG d):=h14
    refine aU7 ?_
    exact Qfi rfl aPk (λw h=>⟨(some x.id),rfl,⟨(if_pos hxb).symm,λh=>by cases h⟩,by refine HS.star_close (Bs:=[_,_,_,_]) ?_;exact h.ent aEt⟩)
   have hxb:¬x.by_=(QG d):=h14
   refine aU2 ?_
   exact QdC rfl aPk (λw h=>⟨none,rfl,⟨(if_neg hxb).symm,λ_=>rfl⟩,by refine HS.star_close (Bs:=[_,_,_,_]) ?_;exact h.ent aEt⟩)
  ·skip
   obtain⟨o9,ho9⟩:=x
   obtain rfl:o9=none:=by cases o9;rfl;cases hon
   dsimp only at ho9 ⊢
   have hst:=Qn8 hk hk2 (show fbE q (QG d) (nth T.flat k)=none from by unfold fbE;rw[if_pos hy];exact ho9.symm)
   refine QpC (ds:=ds) aPk ?_
   refine aT4 ?_
   refine aU2 ?_
   exact Qjn (k+1,D::ds) rfl rfl (by(try simp only[]);omega) ⟨by(try simp only[]);omega,hst⟩ aSx (λw h=>h.ent aEt)
  skip
  obtain⟨o9,ho9⟩:=x
  obtain⟨b9,rfl⟩:∃b,o9=some b:=by cases o9;cases hon;exact⟨_,rfl⟩
  dsimp only at ho9 ⊢
  have hR:=Qp7 hk hk2 (show fbE q (QG d) (nth T.flat k)=some b9 from by unfold fbE;rw[if_pos hy];exact ho9.symm)
  refine QpC (ds:=ds) aPk ?_
  exact Ql3 (rs:=[.cell 6 3,.cell 7 34]) rfl aPk (.cell1 rfl XB aPk rfl (.cell1 rfl ZK aPk rfl (.nil))) (λw' h'=>⟨by rw[hR];rfl,h'.below⟩)
 obtain rfl:k=T.flat.length:=om
 have hR:(fbH q (QG d) T.flat)=none:=by rw[List.take_length]at hk2;exact hk2
 refine Qj rfl ?_
 refine aU5 ?_
 exact Ql3 (rs:=[.cell 6 3,.cell 7 34]) rfl aPk (.cell1 rfl XB aPk rfl (.cell1 rfl ZK aPk rfl (.nil))) (λw' h'=>⟨by rw[hR];rfl,h'.below⟩)
theorem c8e(w:World)(q:List UInt8)(co mo rm:Int)(a:Option Addr)(cap:Nat)(L:List LNd)(d:Dsc)(ea:Option Addr)(eac:Nat)(aa:Option Addr)(aac:Nat)(hm:q.length<=16384)(hs:Nt w [] a L)(hB:Bd (pln L))(hkl:∀i,i<L.length->∀x∈(nth L i).es,x.key.length<=1000000)(hse:Rw Ace.vals 4 w [] ea d.en)(hsa:Rw Ace.vals 4 w [] aa d.au)(hme:d.en.length<=100000)(hma:d.au.length<=100000)(he:¬(fhE (XD q) (Q0 (⟨co,mo,rm,pln L⟩:Tre)).2 (Q9 d).2 co)=0):CR 8 #[.string (bs q),.agg #[.int .i64 co,.int .i64 mo,.int .i64 rm,.slice a L.length cap],.agg #[.int .i64 d.ow,.int .i64 d.gr,.bool d.pr,.bool d.he,.slice ea d.en.length eac,.slice aa d.au.length aac]] w (.tuple #[.int .i64 0,.int .i64 (fhE (XD q) (Q0 (⟨co,mo,rm,pln L⟩:Tre)).2 (Q9 d).2 co)]):=by
 have hF1:=fh_1 (XD q) (Q0 (⟨co,mo,rm,pln L⟩:Tre)).2
 have hF2:=fh_2 (Q9 d).2 co
 refine eN3 Tryz.func8 Tryz.ntmps8 ?_
 refine aU2 ?_
 refine oBx λb1 _=>?_
 refine oBx λb2 _=>?_
 refine oAl (λb3 _=>?_) Ye
 refine oAl (λb4 _=>?_) XK
 refine aU3 ?_
 refine Qp [] mixed ?_
 refine dP 0 ?_
 refine dQ 1 [] rfl (Qh rfl Qiu rfl (λw1 h1=>c39 w1 q om)) (dLn 2 [] ?_)
 refine dQ 3 [] rfl (Qh rfl Qiq rfl (λw1 h1=>c40 w1 co mo rm a cap L (hs.later h1.nil) hB hkl)) (dH 4 rfl (Qd (cs:=[_,_]) rfl rfl Xn XK rfl rfl rfl) (λb5 _=>dBa ?_))
 refine dQ 5 [] rfl (Qh rfl Qa2 rfl (λw1 h1=>f38 h1 aPk (by rfl) (by rfl) (by decide))) (Qs (show _=Value.int .i64 (if XD q=0 then(Q0 (⟨co,mo,rm,pln L⟩:Tre)).2 else XD q)from congrArg (Value.int .i64) hF1) (dP 6 ?_))
 refine dNi ?_
 refine aU5 ?_
 refine sCd rfl (λh6=>?_) λh6=>?_
 ·have hR:(if XD q=0 then(Q0 (⟨co,mo,rm,pln L⟩:Tre)).2 else XD q)=(fhE (XD q) (Q0 (⟨co,mo,rm,pln L⟩:Tre)).2 (Q9 d).2 co):=by have hq:=h6;unfold fhE;grind
  refine aU6 ?_
  exact Qf (rs:=[.cell 6 3,.cell 7 34]) rfl (.cell1 rfl XB aPk rfl (.cell1 rfl ZK aPk rfl (.nil))) (λw' h'=>⟨by rw[hR];rfl,h'.below⟩)
 have hz:(if XD q=0 then(Q0 (⟨co,mo,rm,pln L⟩:Tre)).2 else XD q)=0:=by have hq:=h6;simpa using hq
 refine aU4 ?_
 refine oCq rfl (λw1 h1=>c41 w1 d ea eac aa aac (hse.later h1) (hsa.later h1) hme hma) (aU3 ?_)
 refine oAl (λb7 _=>?_) zr_9
 refine aU5 ?_
 refine Qp [] mixed ?_
 refine dP 0 ?_
 refine dFa 1 ?_
 refine dLd 2 [] ?_
 refine dQ 3 [] rfl (Qh rfl QlY rfl (λw1 h1=>c43 w1)) (dV 4 rfl (Qar rfl rfl QbW XB rfl) (dP 5 ?_))
 refine dQ 6 [] rfl (Qh rfl Z2 rfl (λw1 h1=>c42 w1 _ _)) (dH 7 rfl (Qd (cs:=[_,_]) rfl rfl Xn XK rfl rfl rfl) (λb8 _=>dBa ?_))
 refine dQ 8 [] rfl (Qh rfl Qa2 rfl (λw1 h1=>f38 h1 aPk (by rfl) (by rfl) (by decide))) (Qs (show _=Value.int .i64 (if(Q9 d).2=0 then(if co=3 then 0 else 15)else(Q9 d).2)from congrArg (Value.int .i64) hF2) (dP 9 ?_))
 refine dNi ?_
 refine aU ?_
 refine Qi (L':=[(0,_),(4,_),(6,_),(7,_),(9,_),(10,_)]) aSx (λ_ h=>h) ?_
 refine aU4 ?_
 refine sCd rfl (λh9=>?_) λh9=>?_
 ·have hR:(if(Q9 d).2=0 then(if co=3 then 0 else 15)else(Q9 d).2)=(fhE (XD q) (Q0 (⟨co,mo,rm,pln L⟩:Tre)).2 (Q9 d).2 co):=by unfold fhE;grind
  refine aU6 ?_
  exact Qf (rs:=[.cell 6 3,.cell 7 34]) rfl (.cell1 rfl XB aPk rfl (.cell1 rfl ZK aPk rfl (.nil))) (λw' h'=>⟨by rw[hR];rfl,h'.below⟩)
 exfalso;exact he (by have hq:=h9;unfold fhE;grind)
theorem QoH{n:Int}(h:0<=n/\n<=2147483647):ZA (2:Int) (nmB [n])=0:=by
  have hk:Q3 (2:Int) (nmB [n])=true:=by
    have e1:at4 (nmB [n]) 0=n:=(Qa9 (x:=⟨n,[]⟩) (by show 0<=n/\n<4294967296;omega)).1;show(decide ((nmB [n]).length=4)&&Qaq _ 0)=true;unfold Qaq;rw[e1,XT];simp;omega
  unfold ZA;rw[hk];rfl
theorem Qo4{ns:List Nd}(h:Z8 ns=true)(i j:Nat):(nth (nth ns i).es j).val.length<=70:=by
  rcases Nat.lt_or_ge i ns.length with hi|hi
  · rcases Nat.lt_or_ge j (nth ns i).es.length with hj|hj
    · exact((QaN h hi).2.2 _ (QX hj)).2
    · rw[QbG hj];exact Nat.zero_le _
  · rw[QbG hi];exact Nat.zero_le _
theorem QrC{a b c co:Int}(h:fhE a b c co=0):a=0/\b=0/\c=0/\co=3:=by unfold fhE at h;grind
theorem QqQ{a b co id:Int}(h:Zj a b co id=0):a=0/\b=0/\co=2/\0<=id/\id<=2147483647:=by unfold Zj at h;grind
theorem QrT{L:List LNd}{T:BT}{co:Int}{lo hi rt d:Nat}(hco:co=3)(hV:VT co lo hi rt d T):∀x∈T.flat,4<=x.key.length/\x.key.length<=1000000/\x.val.length<=100000:=λx hx=>by
  have h7:=hV.ents x hx;subst hco;have h6:Q3 (3:Int) x.key=true/\x.val.length<=64:=by grind[Yu,ZA]
  have h5:x.key.length=8:=by have h4:=h6.1;unfold Q3 at h4;simp at h4;exact h4.1
  exact⟨om,om,om⟩
theorem Qn4{L:List LNd}{T:BT}{t:Tre}(hfw:Z8 (pln L)=true)(ht:t.ns=pln L)(h0:(Q0 t).2=0)(hR:Q5 (pln L) T):T.flat.length<=10000:=by
  have h9:=hR.flat_len (m:=10) (λi hi=>(QaN hfw hi).1);have h8:=(Qcy h0).2.2.2.1;rw[ht]at h8;omega
theorem c8w(w:World)(q:List UInt8)(co mo rm:Int)(a:Option Addr)(cap:Nat)(L:List LNd)(T:BT)(d:Dsc)(ea:Option Addr)(eac:Nat)(aa:Option Addr)(aac:Nat)(hm:q.length<=16384)(hs:Nt w [] a L)(hfw:Z8 (pln L)=true)(hse:Rw Ace.vals 4 w [] ea d.en)(hsa:Rw Ace.vals 4 w [] aa d.au)(hme:d.en.length<=100000)(hma:d.au.length<=100000)(hT:(Q0 (⟨co,mo,rm,pln L⟩:Tre)).2=0->∃d lo hi rt,Q5 (pln L) T/\VT co lo hi rt d T/\Xw (pln L)):CR 8 #[.string (bs q),.agg #[.int .i64 co,.int .i64 mo,.int .i64 rm,.slice a L.length cap],.agg #[.int .i64 d.ow,.int .i64 d.gr,.bool d.pr,.bool d.he,.slice ea d.en.length eac,.slice aa d.au.length aac]] w (.tuple #[.int .i64 (if(fhE (XD q) (Q0 (⟨co,mo,rm,pln L⟩:Tre)).2 (Q9 d).2 co)=0 then(fbH q (QG d) T.flat).getD 0 else 0),.int .i64 (if(fhE (XD q) (Q0 (⟨co,mo,rm,pln L⟩:Tre)).2 (Q9 d).2 co)=0 then(if(fbH q (QG d) T.flat).isSome=true then 0 else 6)else(fhE (XD q) (Q0 (⟨co,mo,rm,pln L⟩:Tre)).2 (Q9 d).2 co))]):=by
  have hB:=Qd6 hfw;have hkl:=Qf7 hfw
  by_cases he:(fhE (XD q) (Q0 (⟨co,mo,rm,pln L⟩:Tre)).2 (Q9 d).2 co)=0
  · obtain⟨hE0,h0,hd0,rfl⟩:=QrC he;obtain⟨d9,lo,hi,rt,hR,hV,hU⟩:=hT h0;have hl2:L.length<=1000:=by have h9:=hB.len;rw[Qg]at h9;exact h9
    rw[if_pos he,if_pos he];exact c8o w q mo rm a cap L T d9 _ _ d ea eac aa aac hm hs hB hkl hse hsa hme hma hE0 h0 hd0 hl2 hV.bel hR.nin hV.idx (Qn4 hfw rfl h0 hR) (QrT (L:=L) rfl hV)
  · rw[if_neg he,if_neg he];exact c8e w q co mo rm a cap L d ea eac aa aac hm hs hB hkl hse hsa hme hma he
def fiO(q:List UInt8)(ns:List Nd)(id:Int):Option (List UInt8):=if(Qr (2:Int) ns (nmB [id])).2.2=true then ZZ (Yp q (XV (2:Int) ns (nmB [id])).val) id else none
theorem c11w(w:World)(q:List UInt8)(co mo rm:Int)(a:Option Addr)(cap:Nat)(L:List LNd)(id:Int)(hm:q.length<=16384)(hs:Nt w [] a L)(hfw:Z8 (pln L)=true):CE 11 #[.string (bs q),.agg #[.int .i64 co,.int .i64 mo,.int .i64 rm,.slice a L.length cap],.int .i64 id] w [] (λg:(Option Addr×Nat)×(Option Addr×Nat)=>.tuple #[.agg #[.int .i64 (if(Zj (XD q) (Q0 (⟨co,mo,rm,pln L⟩:Tre)).2 co id)=0 then fiD (fiO q (pln L) id)else noD).ow,.int .i64 (if(Zj (XD q) (Q0 (⟨co,mo,rm,pln L⟩:Tre)).2 co id)=0 then fiD (fiO q (pln L) id)else noD).gr,.bool (if(Zj (XD q) (Q0 (⟨co,mo,rm,pln L⟩:Tre)).2 co id)=0 then fiD (fiO q (pln L) id)else noD).pr,.bool (if(Zj (XD q) (Q0 (⟨co,mo,rm,pln L⟩:Tre)).2 co id)=0 then fiD (fiO q (pln L) id)else noD).he,.slice g.1.1 (if(Zj (XD q) (Q0 (⟨co,mo,rm,pln L⟩:Tre)).2 co id)=0 then fiD (fiO q (pln L) id)else noD).en.length g.1.2,.slice g.2.1 (if(Zj (XD q) (Q0 (⟨co,mo,rm,pln L⟩:Tre)).2 co id)=0 then fiD (fiO q (pln L) id)else noD).au.length g.2.2],.int .i64 (if(Zj (XD q) (Q0 (⟨co,mo,rm,pln L⟩:Tre)).2 co id)=0 then(if((Qr (2:Int) (pln L) (nmB [id])).2.2=true)then fiE (fiO q (pln L) id) 31 else 6)else(Zj (XD q) (Q0 (⟨co,mo,rm,pln L⟩:Tre)).2 co id))]) (λg=>True) λg=>[.own (.slice g.1.1 (if(Zj (XD q) (Q0 (⟨co,mo,rm,pln L⟩:Tre)).2 co id)=0 then fiD (fiO q (pln L) id)else noD).en.length g.1.2) 119 4 (if(Zj (XD q) (Q0 (⟨co,mo,rm,pln L⟩:Tre)).2 co id)=0 then fiD (fiO q (pln L) id)else noD).en.length ((if(Zj (XD q) (Q0 (⟨co,mo,rm,pln L⟩:Tre)).2 co id)=0 then fiD (fiO q (pln L) id)else noD).en.flatMap Ace.vals),.own (.slice g.2.1 (if(Zj (XD q) (Q0 (⟨co,mo,rm,pln L⟩:Tre)).2 co id)=0 then fiD (fiO q (pln L) id)else noD).au.length g.2.2) 119 4 (if(Zj (XD q) (Q0 (⟨co,mo,rm,pln L⟩:Tre)).2 co id)=0 then fiD (fiO q (pln L) id)else noD).au.length ((if(Zj (XD q) (Q0 (⟨co,mo,rm,pln L⟩:Tre)).2 co id)=0 then fiD (fiO q (pln L) id)else noD).au.flatMap Ace.vals)]:=by
  have hB:=Qd6 hfw;have hkl:=Qf7 hfw;have nil:∀{w':World},Below w.heap.size w w'->HS w [] [.own (.slice none 0 0) 119 4 0 [],.own (.slice none 0 0) 119 4 0 []] w':=λh=>((HS.of_below h).own_nil 119 4).own_nil 119 4
  by_cases he:(Zj (XD q) (Q0 (⟨co,mo,rm,pln L⟩:Tre)).2 co id)=0
  · obtain⟨hE0,h0,rfl,h4,h5⟩:=QqQ he;have hx0:=QoH ⟨h4,h5⟩;rw[if_pos he,if_pos he]
    by_cases hx:((Qr (2:Int) (pln L) (nmB [id])).2.2=true)
    · rw[if_pos hx,show(fiO q (pln L) id)=ZZ (Yp q (XV (2:Int) (pln L) (nmB [id])).val) id from if_pos hx];exact c11o w q mo rm a cap L id hm hs hB hkl hE0 h0 ⟨h4,h5⟩ hx0 hx (Nat.le_trans (Qo4 hfw _ _) (by decide))
    · rw[if_neg hx,show(fiO q (pln L) id)=none from if_neg hx];refine(c11m w q mo rm a cap L id hm hs hB hkl hE0 h0 ⟨h4,h5⟩ hx0 hx).mono λen w' h=>?_;exact⟨((none,0),(none,0)),h.1,trivial,nil h.2⟩
  · rw[if_neg he,if_neg he];refine(c11e w q co mo rm a cap L id hm hs hB hkl he).mono λen w' h=>?_;exact⟨((none,0),(none,0)),h.1,trivial,nil h.2⟩
theorem Qru:QE Tryz.prog 86=true:=by kernel_rfl
theorem QrJ:QE Tryz.prog 95=true:=by kernel_rfl
instance:TFd Tryz.prog 96 1 1 94:=⟨by kernel_rfl⟩
instance:TSz Tryz.prog 94 1 false:=⟨by kernel_rfl⟩
theorem Qnr:QE Tryz.prog 130=true:=by kernel_rfl
theorem QiQ:QE Tryz.prog 129=true:=by kernel_rfl
theorem QpI:QE Tryz.prog 79=true:=by kernel_rfl
theorem Qoz(a b:Ace):eqC (Ace.vals a) (Ace.vals b)=some (decide (a=b)):=by
  have e:∀s t:Int,eq1 (.int .i64 s) (.int .i64 t)=some (decide (s=t)):=λs t=>by simp[eq1]
  obtain⟨x0,x1,x2,x3⟩:=a;obtain⟨y0,y1,y2,y3⟩:=b;simp only[Ace.vals,eqC,e];congr 1;rw[Bool.and_true,<-Bool.decide_and,<-Bool.decide_and,<-Bool.decide_and];exact decide_eq_decide.2 (by simp)
theorem Qoq{α:Type}[Inhabited α]{l m:List α}(h:l.length=m.length)(h2:∀i,i<l.length->nth l i=nth m i):l=m:=by
  refine List.ext_getElem? λi=>?_;rcases Nat.lt_or_ge i l.length with hi|hi
  · rw[QB hi,QB om,h2 i hi]
  · rw[List.getElem?_eq_none hi,List.getElem?_eq_none om]
theorem Qoi(d m:Dsc):decide (d=m)=(decide (d.ow=m.ow)&&(decide (d.gr=m.gr)&&(decide (d.pr=m.pr)&&(decide (d.he=m.he)&&(decide (d.en=m.en)&&decide (d.au=m.au)))))):=by
  obtain⟨x0,x1,x2,x3,x4,x5⟩:=d;obtain⟨y0,y1,y2,y3,y4,y5⟩:=m;simp only[<-Bool.decide_and];exact decide_eq_decide.2 (by simp)
theorem c64g(w:World)(a:Option Addr)(cap:Nat)(a2:Option Addr)(cap2:Nat)(l m:List Ace)(hs:Rw Ace.vals 4 w [] a l)(hs2:Rw Ace.vals 4 w [] a2 m)(hm:l.length<=1000000)(hm2:m.length<=1000000):CR 64 #[.slice a l.length cap,.slice a2 m.length cap2] w (.bool (decide (l=m))):=by
 refine eN2 Tryz.func64 Tryz.ntmps64 ?_
 refine Qak ?_
 refine sCd rfl (λh1=>?_) λh1=>?_
 ·have hR:decide (l=m)=false:=decide_eq_false (λe=>by have h9:=congrArg List.length e;have hq:=h1;omega)
  refine aU4 ?_
  exact rV (h:=by rw[hR];rfl)
 have hlm:l.length=m.length:=by have hq:=h1;omega
 refine aU7 ?_
 refine Qt (α:=Nat) [4,5,11,12,13,14,15,16,17,18,19,20,21,22,23,24,25] (λk=>[(5,.int .i64 (k:Int))]) (λ_=>_) (λk=>k<=l.length/\∀i,i<k->nth l i=nth m i) (λk=>l.length-k) 0 ⟨Nat.zero_le _,λi h=>absurd h (Nat.not_lt_zero i)⟩ aSx (λw h=>h) (λk hk1=>?_)
 obtain⟨hk1,hk2⟩:=hk1
 refine aU8 ?_
 refine sCd rfl (λh2=>?_) λh2=>?_
 ·have hk:k<l.length:=by omega
  have hk9:k<m.length:=om
  refine aU4 ?_
  refine Qp [] mixed ?_
  refine dP 0 ?_
  refine dP 1 ?_
  refine dV 2 rfl (Qa rfl rfl rfl X0 (k) om om (Rw.some hs om)) (dQ 3 [] rfl (Qm _ rfl rfl Qag rfl (Rw.rd hs hk)) (dP 4 ?_))
  refine dP 5 ?_
  refine dV 6 rfl (Qa rfl rfl rfl X0 (k) om om (Rw.some hs2 om)) (dQ 7 [] rfl (Qm _ rfl rfl Qag rfl (Rw.rd hs2 hk9)) (dV 8 rfl (Qgb rfl rfl rfl QjQ (by rfl) (by rfl) (by rfl)) (Qs (show _=Value.bool (!decide (nth l k=nth m k))from by have h9:=Qoz (nth l k) (nth m k);exact congrArg (λb=>Value.bool (!b)) (Option.some.inj h9)) (dNi ?_))))
  refine sCd rfl (λh3=>?_) λh3=>?_
  ·have hne:¬nth l k=nth m k:=by have hq:=h3;simpa using hq
   have hR:decide (l=m)=false:=decide_eq_false (λe=>hne (by rw[e]))
   refine aU4 ?_
   exact rV (h:=by rw[hR];rfl)
  have he:nth l k=nth m k:=by have hq:=h3;simpa using hq
  refine aT5 ?_
  refine aU2 ?_
  exact QQ (k+1) om ⟨om,λi hi=>(Nat.lt_or_ge i k).elim (hk2 i) (λh=>(by have e:i=k:=om;rw[e];exact he))⟩ aSx (λw h=>h)
 have hR:decide (l=m)=true:=decide_eq_true (Qoq hlm (λi hi=>hk2 i om))
 refine Qj rfl ?_
 refine aU4 ?_
 exact rV (h:=by rw[hR];rfl)
theorem c18g(w:World)(d:Dsc)(e1:Option Addr)(ec1:Nat)(u1:Option Addr)(uc1:Nat)(m:Dsc)(e2:Option Addr)(ec2:Nat)(u2:Option Addr)(uc2:Nat)(he1:Rw Ace.vals 4 w [] e1 d.en)(hu1:Rw Ace.vals 4 w [] u1 d.au)(he2:Rw Ace.vals 4 w [] e2 m.en)(hu2:Rw Ace.vals 4 w [] u2 m.au)(hme:d.en.length<=1000000)(hma:d.au.length<=1000000)(hme2:m.en.length<=1000000)(hma2:m.au.length<=1000000):CR 18 #[.agg #[.int .i64 d.ow,.int .i64 d.gr,.bool d.pr,.bool d.he,.slice e1 d.en.length ec1,.slice u1 d.au.length uc1],.agg #[.int .i64 m.ow,.int .i64 m.gr,.bool m.pr,.bool m.he,.slice e2 m.en.length ec2,.slice u2 m.au.length uc2]] w (.bool (decide (d=m))):=by
 refine eN2 Tryz.func18 Tryz.ntmps18 ?_
 refine aU2 ?_
 refine oBx λb1 _=>?_
 refine oBx λb2 _=>?_
 refine Zn ?_
 refine XH 6 10 16 rfl
  (λhg3 _=>by
   refine Zn ?_
   exact oJt 6 16)
  (λhg5 _=>by
   refine aU5 ?_
   exact oJf 6 16) ?_
 refine aU ?_
 refine XH 6 17 23 rfl
  (λhg7 _=>by
   refine aU9 ?_
   refine o_p (ZE rfl rfl rfl Tryz.underlying4) rfl ?_
   exact oJt 6 23)
  (λhg9 _=>by
   refine aU5 ?_
   exact oJf 6 23) ?_
 refine aU ?_
 refine XH 6 24 30 rfl
  (λhg11 _=>by
   refine aU9 ?_
   refine o_p (ZE rfl rfl rfl Tryz.underlying4) rfl ?_
   exact oJt 6 30)
  (λhg13 _=>by
   refine aU5 ?_
   exact oJf 6 30) ?_
 refine aU ?_
 refine XH 6 31 37 rfl
  (λhg15 _=>by
   refine aU9 ?_
   refine oCq rfl (λw1 h1=>c64g w1 e1 ec1 e2 ec2 d.en m.en (he1.later h1) (he2.later h1) hme hme2) ?_
   exact oJt 6 37)
  (λhg17 _=>by
   refine aU5 ?_
   exact oJf 6 37) ?_
 refine aU ?_
 refine XH 6 38 44 rfl
  (λhg19 _=>by
   refine aU9 ?_
   refine oCq rfl (λw1 h1=>c64g w1 u1 uc1 u2 uc2 d.au m.au (hu1.later h1) (hu2.later h1) hma hma2) ?_
   exact oJt 6 44)
  (λhg21 _=>by
   refine aU5 ?_
   exact oJf 6 44) ?_
 refine aU2 ?_
 exact rV (h:=by rw[Qoi];by_cases g1:d.ow=m.ow<;>by_cases g2:d.gr=m.gr<;>by_cases g3:d.pr=m.pr<;>by_cases g4:d.he=m.he<;>by_cases g5:d.en=m.en<;>simp[QR,g1,g2,g3,g4,g5])
theorem c86(w:World)(x:SItm)(hi:0<=x.id/\x.id<4294967296)(hb:x.by_.length<=100000):CR 86 #[.agg #[.int .i64 x.id,.string (bs x.by_)]] w (.string (bs (Zp 3 x))):=by
 have hh:=Qbw x.by_
 refine eN1 Tryz.func86 Tryz.ntmps86 ?_
 refine aU2 ?_
 refine oBx λb1 _=>?_
 refine aU3 ?_
 refine Qp [] mixed ?_
 refine dFa 0 ?_
 refine dLd 1 [] ?_
 refine dQ 2 [] rfl (Qh rfl QjF rfl (λw1 h1=>c46 w1 x.by_ om)) (dFa 3 ?_)
 refine dLd 4 [] ?_
 refine dH 5 rfl (Qd (cs:=[_,_]) rfl rfl QD Ye rfl rfl rfl) (λb2 _=>dBa ?_)
 refine dQ 6 [] rfl (Qh rfl QdO rfl (λw1 h1=>c54 w1 _ _ [Xk x.by_,x.id] (h1.vl_blk aPk) (by simp) (by intro x hx;simp only[List.mem_cons,List.mem_nil_iff,or_false]at hx;rcases hx with rfl|rfl<;>omega))) (dP 7 ?_)
 refine dNi ?_
 exact rV
theorem c95(w:World)(x:SItm)(hi:0<=x.id/\x.id<4294967296)(hb:x.by_.length<=100000):CR 95 #[.agg #[.int .i64 x.id,.string (bs x.by_)]] w (.string (bs (Zp 2 x))):=by
 refine eN1 Tryz.func95 Tryz.ntmps95 ?_
 refine aU2 ?_
 refine oBx λb1 _=>?_
 refine aU6 ?_
 refine o_h (Qd (cs:=[_]) rfl rfl QD Ye rfl rfl rfl) rfl (λb2 _=>?_)
 refine oCq rfl (λw1 h1=>c54 w1 _ _ [x.id] (h1.vl_blk aPk) (by simp) (by intro x hx;simp only[List.mem_cons,List.mem_nil_iff,or_false]at hx;rcases hx with rfl<;>omega)) (aU2 ?_)
 exact rV
set_option maxHeartbeats 2000000 in
theorem c130(w:World)(co q:Nat)(nx:Int)(a:Option Addr)(cap:Nat)(l:List SItm)(hs:Rw SItm.vals 2 w [] a l)(hm:l.length<=100000)(hb:∀x∈l,x.by_.length<=100000)(hst0:(QO nx l).2=0)(hq:QE Tryz.prog q=true)(hc:∀(w1:World)(x:SItm),(0<=x.id/\x.id<4294967296)->x.by_.length<=100000->Calls Tryz.prog q (#[]++[.agg #[.int .i64 x.id,.string (bs x.by_)]].toArray++ #[]) w1 λen w2=>en=.returned (.string (bs (Zp co x)))/\Below w1.heap.size w1 w2):CE 130 #[.agg #[.int .i64 (co:Int),.func (.func q) #[] #[]],.agg #[.int .i64 nx,.slice a l.length cap]] w [] (λg:Option Addr×Nat=>.slice g.1 (Q7 co l).length g.2) (λg=>True) λg=>[.own (.slice g.1 ((Q7 co l)).length g.2) 50 2 ((Q7 co l)).length (((Q7 co l)).flatMap TEnt.vals)]:=by
 obtain⟨hnx,hl60,hit9,hpl9⟩:=XR hst0
 refine eN2 Tryz.func130 Tryz.ntmps130 ?_
 refine aU2 ?_
 refine oBx λb1 _=>?_
 refine oBx λb2 _=>?_
 refine aU6 ?_
 refine oCh rfl (λw1 h1=>c70 w1 a cap l (hs.later h1) hm hb) (λ⟨pa,pc⟩_=>Qrm ?_)
 refine Qi (L':=[(2,_),(4,_),(5,_),(7,_),(17,_),(18,_),(19,_)]) aSx (λ_ h=>h) ?_
 refine Qt (α:=Nat×Option Addr×Nat) [7,8,9,19,20,21,22,23,24,25,26,27,28,29,30,31,32,33,34,35,36,37,38,39,40,41,42] (λy=>[(19,.int .i64 (y.1:Int)),(7,.slice y.2.1 ((Q7 co l).take y.1).length y.2.2)]) (λy=>HS w [] [.own (.slice y.2.1 (((Q7 co l).take y.1)).length y.2.2) 50 2 (((Q7 co l).take y.1)).length ((((Q7 co l).take y.1)).flatMap TEnt.vals),.own (.slice pa l.length pc) 3 1 l.length ((QF l).1.map nv),.blk b2 63 2 [.int .i64 nx,.slice a l.length cap],.blk b1 96 2 [.int .i64 (co:Int),.func (.func q) #[] #[]]]) (λy=>y.1<=l.length) (λy=>l.length-y.1) (0,none,0) (Nat.zero_le _) aSx (λw h=>(h.own_nil 50 2).ent aEt) (λ⟨k,ga,gc⟩hk1=>?_)
 dsimp only
 simp only[]at hk1
 refine aU5 ?_
 refine sCd rfl (λh3=>?_) λh3=>?_
 ·have hk:k<l.length:=by omega
  have hrg:=Qb2 hst0 hk
  have hbk:(nth l k).by_.length<=100000:=hb _ (XO hk)
  have hpk:=Qct hb k om
  have hpl5:=Zb l
  have hil:Xa (nth l k)=16+((nth l k).by_.length:Int):=rfl
  have hst:=QhD (co:=co) hk
  have htl:=Qhu (co:=co) (l:=l) (k:=k) om
  refine Yr (λw h=>Vl.some (HS.vl_own (a:=pa) (t:=3) h aPk) (by rw[List.length_map];omega)) λhsm=>aU6 ?_
  refine o_p (Qa rfl rfl rfl XY (k) om om (Rw.some hs om)) rfl (o_q (Qm _ rfl rfl Qaa rfl (Rw.rd hs hk)) rfl (oAl (λb4 _=>?_) Yq))
  refine aU3 ?_
  refine Qp [17] mixed ?_
  refine dP 0 ?_
  refine dFa 1 ?_
  refine dLd 2 [[14,4]] ?_
  refine dLn 3 [[14,4]] ?_
  refine dQ 4 [[14]] rfl (XS rfl rfl hq rfl (λw1 h1=>hc w1 (nth l k) om hbk)) (dP 5 ?_)
  refine dP 6 ?_
  refine dV 7 rfl (Qa rfl rfl rfl QD (k) om om hsm) (dQ 8 [[14,13]] rfl (Qo rfl rfl XB (λw h=>(HS.vl_own (a:=pa) (t:=3) h aPk).rd (ZL (k:=k) om))) (Qs (show _=Value.int .i64 (QF (l.take k)).2 from by rw[Qju hk]) (dFa 9 ?_)))
  refine dLd 10 [[14,13,12,11]] ?_
  refine dV 11 rfl (QJ rfl rfl Tryz.underlying9) (dP 12 ?_)
  try refine dWr ?_
  refine Qs (show _=Value.int .i64 (Xa (nth l k))from rfl) (dH 13 rfl (Qd (cs:=[_,_]) rfl rfl QD Ye rfl rfl rfl) (λb5 _=>dBa ?_))
  refine dQ 14 [[]] rfl (Qh rfl QdO rfl (λw1 h1=>c54 w1 _ _ [(QF (l.take k)).2,Xa (nth l k)] (h1.vl_blk aPk) (by simp) (by intro x hx;simp only[List.mem_cons,List.mem_nil_iff,or_false]at hx;rcases hx with rfl|rfl<;>omega))) (Qs (show _=Value.string (bs (Zf l k))from rfl) (dV 15 rfl (Qw (cs:=[_,_]) rfl rfl Qj0 XU rfl) (dH 16 rfl (Qd (cs:=[_,_]) rfl rfl Xg XU rfl rfl rfl) (λb6 _=>dBa ?_))))
  refine dH 17 rfl (QA (TEnt.vals (Yj co l k)) rfl rfl rfl Xg Tryz.underlying85 XU rfl aPk (QZ aPk) rfl (ev1 _) om (by simp only[maxLen];omega)) (λb7 _=>dTu [] ?_)
  refine dP 18 ?_
  refine dNi ?_
  refine aU ?_
  refine Qi (L':=[(2,_),(4,_),(5,_),(7,_),(17,_),(18,_),(19,_)]) aSx (λ_ h=>h) ?_
  refine aT2 ?_
  refine aU2 ?_
  exact QQ (k+1,b7.1,b7.2) (by(try simp only[]);omega) (by(try simp only[]);omega) (by dsimp only;rw[hst,List.length_append];exact aSx) (λw h=>by dsimp only;rw[hst,List.length_append,List.flatMap_append];simp only[List.flatMap_cons,List.flatMap_nil,List.append_nil];exact h.ent aEt)
 obtain rfl:k=l.length:=om
 rw[Qjh]
 refine Qj rfl ?_
 refine aU5 ?_
 exact rT rfl rfl (λw' h'=>⟨(ga,gc),rfl,trivial,h'.ent aEt⟩)
set_option maxHeartbeats 2000000 in
theorem c79o(w:World)(co q:Nat)(nx:Int)(a:Option Addr)(cap:Nat)(l:List SItm)(hs:Rw SItm.vals 2 w [] a l)(hm:l.length<=100000)(hb:∀x∈l,x.by_.length<=100000)(hst0:(QO nx l).2=0)(hco:co=2\/co=3)(hq:QE Tryz.prog q=true)(hc:∀(w1:World)(x:SItm),(0<=x.id/\x.id<4294967296)->x.by_.length<=100000->Calls Tryz.prog q (#[]++[.agg #[.int .i64 x.id,.string (bs x.by_)]].toArray++ #[]) w1 λen w2=>en=.returned (.string (bs (Zp co x)))/\Below w1.heap.size w1 w2):CE 79 #[.agg #[.int .i64 (co:Int),.func (.func q) #[] #[]],.agg #[.int .i64 nx,.slice a l.length cap]] w [] (λg:(Nat×Nat)×List LNd=>.tuple #[.agg #[.int .i64 (co:Int),.int .i64 4,.int .i64 2,.slice (some ⟨g.1.1,0,none⟩) g.2.length g.1.2],.int .i64 0]) (λg=>pln g.2=(ZC (co:Int) 4 2 (Q7 co l) l.length)) λg=>[.nodes 50 87 (some ⟨g.1.1,0,none⟩) g.1.2 g.2]:=by
 obtain⟨hnx,hl60,hit9,hpl9⟩:=XR hst0
 have hel:=X2 co l
 refine eN2 Tryz.func79 Tryz.ntmps79 ?_
 refine aU2 ?_
 refine oBx λb1 _=>?_
 refine oBx λb2 _=>?_
 refine oAl (λb3 _=>?_) YQ
 refine aU6 ?_
 refine oCq rfl (λw1 h1=>c72 w1 nx a cap l (hs.later h1) hm hb) (aU7 ?_)
 refine sCd rfl (λh4=>?_) λh4=>?_
 ·exfalso;exact h4 hst0
 refine aU2 ?_
 refine Qp [11] mixed ?_
 refine dFa 0 ?_
 refine dLd 1 [[]] ?_
 refine dLn 2 [[]] ?_
 refine dLn 3 [[]] ?_
 refine Z5 4 10 rfl rfl (QT rfl Qnr rfl (λw1 h1=>c130 w1 co q nx a cap l (hs.later h1) hm hb hst0 hq hc)) (Xf rfl YQ) (by kernel_rfl) (λw h=>h.ent aEt) rfl rfl (λ⟨ea,ec⟩_=>?_) (λb5 _=>?_)
 ·skip
  refine dBa ?_
  refine Z5 5 10 rfl rfl (QT rfl QiQ rfl (λw1 h1=>Ql5 w1 co 4 2 ea ec (Q7 co l) (HS.rw_own ev2 h1 aPk rfl) om om om (by decide) (λx hx=>QcE hx) (QlH hco hst0))) (Xf rfl YQ) (by kernel_rfl) (λw h=>h.ent aEt) rfl rfl (λ⟨⟨gu,cu⟩,LU⟩hLU=>?_) (λb6 _=>?_)
  ·skip
   refine dBa ?_
   refine dP 6 ?_
   refine dP 7 ?_
   refine dP 8 ?_
   refine dP 9 ?_
   refine dH 10 rfl (Xf rfl YQ) (λb7 _=>dBa ?_)
   refine dSt 11 ?_ (hl:=(by simp only[Qb,List.length_set,List.length_cons,List.length_nil,List.length_map];omega))
   refine dTu [] ?_
   refine dP 12 ?_
   refine dP 13 ?_
   refine dNi ?_
   refine aU7 ?_
   exact Qf (rs:=[.cell 4 24,.tmp 5]) rfl (.cell rfl Qbt aPk rfl (.tmp rfl (.nil))) (λw' h'=>⟨((gu,cu),LU),rfl,by rw[<-hel];exact hLU,h'.ent aEt⟩)
  skip
  refine dBa ?_
  refine dH 5 rfl (QT rfl QiQ rfl (λw1 h1=>Ql5 w1 co 4 2 ea ec (Q7 co l) (HS.rw_own ev2 h1 aPk rfl) om om om (by decide) (λx hx=>QcE hx) (QlH hco hst0))) (λ⟨⟨gu,cu⟩,LU⟩hLU=>dBa ?_)
  refine dP 6 ?_
  refine dP 7 ?_
  refine dP 8 ?_
  refine dP 9 ?_
  refine dSt 11 ?_ (hl:=(by simp only[Qb,List.length_set,List.length_cons,List.length_nil,List.length_map];omega))
  refine dTu [] ?_
  refine dP 12 ?_
  refine dP 13 ?_
  refine dNi ?_
  refine aU7 ?_
  exact Qf (rs:=[.cell 4 24,.tmp 5]) rfl (.cell rfl Qbt aPk rfl (.tmp rfl (.nil))) (λw' h'=>⟨((gu,cu),LU),rfl,by rw[<-hel];exact hLU,h'.ent aEt⟩)
 skip
 refine dBa ?_
 refine dH 4 rfl (QT rfl Qnr rfl (λw1 h1=>c130 w1 co q nx a cap l (hs.later h1) hm hb hst0 hq hc)) (λ⟨ea,ec⟩_=>dBa ?_)
 refine dH 5 rfl (QT rfl QiQ rfl (λw1 h1=>Ql5 w1 co 4 2 ea ec (Q7 co l) (HS.rw_own ev2 h1 aPk rfl) om om om (by decide) (λx hx=>QcE hx) (QlH hco hst0))) (λ⟨⟨gu,cu⟩,LU⟩hLU=>dBa ?_)
 refine dP 6 ?_
 refine dP 7 ?_
 refine dP 8 ?_
 refine dP 9 ?_
 refine dSt 11 ?_ (hl:=(by simp only[Qb,List.length_set,List.length_cons,List.length_nil,List.length_map];omega))
 refine dTu [] ?_
 refine dP 12 ?_
 refine dP 13 ?_
 refine dNi ?_
 refine aU7 ?_
 exact Qf (rs:=[.cell 4 24,.tmp 5]) rfl (.cell rfl Qbt aPk rfl (.tmp rfl (.nil))) (λw' h'=>⟨((gu,cu),LU),rfl,by rw[<-hel];exact hLU,h'.ent aEt⟩)
theorem c31o(w:World)(nx:Int)(a:Option Addr)(cap:Nat)(l:List SItm)(hs:Rw SItm.vals 2 w [] a l)(hm:l.length<=100000)(hb:∀x∈l,x.by_.length<=100000)(hst0:(QO nx l).2=0):CE 31 #[.agg #[.int .i64 nx,.slice a l.length cap]] w [] (λg:(Nat×Nat)×List LNd=>.tuple #[.agg #[.int .i64 (3:Int),.int .i64 4,.int .i64 2,.slice (some ⟨g.1.1,0,none⟩) g.2.length g.1.2],.int .i64 0]) (λg=>pln g.2=(ZC (3:Int) 4 2 (Q7 3 l) l.length)) λg=>[.nodes 50 87 (some ⟨g.1.1,0,none⟩) g.1.2 g.2]:=by
 refine eN1 Tryz.func31 Tryz.ntmps31 ?_
 refine aU2 ?_
 refine oBx λb1 _=>?_
 refine oAl (λb2 _=>?_) YQ
 refine aU3 ?_
 refine Qp [5] mixed ?_
 refine dQ 0 [[]] rfl (Qh rfl QlY rfl (λw1 h1=>c43 w1)) (dLn 1 [[]] ?_)
 refine dH 2 rfl (QT rfl QpI rfl (λw1 h1=>c79o w1 3 86 nx a cap l (hs.later h1) hm hb hst0 (by decide) Qru (λw2 x hi hb2=>c86 w2 x hi hb2))) (λ⟨⟨gu,cu⟩,LU⟩hLU=>dBa ?_)
 refine dP 3 ?_
 refine dP 4 ?_
 refine dSt 5 ?_ (hl:=(by simp only[Qb,List.length_set,List.length_cons,List.length_nil,List.length_map];omega))
 refine dTu [] ?_
 refine dP 6 ?_
 refine dNi ?_
 exact Qf (rs:=[.cell 2 24,.tmp 3]) rfl (.cell rfl Qbt aPk rfl (.tmp rfl (.nil))) (λw' h'=>⟨((gu,cu),LU),rfl,hLU,h'.ent aEt⟩)
theorem c32o(w:World)(nx:Int)(a:Option Addr)(cap:Nat)(l:List SItm)(hs:Rw SItm.vals 2 w [] a l)(hm:l.length<=100000)(hb:∀x∈l,x.by_.length<=100000)(hst0:(QO nx l).2=0):CE 32 #[.agg #[.int .i64 nx,.slice a l.length cap]] w [] (λg:(Nat×Nat)×List LNd=>.tuple #[.agg #[.int .i64 (2:Int),.int .i64 4,.int .i64 2,.slice (some ⟨g.1.1,0,none⟩) g.2.length g.1.2],.int .i64 0]) (λg=>pln g.2=(ZC (2:Int) 4 2 (Q7 2 l) l.length)) λg=>[.nodes 50 87 (some ⟨g.1.1,0,none⟩) g.1.2 g.2]:=by
 refine eN1 Tryz.func32 Tryz.ntmps32 ?_
 refine aU2 ?_
 refine oBx λb1 _=>?_
 refine oAl (λb2 _=>?_) YQ
 refine aU3 ?_
 refine Qp [5] mixed ?_
 refine dQ 0 [[]] rfl (Qh rfl Qkf rfl (λw1 h1=>c51 w1)) (dLn 1 [[]] ?_)
 refine dH 2 rfl (QT rfl QpI rfl (λw1 h1=>c79o w1 2 95 nx a cap l (hs.later h1) hm hb hst0 (by decide) QrJ (λw2 x hi hb2=>c95 w2 x hi hb2))) (λ⟨⟨gu,cu⟩,LU⟩hLU=>dBa ?_)
 refine dP 3 ?_
 refine dP 4 ?_
 refine dSt 5 ?_ (hl:=(by simp only[Qb,List.length_set,List.length_cons,List.length_nil,List.length_map];omega))
 refine dTu [] ?_
 refine dP 6 ?_
 refine dNi ?_
 exact Qf (rs:=[.cell 2 24,.tmp 3]) rfl (.cell rfl Qbt aPk rfl (.tmp rfl (.nil))) (λw' h'=>⟨((gu,cu),LU),rfl,hLU,h'.ent aEt⟩)
end Go.Proofs
namespace Gx
open Go Go.RowKit
theorem Qqj{co:Int}{es:List TEnt}(h:∀x∈es,Yu co x=0):Qcc co es=0:=by
 unfold Qcc;refine Y5.2 λe he=>?_;obtain⟨x,hx,rfl⟩:=List.mem_map.1 he;exact h x hx
theorem Qq3{co:Int}{es:List TEnt}(h:Asc co es):Qc4 co es=0:=by
 unfold Qc4;refine Y5.2 λe he=>?_;obtain⟨k,hk,rfl⟩:=List.mem_map.1 he;have hk:=List.mem_range.1 hk;unfold Qff;rw[if_pos];rcases Nat.eq_zero_or_pos k with h0|h0
 ·exact .inl h0
 ·refine .inr ?_;have:=h (k-1) om
  rwa[show k-1+1=k by omega]at this
theorem Qoc{ns:List Nd}:∀{cs seen:List Int},(∀c∈cs,(1<=c/\c<=(ns.length:Int)-1)/\(nth ns c.toNat).us=true)->(seen.reverse++cs).Nodup->YK ns cs seen=(0,cs.reverse++seen)
 | [],seen,_,_=>rfl
 | c::cs,seen,h,hn=>by
  have hc:c ∉ seen:=λhm=>by
   have h1:=List.nodup_append.1 hn;exact h1.2.2 c (List.mem_reverse.2 hm) c (List.mem_cons_self ..) rfl
  rw[YK,if_pos (h c (List.mem_cons_self ..)),if_neg hc,Qoc (λx hx=>h x (List.mem_cons_of_mem _ hx)) (by rw[List.reverse_cons,List.append_assoc];exact hn),List.reverse_cons,List.append_assoc];rfl
theorem Qqn{t:Tre}{i:Nat}{seen:List Int}(hT:TOk t.co t.ns)(hi:i<t.ns.length)(hm:(nth t.ns i).us=true->((nth t.ns i).es.length:Int)<=Qap t.mo t.rm i)(hn:(seen.reverse++(nth t.ns i).cs).Nodup):Zi t i seen=(0,(nth t.ns i).cs.reverse++seen):=by
 cases hu:(nth t.ns i).us with
 | true=>
  have hk:=Qoc (hT.kid i hi) hn;rw[QoZ rfl hu (hm hu) (hT.shape i hi) (Qqj (hT.ents i hi)) (by rw[hk]),hk,Qq3 (hT.asc i hi)]
 | false=>
  have h1:=hT.free i hi hu;rw[QoT (by rw[hu];decide),if_pos ⟨h1.1,by rw[h1.2.1,h1.2.2];rfl⟩,h1.2.2];rfl
theorem QlB{t:Tre}(hT:TOk t.co t.ns)(hm:∀i,i<t.ns.length->(nth t.ns i).us=true->((nth t.ns i).es.length:Int)<=Qap t.mo t.rm i):∀(f i:Nat)(seen:List Int),i+f=t.ns.length->(seen.reverse++(t.ns.drop i).flatMap Nd.cs).Nodup->(Yw t f i seen).2=0
 | 0,i,seen,_,_=>rfl
 | f+1,i,seen,hf,hn=>by
  have hi:i<t.ns.length:=by omega
  have e:t.ns.drop i=nth t.ns i::t.ns.drop (i+1):=QcJ hi;rw[e,List.flatMap_cons,<-List.append_assoc]at hn;have h1:=Qqn hT hi (hm i hi) (List.nodup_append.1 hn).1;rw[Yw,h1,if_pos rfl];refine QlB hT hm f (i+1) _ om ?_;rw[List.reverse_append,List.reverse_reverse];exact hn
theorem Qiy{lo hi d:Nat}:∀{ks:List BT},(∀k∈ks,Bal lo hi d k)->∀p∈nodesL ks,lo<=p.2.es.length/\p.2.es.length<=hi:=by
 induction d with
 | zero=>
  intro ks h p hp;obtain⟨k,hk,hp⟩:=QaA (k:=default) hp;have hb:=h k hk;cases k with
  | nd i es js=>
   have e:js=[]:=hb.1;rw[e,BT.nodes,nodesL]at hp;rcases List.mem_cons.1 hp with rfl|hp
   ·exact hb.2
   ·cases hp
 | succ d ih=>
  intro ks h p hp;obtain⟨k,hk,hp⟩:=QaA (k:=default) hp;have hb:=h k hk;cases k with
  | nd i es js=>
   rw[BT.nodes]at hp;rcases List.mem_cons.1 hp with rfl|hp
   ·exact hb.2
   ·exact ih hb.1.2 p hp
theorem QnB{ns:List Nd}{lo hi:Nat}:∀{d f:Nat}{T:BT},Bel lo hi d T->NIn ns T->d<f->btN ns f T.idx=T
 | d,0,_,_,_,h=>absurd h (Nat.not_lt_zero _)
 | 0,f+1,.nd i es ks,hB,hN,_=>by
  have hk:=Qh3 hB;subst hk;show btN ns (f+1) i=_;rw[btN,hN.root.2];rfl
 | d+1,f+1,.nd i es ks,hB,hN,h=>by
  show btN ns (f+1) i=_;rw[btN,hN.root.2];show BT.nd i es ((QU ks).map λc=>btN ns f c.toNat)=_;congr 1;refine List.ext_getElem (by rw[List.length_map,Xi]) λk h1 h2=>?_;rw[List.getElem_map]
  have e:(QU ks)[k]'(by rw[Xi];exact h2)=((nth ks k).idx:Int):=by
   have:=Qej h2;rw[List.getD_eq_getElem?_getD,List.getElem?_eq_getElem (by rw[Xi];exact h2)]at this;exact this
  rw[e,Int.toNat_natCast,QnB (QcW hB h2) (hN.kid h2) om,show nth ks k=ks[k]from QH (List.getElem?_eq_getElem h2)]
theorem Qkp{ns:List Nd}{lo hi:Nat}:∀{d f:Nat}{T:BT},Bel lo hi d T->NIn ns T->d<f->ZF ns f T.idx=(d:Int)
 | d,0,_,_,_,h=>absurd h (Nat.not_lt_zero _)
 | 0,f+1,.nd i es ks,hB,hN,_=>by
  have hk:=Qh3 hB;subst hk;show ZF ns (f+1) i=_;rw[ZF,hN.root.2];exact if_pos rfl
 | d+1,f+1,.nd i es ks,hB,hN,h=>by
  have hl:0<ks.length:=by have:=hB.1;simp only[BT.ks,BT.es]at this;omega
  show ZF ns (f+1) i=_;rw[ZF,hN.root.2,if_neg (by show¬(QU ks).length=0;rw[Xi];omega)];show ZF ns f ((QU ks).getD 0 0).toNat+1=_;rw[Qej hl,Int.toNat_natCast,Qkp (QcW hB hl) (hN.kid hl) om];simp
section
variable{co:Int}{es:List TEnt}{ks:List BT}{k:Nat}
theorem QqX(hs:Srt co (flatL es ks))(h:ks.length=es.length+1)(hk:k<es.length){x:TEnt}(hx:x∈(nth ks k).flat):QS co x.key (nth es k).key<0:=by
 obtain⟨B,hB⟩:=Qhj (.inr h) (k:=k+1) om;rw[hB,Qau hk,YP om]at hs;have h1:=(List.pairwise_append.1 hs).1;exact(List.pairwise_append.1 h1).2.2 x (List.mem_append_right _ hx) _ (List.mem_singleton.2 rfl)
theorem Qq0(hs:Srt co (flatL es ks))(h:ks.length=es.length+1)(hk:k<es.length){x:TEnt}(hx:x∈(nth ks (k+1)).flat):QS co (nth es k).key x.key<0:=by
 obtain⟨B,hB⟩:=Qei (.inr h) (k:=k+1) om;rw[hB,YP om,Qau hk]at hs;have h1:=(List.pairwise_append.1 hs).1;exact(List.pairwise_append.1 h1).2.2 _ (List.mem_append_right _ (List.mem_singleton.2 rfl)) x hx
theorem Qop(hs:Srt co (flatL es ks))(h:ks.length=es.length+1)(hk:k<ks.length):Srt co (nth ks k).flat:=by
 obtain⟨B,hB⟩:=Qei (.inr h) (k:=k) om;rw[hB,YP om]at hs;exact(List.pairwise_append.1 (List.pairwise_append.1 hs).1).2.1
end
theorem Qna{co:Int}{ns:List Nd}{lo hi:Nat}:∀{d f:Nat}{T:BT}{v:Vis},Bel lo hi d T->NIn ns T->d<f->v.i=T.idx->Srt co T.flat->(∀x∈T.flat,InB co v.lo v.hi x)->∀u∈vis ns f v,(∀x∈(nth ns u.i).es,InB co u.lo u.hi x)/\((nth ns u.i).cs.length=0->u.d=v.d+(d:Int))
 | d,0,_,_,_,_,h,_,_,_,_,_=>absurd h (Nat.not_lt_zero _)
 | 0,f+1,.nd i es ks,v,hB,hN,_,hv,hs,hb,u,hu=>by
  have hk:=Qh3 hB;subst hk;have hi:v.i=i:=hv;rw[vis,hi,hN.root.2]at hu;rcases List.mem_cons.1 hu with rfl|hu
  ·rw[hi,hN.root.2];rw[BT.flat,XL]at hb;exact⟨hb,λ_=>by simp⟩
  ·cases hu
 | d+1,f+1,.nd i es ks,v,hB,hN,h,hv,hs,hb,u,hu=>by
  have hi:v.i=i:=hv;have hl:ks.length=es.length+1:=hB.1;rw[BT.flat]at hs hb;rw[vis,hi,hN.root.2]at hu;rcases List.mem_cons.1 hu with rfl|hu
  ·rw[hi,hN.root.2];refine⟨λx hx=>hb x ((QdE es ks).subset hx),λh9=>?_⟩;have h8:(QU ks).length=0:=h9;rw[Xi]at h8;omega
  ·obtain⟨k,hk,hu⟩:=List.mem_flatMap.1 hu;have hk:=List.mem_range.1 hk;have hk:k<ks.length:=by rw[<-Xi];exact hk
   have hj:((QU ks).getD k 0).toNat=(nth ks k).idx:=by rw[Qej hk,Int.toNat_natCast]
   have h1:=Qna (co:=co) (f:=f) (v:=⟨((QU ks).getD k 0).toNat,v.d+1,loK es k v.lo,hiK es k v.hi⟩) (QcW hB hk) (hN.kid hk) om hj (Qop hs hl hk) (λx hx=>?_) u hu
   ·refine⟨h1.1,λh9=>?_⟩;rw[h1.2 h9];show v.d+1+(d:Int)=_;simp only[Int.natCast_add,Int.natCast_one];omega
   ·have h2:=hb x (QkE hl hk hx);refine⟨λb hb2=>?_,λb hb2=>?_⟩
    ·change loK es k v.lo=some b at hb2
     unfold loK at hb2
     by_cases h0:0<k
     ·rw[if_pos h0]at hb2;injection hb2 with hb2
      subst hb2;obtain⟨q,rfl⟩:∃q,k=q+1:=⟨k-1,om⟩;exact Qq0 hs hl om hx
     ·rw[if_neg h0]at hb2;exact h2.1 b hb2
    ·change hiK es k v.hi=some b at hb2
     unfold hiK at hb2
     by_cases h0:k<es.length
     ·rw[if_pos h0]at hb2;injection hb2 with hb2
      subst hb2;exact QqX hs hl h0 hx
     ·rw[if_neg h0]at hb2;exact h2.2 b hb2
theorem QmC{ns:List Nd}{below:List Nat}:∀{f i:Nat},(∀j,i<=j->j<i+f->(nth ns j).us=true->j∈below)->Qb7 ns below f i=none
 | 0,i,_=>rfl
 | f+1,i,h=>by
  rw[Qb7,if_neg (λh1=>h1.2 (h i (Nat.le_refl _) om h1.1))];exact QmC λj h1 h2=>h j om om
theorem Qne{t:Tre}{deep:Int}:∀{vs:List Vis},(∀v∈vs,Qli t deep v=0)->(Qc7 t deep vs).2=0
 | [],_=>rfl
 | v::vs,h=>by
  rw[Qc7,if_pos (h v (List.mem_cons_self ..))];exact Qne λu hu=>h u (List.mem_cons_of_mem _ hu)
theorem Qmv{lo hi:Nat}:∀{d:Nat}{T:BT},Bel lo hi d T->d<T.nodes.length
 | 0,.nd i es ks,h=>by
  rw[BT.nodes];exact Nat.succ_pos _
 | d+1,.nd i es ks,h=>by
  have hl:0<ks.length:=by have:=h.1;simp only[BT.ks,BT.es]at this;omega
  have h1:=Qmv (QcW h hl);rw[BT.nodes];cases ks with
  | nil=>cases hl
  | cons k ks=>
   rw[nodesL,List.length_cons,List.length_append];have e:nth (k::ks) 0=k:=rfl;rw[e]at h1;omega
theorem Qq9{t:Tre}{lo hi rt d:Nat}{T:BT}(hc:Xb t.co=0)(hse:Zs t.mo t.rm=0)(hz:Sz t.mo t.rm lo hi rt)(hR:Q5 t.ns T)(hV:VT t.co lo hi rt d T)(hu:Xw t.ns)(hl:t.ns.length<=120):(Q0 t).2=0:=by
 have hT:=QgR hR hV hu;have hroot:=hR.root;have h0:0<t.ns.length:=om
 have hN:=hR.nin;have hdl:d<t.ns.length:=Nat.lt_of_lt_of_le (Qmv hV.bel) hR.nlen;have hw:Gx.Way t.ns [0]:=rfl
 have hbt:btN t.ns t.ns.length 0=T:=by
  have:=QnB hV.bel hN hdl
  rwa[hV.idx]at this
 have hvb:=Qny hT h0 t.ns.length Qa7 [] hw (by simp);rw[show Qa7.i=0 from rfl,hbt]at hvb
 have hes:∀p∈T.nodes,p.1=0\/(lo<=p.2.es.length/\p.2.es.length<=hi):=λp hp=>by
  cases T with
  | nd i es ks=>
   rw[BT.nodes]at hp;rcases List.mem_cons.1 hp with rfl|hp
   ·exact .inl hV.idx
   ·cases d with
    | zero=>
     rw[Qh3 hV.bel,nodesL]at hp;cases hp
    | succ d=>exact .inr (Qiy hV.bel.2 p hp)
 have hin:∀i,i<t.ns.length->(nth t.ns i).us=true->(i,nth t.ns i)∈T.nodes:=λi hi hus=>by
  by_cases hm:i∈T.nodes.map Prod.fst
  ·obtain⟨p,hp,rfl⟩:=List.mem_map.1 hm;rw[(hN p hp).2];exact hp
  ·rw[RepN.rest hR i hi hm]at hus;cases hus
 have hmost:∀i,i<t.ns.length->(nth t.ns i).us=true->((nth t.ns i).es.length:Int)<=Qap t.mo t.rm i:=λi hi hus=>by
  unfold Qap;have e1:=hz.emo;have e2:=hz.erm
  by_cases h9:i=0
  ·subst h9;rw[if_pos rfl];have h8:=hroot.2;rw[hV.idx]at h8;rw[h8];have:=hV.root;simp only;omega
  ·rw[if_neg h9];rcases hes _ (hin i hi hus)with h|h
   ·exact absurd h h9
   ·simp only at h;omega
 have hnods:=QlB (t:=t) hT hmost t.ns.length 0 [] om (by rw[List.drop_zero];exact hT.once);unfold Q0;rw[if_pos hc,if_pos hse,if_pos h0,if_pos hl,if_pos hnods]
 have hop:Qb7 t.ns ((ZN t.ns).map Vis.i) t.ns.length 0=none:=QmC λj _ h2 hus=>by
  show j∈(vis t.ns t.ns.length Qa7).map Vis.i;rw[hvb];exact List.mem_map.2 ⟨_,hin j om hus,rfl⟩
 rw[hop]
 have hdeep:ZF t.ns t.ns.length 0=(d:Int):=by
  have:=Qkp hV.bel hN hdl
  rwa[hV.idx]at this
 refine Qne λu huv=>?_;have h1:=Qna (co:=t.co) (v:=Qa7) hV.bel hN hdl hV.idx.symm hV.srt (λx _=>⟨λb h=>(nomatch h),λb h=>(nomatch h)⟩) u huv
 have hmem:u.i∈T.nodes.map Prod.fst:=by
  rw[<-hvb];exact List.mem_map.2 ⟨u,huv,rfl⟩
 obtain⟨p,hp,hpu⟩:=List.mem_map.1 hmem;have hpn:=hN p hp;rw[hpu]at hpn;rw[QgS,if_neg,if_neg,if_neg]
 ·intro h9;rw[hdeep]at h9;have:=h1.2 h9.1;have e:Qa7.d=1:=rfl;omega
 ·unfold QaT;intro h9;obtain⟨x,hx,ho⟩:=List.any_eq_true.1 h9;have h8:=h1.1 x hx;rcases Qlz.1 ho with⟨b,hb,hle⟩|⟨b,hb,hle⟩
  ·have:=h8.1 b hb;omega
  ·have:=h8.2 b hb;omega
 ·unfold Qcn;intro h9;simp only[Bool.and_eq_true,Bool.or_eq_true,decide_eq_true_eq]at h9;have e1:=hz.emo;have e2:=hz.erm;have e3:=hz.elo;rcases hes p hp with h|h
  ·omega
  ·rw[hpn.2]at h9;rcases h9.2 with h8|h8
   ·omega
   ·have h7:=hroot.2;rw[hV.idx]at h7;rw[h7]at h8;have hnil:T.es=[]:=List.eq_nil_of_length_eq_zero h8.1.1;have hm9:(u.i:Int)∈QU T.ks:=h8.1.2;obtain⟨k,hk,hke⟩:=List.mem_map.1 hm9
    have hone:T.ks=[k]:=by
     have hs:=hV.bel.cs;rcases hs with hs|hs
     ·rw[hs]at hk;cases hk
     ·rw[hnil]at hs;cases hks:T.ks with
      | nil=>
       rw[hks]at hk;cases hk
      | cons q qs=>
       rw[hks]at hs hk;have:qs=[]:=List.eq_nil_of_length_eq_zero (by simpa using hs);subst this;rcases List.mem_singleton.1 hk with rfl
       rfl
    have hg:=hV.gap hnil k hone
    have hkn:(u.i,(⟨true,k.es,QU k.ks⟩:Nd))∈T.nodes:=by
     have:k.idx=u.i:=om
     rw[<-this];cases T with
     | nd i es ks=>
      rw[BT.nodes];refine List.mem_cons_of_mem _ (QcF (k:=k) hk ?_);cases k with
      | nd a b c=>
       rw[BT.nodes];exact List.mem_cons_self ..
    have h6:=(hN _ hkn).2;simp only at h6;rw[hpn.2]at h6;have h5:=h8.2;rw[h6]at h5;simp only at h5;omega
end Gx
/- Chapter 18, at the seat of SecureFinds: the two indexes of a store of few items; what is found by them. -/
namespace Gx
open Go Go.RowKit
structure OnceT(co:Nat)(l:List SItm)(ns:List Nd)(T:BT)(d:Nat):Prop where
 rep:Q5 ns T
 vt:VT (co:Int) 2 4 2 d T
 last:Xw ns
 mem:∀x,x∈T.flat ↔ ∃j,j<l.length/\x=Yj co l j
 few:Z8 ns=true
 tre:(Q0 (⟨(co:Int),4,2,ns⟩:Tre)).2=0
 tok:TOk (co:Int) ns
 pos:0<ns.length
theorem QkR(l:List SItm)(k:Nat):(Zf l k).length=8:=by unfold Zf;rw[XT];rfl
theorem QfY{nx:Int}{l:List SItm}{co:Nat}(hco:co=2\/co=3)(h:(QO nx l).2=0)(hl:l.length<=10):∃T d,OnceT co l (ZC (co:Int) 4 2 (Q7 co l) l.length) T d:=by
 have hz:Sz 4 2 2 4 2:=⟨rfl,rfl,rfl,by decide,by decide,by decide,by decide⟩;obtain⟨hz0,T,d,hR,hV,hm⟩:=Qmt hco h (Nat.le_refl l.length);have hB:=Qfb (l:=Q7 co l) hz (show l.length<=119 by omega) hz0;obtain⟨T2,d2,hR2,hV2,hf2⟩:=hB.tree;have hlen:=hB.len
 have hmem:∀x,x∈T.flat ↔ ∃j,j<l.length/\x=Yj co l j:=λx=>by
  rw[hm];constructor
  ·rintro⟨j,hj,e⟩;exact⟨j,hj,by rw[e,Y1 hj]⟩
  ·rintro⟨j,hj,e⟩;exact⟨j,hj,by rw[e,Y1 hj]⟩
 refine⟨T,d,hR,hV,hB.last,hmem,?_,Qq9 (by rcases hco with rfl|rfl<;>rfl) (by show Zs 4 2=0;decide) hz hR hV hB.last (by show(ZC _ _ _ _ _).length<=120;omega),QgR hR hV hB.last,hB.pos⟩;unfold Z8;rw[decide_eq_true om,Bool.true_and,List.all_eq_true];intro x hx
 obtain⟨i,hi,rfl⟩:∃i,i<(ZC (co:Int) 4 2 (Q7 co l) l.length).length/\nth (ZC (co:Int) 4 2 (Q7 co l) l.length) i=x:=by
  obtain⟨i,hi,e⟩:=List.getElem_of_mem hx;exact⟨i,hi,QH (by rw[List.getElem?_eq_getElem hi,e])⟩
 have he:(nth (ZC (co:Int) 4 2 (Q7 co l) l.length) i).es.length<=10/\(nth (ZC (co:Int) 4 2 (Q7 co l) l.length) i).cs.length<=11:=by
  by_cases hn:i∈T2.nodes.map Prod.fst
  ·obtain⟨p,hp,he⟩:=List.mem_map.1 hn;rw[<-he,(RepN.at_ (i:=p.1) (x:=p.2) hR2 hp).2];have h1:=(ZG T2 p hp).length_le;have h2:=Qe6 hV2.bel p hp;omega
  ·rw[RepN.rest hR2 _ hi hn];exact⟨Nat.zero_le _,Nat.zero_le _⟩
 refine Qoj he.1 he.2 (List.all_eq_true.2 λy hy=>?_)
 by_cases hn:i∈T.nodes.map Prod.fst
 ·obtain⟨p,hp,he⟩:=List.mem_map.1 hn;rw[<-he,(RepN.at_ (i:=p.1) (x:=p.2) hR hp).2]at hy;obtain⟨j,hj,rfl⟩:=(hmem y).1 ((ZG T p hp).subset hy);have h1:=Qgl (co:=co) (nth l j);have h2:=QkR l j;exact decide_eq_true ⟨by show(Zp co (nth l j)).length<=44;omega,by show(Zf l j).length<=70;omega⟩
 ·rw[RepN.rest hR _ hi hn]at hy;cases hy
theorem Qk4{nx:Int}{l:List SItm}{ns:List Nd}{T:BT}{d:Nat}(h:(QO nx l).2=0)(hT:OnceT 2 l ns T d){j:Nat}(hj:j<l.length):(Qr (2:Int) ns (nmB [(nth l j).id])).2.2=true/\XV (2:Int) ns (nmB [(nth l j).id])=Yj 2 l j:=by
 have hkey:(Yj 2 l j).key=nmB [(nth l j).id]:=rfl;have hmem:=(hT.mem (Yj 2 l j)).2 ⟨j,hj,rfl⟩;have hrefl:∀k:List UInt8,QS (2:Int) k k=0:=λk=>by have:=Zw (2:Int) k k;omega
 have hf:(Qr (2:Int) ns (nmB [(nth l j).id])).2.2=true:=(Qfl hT.rep hT.vt _).2 ⟨_,hmem,by rw[hkey];exact hrefl _⟩;refine⟨hf,?_⟩;obtain⟨p1,p2,p3,p4,p5⟩:=QhQ (show TOk (2:Int) ns from hT.tok) hT.pos (nmB [(nth l j).id]);have hfn:=p5▸hf;have hat:=QmW hfn
 have hc:QS (2:Int) (XV (2:Int) ns (nmB [(nth l j).id])).key (nmB [(nth l j).id])=0:=by
  unfold fnd at hfn;rw[Bool.and_eq_true,decide_eq_true_eq,decide_eq_true_eq]at hfn;have h9:=hfn.2;rw[<-p4]at h9;exact h9
 rw[<-p4]at hat
 have hm:XV (2:Int) ns (nmB [(nth l j).id])∈T.flat:=by
  have h9:XV (2:Int) ns (nmB [(nth l j).id])∈(nth ns (XA (Qr (2:Int) ns (nmB [(nth l j).id])).1)).es:=QX hat
  by_cases hn:XA (Qr (2:Int) ns (nmB [(nth l j).id])).1∈T.nodes.map Prod.fst
  ·obtain⟨p,hp,he⟩:=List.mem_map.1 hn;rw[<-he,(RepN.at_ (i:=p.1) (x:=p.2) hT.rep hp).2]at h9;exact(ZG T p hp).subset h9
  ·rw[RepN.rest hT.rep _ p3 hn]at h9;cases h9
 obtain⟨m,hm2,e⟩:=(hT.mem _).1 hm;rw[e]at hc ⊢;rcases Nat.lt_trichotomy m j with h1|h1|h1
 ·exact absurd hc (QeH (.inl rfl) h h1 hj)
 ·rw[h1]
 ·have h2:=QeH (.inl rfl) h h1 hm2;have h3:=Zw (2:Int) (Yj 2 l j).key (Yj 2 l m).key;rw[hkey]at h3;exact absurd (show QS (2:Int) (Yj 2 l j).key (Yj 2 l m).key=0 by rw[hkey];omega) h2
end Gx
namespace Go.Proofs
open Gx
section
variable{nx:Int}{l:List SItm}{ds:Nat->Dsc}{ids:List Int}{i:Nat}
theorem Qe5(h:OnceI nx l ds ids i):XD (QW nx l)=0/\(QW nx l).length<=16384:=by
 obtain⟨h1,h2⟩:=QiL h.sto;exact⟨QoG h.sto h.bd,om⟩
theorem Qlk(h:OnceI nx l ds ids i){ns:List Nd}{T:BT}{d:Nat}(hT:OnceT 3 l ns T d){k:Nat}(hk:k<i)(h0:nth ids k≠0):fhE (XD (QW nx l)) (Q0 (⟨3,4,2,ns⟩:Tre)).2 (Q9 (ds k)).2 3=0/\fbH (QW nx l) (QG (ds k)) T.flat=some (nth ids k):=by
 refine⟨?_,h.fbh hk h0 hT.mem⟩;have h1:=hT.tre;unfold fhE;rw[(Qe5 h).1,if_pos rfl,show(Q0 (⟨3,4,2,ns⟩:Tre)).2=0 from h1,if_pos rfl,h.good k hk];rfl
theorem Qpf(h:OnceI nx l ds ids i){ns:List Nd}{T:BT}{d:Nat}(hT:OnceT 2 l ns T d){k:Nat}(hk:k<i)(h0:nth ids k≠0):Zj (XD (QW nx l)) (Q0 (⟨2,4,2,ns⟩:Tre)).2 2 (nth ids k)=0/\(Qr (2:Int) ns (nmB [nth ids k])).2.2=true/\fiD (fiO (QW nx l) ns (nth ids k))=ds k/\fiE (fiO (QW nx l) ns (nth ids k)) 31=0:=by
 obtain⟨j,hj,e1,hr,h2⟩:=h.idby hk h0;have hf:=Qk4 h.sto hT hj;rw[e1]at hf;have h1:=hT.tre
 have hO:fiO (QW nx l) ns (nth ids k)=some (QG (ds k)):=by
  unfold fiO;rw[if_pos hf.1,hf.2];exact h2
 refine⟨?_,hf.1,by rw[hO];exact(QbR (h.good k hk)).2,by rw[hO];exact(QbR (h.good k hk)).1⟩;unfold Zj;rw[(Qe5 h).1,if_pos rfl,show(Q0 (⟨2,4,2,ns⟩:Tre)).2=0 from h1,if_pos rfl,if_pos rfl,if_pos om]
end
end Go.Proofs

namespace Go.Proofs
open Go Go.RowKit Gx
attribute [local irreducible] Go.Calls Gx.S Gx.O Gx.D Gx.OpP Gx.OpQ Gx.OpH
set_option maxRecDepth 20000
instance:TFn Tryz.prog 5:=⟨by kernel_rfl⟩
instance:TFn Tryz.prog 7:=⟨by kernel_rfl⟩
theorem Qqy:QE Tryz.prog 9=true:=by kernel_rfl
theorem Qj2:QE Tryz.prog 10=true:=by kernel_rfl
theorem fn_8:QE Tryz.prog 8=true:=by kernel_rfl
theorem QmB:QE Tryz.prog 11=true:=by kernel_rfl
theorem Qnx:QE Tryz.prog 18=true:=by kernel_rfl
theorem QdS:tsl Tryz.prog 59=some (28,6,72):=by kernel_rfl
theorem QhA:QE Tryz.prog 25=true:=by kernel_rfl
instance:TFn Tryz.prog 25:=⟨QhA⟩
instance:TFn Tryz.prog 26:=⟨by kernel_rfl⟩
instance:TFn Tryz.prog 27:=⟨by kernel_rfl⟩
instance:TFn Tryz.prog 31:=⟨by kernel_rfl⟩
instance:TFn Tryz.prog 32:=⟨by kernel_rfl⟩
theorem QlN:QE Tryz.prog 33=true:=by kernel_rfl
theorem Qow(w:World)(nx:Int)(a:Option Addr)(cap:Nat)(l:List SItm)(d:Dsc)(ea:Option Addr)(eac:Nat)(aa:Option Addr)(aac:Nat)(T:AddR)(hT:Y0 nx l d=T)(hs:Rw SItm.vals 2 w [] a l)(hm:l.length<=100000)(hb:∀x∈l,x.by_.length<=100000)(hse:Rw Ace.vals 4 w [] ea d.en)(hsa:Rw Ace.vals 4 w [] aa d.au)(hme:d.en.length<=100000)(hma:d.au.length<=100000):CE 24 #[.agg #[.int .i64 nx,.slice a l.length cap],.agg #[.int .i64 d.ow,.int .i64 d.gr,.bool d.pr,.bool d.he,.slice ea d.en.length eac,.slice aa d.au.length aac]] w [] (λg:Option Addr×Nat=>.tuple #[.agg #[.int .i64 T.nx,.slice g.1 T.l.length g.2],.int .i64 T.id,.int .i64 T.e]) (λg=>True) λg=>[.own (.slice g.1 T.l.length g.2) 72 2 T.l.length (T.l.flatMap SItm.vals)]:=by
  subst hT;exact c24 w nx a cap l d ea eac aa aac hs hm hb hse hsa hme hma
theorem c28v(w:World)(nx:Int)(a:Option Addr)(cap:Nat)(l:List SItm)(ua:Option Addr)(uc:Nat)(u:List Int)(l2:List SItm)(g2:List Int)(hC:Qbh nx l u=⟨nx,l2,g2⟩)(hE:QcK nx l u=0)(hs:Rw SItm.vals 2 w [] a l)(hm:l.length<=100000)(hb:∀x∈l,x.by_.length<=100000)(hu:Vl w ua (u.map nv))(hum:u.length<=100000)(hui:∀x∈u,x<=9223372036854775807):CE 28 #[.agg #[.int .i64 nx,.slice a l.length cap],.slice ua u.length uc] w [] (λg:(Option Addr×Nat)×(Option Addr×Nat)=>.tuple #[.agg #[.int .i64 nx,.slice g.1.1 l2.length g.1.2],.slice g.2.1 g2.length g.2.2,.int .i64 0]) (λg=>True) λg=>[.own (.slice g.1.1 l2.length g.1.2) 72 2 l2.length (l2.flatMap SItm.vals),.own (.slice g.2.1 g2.length g.2.2) 3 1 g2.length (g2.map nv)]:=by
  have h9:=c28 w nx a cap l ua uc u hs hm hb hu hum hui;rw[hC,hE]at h9;exact h9
theorem Qrg(w:World)(nx:Int)(a:Option Addr)(cap:Nat)(l:List SItm)(n:Int)(dd:Dsc)(h1:(Y9 nx l n).1=dd)(h2:(Y9 nx l n).2=0)(hs:Rw SItm.vals 2 w [] a l)(hm:l.length<=100000)(hb:∀x∈l,x.by_.length<=100000):CE 33 #[.agg #[.int .i64 nx,.slice a l.length cap],.int .i64 n] w [] (λg:(Option Addr×Nat)×(Option Addr×Nat)=>.tuple #[.agg #[.int .i64 dd.ow,.int .i64 dd.gr,.bool dd.pr,.bool dd.he,.slice g.1.1 dd.en.length g.1.2,.slice g.2.1 dd.au.length g.2.2],.int .i64 0]) (λg=>True) λg=>[.own (.slice g.1.1 dd.en.length g.1.2) 119 4 dd.en.length (dd.en.flatMap Ace.vals),.own (.slice g.2.1 dd.au.length g.2.2) 119 4 dd.au.length (dd.au.flatMap Ace.vals)]:=by
  have h9:=c33 w nx a cap l n hs hm hb;rw[h1,h2]at h9;exact h9
theorem c8v(w:World)(q:List UInt8)(a:Option Addr)(cap:Nat)(L:List LNd)(l:List SItm)(ns:List Nd)(T:BT)(dp:Nat)(d:Dsc)(ea:Option Addr)(eac:Nat)(aa:Option Addr)(aac:Nat)(id:Int)(hm:q.length<=16384)(hs:Nt w [] a L)(hL:pln L=ns)(hO:OnceT 3 l ns T dp)(hse:Rw Ace.vals 4 w [] ea d.en)(hsa:Rw Ace.vals 4 w [] aa d.au)(hme:d.en.length<=100000)(hma:d.au.length<=100000)(h1:fhE (XD q) (Q0 (⟨3,4,2,ns⟩:Tre)).2 (Q9 d).2 3=0)(h2:fbH q (QG d) T.flat=some id):CR 8 #[.string (bs q),.agg #[.int .i64 3,.int .i64 4,.int .i64 2,.slice a L.length cap],.agg #[.int .i64 d.ow,.int .i64 d.gr,.bool d.pr,.bool d.he,.slice ea d.en.length eac,.slice aa d.au.length aac]] w (.tuple #[.int .i64 id,.int .i64 0]):=by
  subst hL;have h9:=c8w w q 3 4 2 a cap L T d ea eac aa aac hm hs hO.few hse hsa hme hma (λ_=>⟨dp,2,4,2,hO.rep,hO.vt,hO.last⟩);rw[if_pos h1,if_pos h1,h2]at h9;exact h9
theorem Qro(w:World)(q:List UInt8)(a:Option Addr)(cap:Nat)(L:List LNd)(ns:List Nd)(id:Int)(dd:Dsc)(hm:q.length<=16384)(hs:Nt w [] a L)(hL:pln L=ns)(hfw:Z8 ns=true)(h1:Zj (XD q) (Q0 (⟨2,4,2,ns⟩:Tre)).2 2 id=0)(h2:(Qr (2:Int) ns (nmB [id])).2.2=true)(h3:fiD (fiO q ns id)=dd)(h4:fiE (fiO q ns id) 31=0):CE 11 #[.string (bs q),.agg #[.int .i64 2,.int .i64 4,.int .i64 2,.slice a L.length cap],.int .i64 id] w [] (λg:(Option Addr×Nat)×(Option Addr×Nat)=>.tuple #[.agg #[.int .i64 dd.ow,.int .i64 dd.gr,.bool dd.pr,.bool dd.he,.slice g.1.1 dd.en.length g.1.2,.slice g.2.1 dd.au.length g.2.2],.int .i64 0]) (λg=>True) λg=>[.own (.slice g.1.1 dd.en.length g.1.2) 119 4 dd.en.length (dd.en.flatMap Ace.vals),.own (.slice g.2.1 dd.au.length g.2.2) 119 4 dd.au.length (dd.au.flatMap Ace.vals)]:=by
  subst hL;have h9:=c11w w q 2 4 2 a cap L id hm hs hfw;simp only[if_pos h1,if_pos h2,h3,h4]at h9;exact h9
set_option maxHeartbeats 8000000 in
theorem c4(w:World)(a:Option Addr)(cap:Nat)(L:List LDsc)(ka:Option Addr)(kc:Nat)(K:List Bool)(hs:Dt w a L)(hsk:Rw koV 1 w [] ka K):CR 4 #[.slice a L.length cap,.slice ka K.length kc] w (.bool true):=by
 refine eN2 Tryz.func4 Tryz.ntmps4 ?_
 refine aU7 ?_
 refine oCq rfl (λw1 h1=>c5 w1) (aU2 ?_)
 refine sCd rfl (λh1=>?_) λh1=>?_
 ·exfalso;simp at h1
 refine aU8 ?_
 refine oOr 4 38 42 rfl
  (λhg2 _=>by
   refine aU6 ?_
   exact oJf 4 42)
  (λhg4 _=>by
   refine aU3 ?_
   exact oJt 4 42) ?_
 refine aU ?_
 refine sCd rfl (λh6=>?_) λh6=>?_
 ·refine aU4 ?_
  exact rV
 refine aU3 ?_
 refine oCq rfl (λw1 h1=>c23 w1) (oAl (λb7 _=>?_) Yd)
 refine Qaf ?_
 refine Qt (α:=((Nat×Int)×(Option Addr×Nat)×List SItm)×(Option Addr×Nat)×List Int) [4,6,7,8,9,10,11,12,13,14,15,16,17,18,19,44,45,46,47,48,49,50,51,52,53,54,55,56,57,58,59,60,61,62,63,64,65,66,67,68,69,70,71,72,73,74,75,76,77,78,79,80,81,82,83,84,85,86,87,88,89,90,91,92,93,94,95,96,97,98,99,100,101,102,103,104,105,106,107,108,109,110,111,112,113,114,115,116,117,118,119,120,121,122,123,124,125,126,127,128,129,130,131,132,133,134,135,136,137,138,139,140,141,142,143,144,145,146,147,148,149,150,151,152,153,154,155,156,157,158,159,160,161,162,163,164,165,166,167,168,169,170,171,172,173,174,175,176,177,178,179,180,181,182,183,184,185,186,187,188,189,190,191,192,193,194,195,196,197] (λy=>[(7,.int .i64 (y.1.1.1:Int)),(6,.slice y.2.1.1 y.2.2.length y.2.1.2)]) (λy=>HS w [] [.own (.slice y.2.1.1 y.2.2.length y.2.1.2) 3 1 y.2.2.length (y.2.2.map nv),.own (.slice y.1.2.1.1 y.1.2.2.length y.1.2.1.2) 72 2 y.1.2.2.length (y.1.2.2.flatMap SItm.vals),.blk b7 63 2 [.int .i64 y.1.1.2,.slice y.1.2.1.1 y.1.2.2.length y.1.2.1.2]]) (λy=>y.1.1.1<=L.length/\OnceI y.1.1.2 y.1.2.2 (λk=>(nth L k).d) y.2.2 y.1.1.1) (λy=>L.length-y.1.1.1) (((0,256),(none,0),[]),(none,0),[]) ⟨Nat.zero_le _,OnceI.nil _⟩ aSx (λw h=>((h.own_nil 72 2).own_nil 3 1).ent aEt) (λ⟨⟨⟨i,nx⟩,⟨ga,gc⟩,l⟩,⟨ia,ic⟩,ids⟩hI0=>?_)
 dsimp only
 simp only[]at hI0
 obtain⟨hi1,hI⟩:=hI0
 have hL10:L.length<=10/\K.length<=10:=by first|omega|(simp_all;omega)
 refine aU8 ?_
 refine sCd rfl (λh8=>?_) λh8=>?_
 ·have hiL:i<L.length:=by omega
  have hse:=hs.en i hiL
  have hsa:=hs.au i hiL
  refine aU8 ?_
  refine o_p (Qa rfl rfl rfl QdS (i) om om (Rw.some hs.row om)) rfl (o_q (Qm _ rfl rfl Xr rfl (Rw.rd hs.row hiL)) rfl (oCq rfl (λw1 h1=>c7 w1 (nth L i).d (nth L i).ea (nth L i).ec (nth L i).aa (nth L i).ac) (aU2 ?_)))
  refine oOr 7 56 63 rfl
   (λhg9 _=>by
    refine aU5 ?_
    refine o_p (Qa rfl rfl rfl QdS (i) om om (Rw.some hs.row om)) rfl (aU ?_)
    refine o_q (Qm _ rfl rfl Xr rfl (Rw.rd hs.row hiL)) rfl (aU ?_)
    refine oCq rfl (λw1 h1=>by have hf:QnQ (nth L i).d=true:=(by have hq:=hg9;simpa using hq);obtain⟨h20,h21⟩:(nth L i).d.en.length<=20/\(nth L i).d.au.length<=20:=(by unfold QnQ at hf;simpa using hf);exact c14 w1 (nth L i).d (nth L i).ea (nth L i).ec (nth L i).aa (nth L i).ac (hse.later h1) (hsa.later h1) om om) (aU2 ?_)
    exact oJf 7 63)
   (λhg11 _=>by
    refine aU6 ?_
    exact oJt 7 63) ?_
  refine aU ?_
  refine sCd rfl (λh13=>?_) λh13=>?_
  ·refine aU4 ?_
   exact rV
  have hfd:QnQ (nth L i).d=true/\(Q9 (nth L i).d).2=0:=by have hq:=h13;simpa using hq
  have hlk:(nth L i).d.en.length<=16/\(nth L i).d.au.length<=16:=(Qbq hfd.2).2.1
  obtain⟨he0,hI2,hid0,hsame⟩:=hI.add om hfd.2
  obtain⟨T,hT⟩:∃T,Y0 nx l (nth L i).d=T:=⟨_,rfl⟩
  rw[hT]at he0 hI2 hid0 hsame
  have hcn:=hI.cnt
  have hm:l.length<=100000:=om
  have hb:=hI.bd
  have hcT0:=hI2.cnt
  have hmT:T.l.length<=100000:=om
  have hbT:=hI2.bd
  have hfs:QfQ T.l=true:=Qpc om hI2.its
  have hil:=hI.len
  have hil2:(ids++[T.id]).length=i+1:=hI2.len
  refine aU2 ?_
  refine Qi (L':=[(0,_),(1,_),(5,_),(6,_),(7,_),(33,_),(34,_),(35,_),(36,_),(37,_),(38,_),(42,_),(43,_)]) aSx (λ_ h=>h) ?_
  refine Xv (α:=(Option Addr×Nat)×Nat) [8,9,10,64,65,66,67,68,69,70,71,72,73,74,75] (λy=>[(8,.pointer (some ⟨y.2,0,none⟩)),(9,.int .i64 T.id),(10,.int .i64 T.e)]) (λy=>HS w [] [.own (.slice y.1.1 T.l.length y.1.2) 72 2 T.l.length (T.l.flatMap SItm.vals),.blk y.2 63 2 [.int .i64 T.nx,.slice y.1.1 T.l.length y.1.2],.own (.slice ia ids.length ic) 3 1 ids.length (ids.map nv),.blk b7 63 2 [.int .i64 nx,.slice ga l.length gc]]) (λ_=>True) ?_ ?_
  ·skip
   refine Qp [13] mixed ?_
   refine dLn 0 [[]] ?_
   refine dP 2 ?_
   refine dP 3 ?_
   refine dV 4 rfl (Qa rfl rfl rfl QdS (i) om om (Rw.some hs.row om)) (dQ 5 [[]] rfl (Qm _ rfl rfl Xr rfl (Rw.rd hs.row hiL)) (Z5 1 12 rfl rfl (QT rfl QhA rfl (λw1 h1=>c25 w1 nx ga gc l (HS.rw_own (a:=ga) (l:=l) sv2 h1 aPk rfl) hm hb)) (Xf rfl Yd) (by kernel_rfl) (λw h=>h.ent aEt) rfl rfl (λgS _=>?_) (λb14 _=>?_)))
   ·skip
    refine dBa ?_
    refine Z5 6 12 rfl rfl (QT rfl Qj2 rfl (λw1 h1=>c10 w1 (nth L i).d (nth L i).ea (nth L i).ec (nth L i).aa (nth L i).ac (hse.later h1) (hsa.later h1) om om)) (Xf rfl Yd) (by kernel_rfl) (λw h=>h.ent aEt) rfl rfl (λgD _=>?_) (λb15 _=>?_)
    ·skip
     refine dBa ?_
     refine Z5 7 12 rfl rfl (QT rfl QdN rfl (λw1 h1=>Qow w1 nx gS.1 gS.2 l (nth L i).d gD.1.1 gD.1.2 gD.2.1 gD.2.2 T hT (HS.rw_own (a:=gS.1) (l:=l) sv2 h1 aPk rfl) hm hb (HS.rw_own (a:=gD.1.1) (l:=(nth L i).d.en) av4 h1 aPk rfl) (HS.rw_own (a:=gD.2.1) (l:=(nth L i).d.au) av4 h1 aPk rfl) om om)) (Xf rfl Yd) (by kernel_rfl) (λw h=>h.ent aEt) rfl rfl (λgT _=>?_) (λb16 _=>?_)
     ·skip
      refine dBa ?_
      refine dP 8 ?_
      refine dP 9 ?_
      refine dP 10 ?_
      refine dP 11 ?_
      refine dH 12 rfl (Xf rfl Yd) (λb17 _=>dBa ?_)
      refine dSt 13 ?_ (hl:=(by simp only[Qb,List.length_set,List.length_cons,List.length_nil,List.length_map];omega))
      refine dTu [] ?_
      refine dP 14 ?_
      refine dP 15 ?_
      refine dNi ?_
      exact Qn (gT,b17) trivial aSx (λw h=>h.ent aEt)
     skip
     refine dBa ?_
     refine dH 7 rfl (QT rfl QdN rfl (λw1 h1=>Qow w1 nx gS.1 gS.2 l (nth L i).d gD.1.1 gD.1.2 gD.2.1 gD.2.2 T hT (HS.rw_own (a:=gS.1) (l:=l) sv2 h1 aPk rfl) hm hb (HS.rw_own (a:=gD.1.1) (l:=(nth L i).d.en) av4 h1 aPk rfl) (HS.rw_own (a:=gD.2.1) (l:=(nth L i).d.au) av4 h1 aPk rfl) om om)) (λgT _=>dBa ?_)
     refine dP 8 ?_
     refine dP 9 ?_
     refine dP 10 ?_
     refine dP 11 ?_
     refine dSt 13 ?_ (hl:=(by simp only[Qb,List.length_set,List.length_cons,List.length_nil,List.length_map];omega))
     refine dTu [] ?_
     refine dP 14 ?_
     refine dP 15 ?_
     refine dNi ?_
     exact Qn (gT,b16) trivial aSx (λw h=>h.ent aEt)
    skip
    refine dBa ?_
    refine dH 6 rfl (QT rfl Qj2 rfl (λw1 h1=>c10 w1 (nth L i).d (nth L i).ea (nth L i).ec (nth L i).aa (nth L i).ac (hse.later h1) (hsa.later h1) om om)) (λgD _=>dBa ?_)
    refine dH 7 rfl (QT rfl QdN rfl (λw1 h1=>Qow w1 nx gS.1 gS.2 l (nth L i).d gD.1.1 gD.1.2 gD.2.1 gD.2.2 T hT (HS.rw_own (a:=gS.1) (l:=l) sv2 h1 aPk rfl) hm hb (HS.rw_own (a:=gD.1.1) (l:=(nth L i).d.en) av4 h1 aPk rfl) (HS.rw_own (a:=gD.2.1) (l:=(nth L i).d.au) av4 h1 aPk rfl) om om)) (λgT _=>dBa ?_)
    refine dP 8 ?_
    refine dP 9 ?_
    refine dP 10 ?_
    refine dP 11 ?_
    refine dSt 13 ?_ (hl:=(by simp only[Qb,List.length_set,List.length_cons,List.length_nil,List.length_map];omega))
    refine dTu [] ?_
    refine dP 14 ?_
    refine dP 15 ?_
    refine dNi ?_
    exact Qn (gT,b15) trivial aSx (λw h=>h.ent aEt)
   skip
   refine dBa ?_
   refine dH 1 rfl (QT rfl QhA rfl (λw1 h1=>c25 w1 nx ga gc l (HS.rw_own (a:=ga) (l:=l) sv2 h1 aPk rfl) hm hb)) (λgS _=>dBa ?_)
   refine dH 6 rfl (QT rfl Qj2 rfl (λw1 h1=>c10 w1 (nth L i).d (nth L i).ea (nth L i).ec (nth L i).aa (nth L i).ac (hse.later h1) (hsa.later h1) om om)) (λgD _=>dBa ?_)
   refine dH 7 rfl (QT rfl QdN rfl (λw1 h1=>Qow w1 nx gS.1 gS.2 l (nth L i).d gD.1.1 gD.1.2 gD.2.1 gD.2.2 T hT (HS.rw_own (a:=gS.1) (l:=l) sv2 h1 aPk rfl) hm hb (HS.rw_own (a:=gD.1.1) (l:=(nth L i).d.en) av4 h1 aPk rfl) (HS.rw_own (a:=gD.2.1) (l:=(nth L i).d.au) av4 h1 aPk rfl) om om)) (λgT _=>dBa ?_)
   refine dP 8 ?_
   refine dP 9 ?_
   refine dP 10 ?_
   refine dP 11 ?_
   refine dSt 13 ?_ (hl:=(by simp only[Qb,List.length_set,List.length_cons,List.length_nil,List.length_map];omega))
   refine dTu [] ?_
   refine dP 14 ?_
   refine dP 15 ?_
   refine dNi ?_
   exact Qn (gT,b14) trivial aSx (λw h=>h.ent aEt)
  intro⟨⟨ta,tc⟩,b8⟩ _
  dsimp only
  refine aU6 ?_
  refine oOr 4 78 82 rfl
   (λhg18 _=>by
    refine aU3 ?_
    refine oCq rfl (λw1 h1=>c26 w1 T.nx ta tc T.l (HS.rw_own (a:=ta) (l:=T.l) sv2 h1 aPk rfl) hmT hbT) (aU2 ?_)
    exact oJf 4 82)
   (λhg20 _=>by
    refine aU3 ?_
    exact oJt 4 82) ?_
  refine aU ?_
  refine oOr 4 83 87 rfl
   (λhg22 _=>by
    refine aU3 ?_
    refine oCq rfl (λw1 h1=>c27 w1 T.nx ta tc T.l (HS.rw_own (a:=ta) (l:=T.l) sv2 h1 aPk rfl) om (λx hx=>Nat.le_trans (hbT x hx) (by decide))) (aU2 ?_)
    exact oJf 4 87)
   (λhg24 _=>by
    refine aU3 ?_
    exact oJt 4 87) ?_
  refine aU ?_
  refine sCd rfl (λh26=>?_) λh26=>?_
  ·exfalso;have hq:=h26;simp[he0,hI2.sto,hfs]at hq
  refine aU2 ?_
  refine Qdg [.blk b8 63 2 [.int .i64 T.nx,.slice ta T.l.length tc],.own (.slice ta T.l.length tc) 72 2 T.l.length (T.l.flatMap SItm.vals)] [] mixed ?_
  refine dLn 0 [] ?_
  refine dP 1 ?_
  refine dP 2 ?_
  refine dH 3 rfl (Qd (cs:=[_]) rfl rfl QD Ye rfl rfl rfl) (λb27 _=>dH 4 rfl (QA [.int .i64 T.id] rfl rfl rfl QD Tryz.underlying65 Ye rfl aPk (QZ aPk) rfl (by intro u hu;simp only[List.mem_cons,List.mem_nil_iff,or_false]at hu;subst hu;rfl) om (by simp only[maxLen];omega)) (λb28 _=>?_))
  obtain⟨ia2,ic2⟩:=b28
  dsimp only
  refine Qs (show _=Value.slice ia2 (ids++[T.id]).length ic2 from by rw[List.length_append];rfl) (dSt 5 ?_ (hl:=(by simp only[Qb,List.length_set,List.length_cons,List.length_nil,List.length_map];omega)))
  refine dP 6 ?_
  refine dNi ?_
  refine aU6 ?_
  refine Qi (L':=[(0,_),(1,_),(5,_),(6,_),(7,_),(9,_),(11,_),(33,_),(34,_),(35,_),(36,_),(37,_),(38,_),(42,_),(43,_)]) aSx (λ_ h=>h) ?_
  refine Qt (α:=Nat) [4,11,12,93,94,95,96,97,98,99,100,101,102,103,104,105,106,107,108,109,110,111,112,113,114,115,116,117,118,119,120,121] (λk=>[(11,.int .i64 (k:Int))]) (λ_=>HS w [] [.own (.slice ia2 (ids++[T.id]).length ic2) 3 1 (ids++[T.id]).length ((ids++[T.id]).map nv),.own (.slice ta T.l.length tc) 72 2 T.l.length (T.l.flatMap SItm.vals),.blk b7 63 2 [.int .i64 T.nx,.slice ta T.l.length tc]]) (λk=>k<=i) (λk=>i-k) 0 (Nat.zero_le _) aSx (λw h=>by rw[List.map_append,List.length_append];exact h.ent aEt) (λk hk1=>?_)
  refine aU7 ?_
  refine sCd rfl (λh29=>?_) λh29=>?_
  ·have hki:k<i:=by omega
   have hkL:k<L.length:=om
   have hlk2:(nth L k).d.en.length<=16/\(nth L k).d.au.length<=16:=(Qbq (hI.good k hki)).2.1
   refine Yr (λw h=>Vl.some (HS.vl_own (a:=ia2) (t:=3) (cs:=(ids++[T.id]).map nv) h aPk) (by rw[List.length_map,List.length_append];exact Nat.succ_pos _)) λhsm=>?_
   have hnk:(ids++[T.id]).getD k 0=nth ids k:=YE om
   have hsk2:=hsame k hki
   refine aU4 ?_
   refine Qp [] mixed ?_
   refine dP 0 ?_
   refine dP 1 ?_
   refine dV 2 rfl (Qa rfl rfl rfl QdS (k) om om (Rw.some hs.row om)) (dQ 3 [] rfl (Qm _ rfl rfl Xr rfl (Rw.rd hs.row hkL)) (dP 4 ?_))
   refine dP 5 ?_
   refine dV 6 rfl (Qa rfl rfl rfl QdS (i) om om (Rw.some hs.row om)) (dQ 7 [] rfl (Qm _ rfl rfl Xr rfl (Rw.rd hs.row hiL)) (dQ 8 [] rfl (Qh rfl Qnx rfl (λw1 h1=>c18g w1 (nth L k).d (nth L k).ea (nth L k).ec (nth L k).aa (nth L k).ac (nth L i).d (nth L i).ea (nth L i).ec (nth L i).aa (nth L i).ac ((hs.en k hkL).later h1) ((hs.au k hkL).later h1) (hse.later h1) (hsa.later h1) om om om om)) (dP 9 ?_)))
   refine dNi ?_
   refine aU5 ?_
   refine o_p (Qa rfl rfl rfl QD (k) om om hsm) rfl (o_q (Qo rfl rfl XB (λw h=>(HS.vl_own (a:=ia2) (t:=3) (cs:=(ids++[T.id]).map nv) h aPk).rd (ZL (k:=k) (by rw[List.length_append];show k<_+1;omega)))) rfl (aU2 ?_))
   refine o_p (Qez rfl rfl rfl Tryz.underlying4) rfl (aU ?_)
   refine XH 6 115 121 rfl
    (λhg30 _=>by
     refine aU5 ?_
     refine o_p (Qa rfl rfl rfl QD (k) om om hsm) rfl (aU ?_)
     refine o_q (Qo rfl rfl XB (λw h=>(HS.vl_own (a:=ia2) (t:=3) (cs:=(ids++[T.id]).map nv) h aPk).rd (ZL (k:=k) (by rw[List.length_append];show k<_+1;omega)))) rfl (aU2 ?_)
     exact oJt 6 121)
    (λhg32 _=>by
     refine aU5 ?_
     exact oJf 6 121) ?_
   refine aU ?_
   refine sCd rfl (λh34=>?_) λh34=>?_
   ·exfalso;have hq:=h34;by_cases h0:nth ids k=0<;>by_cases h8:(nth L k).d=(nth L i).d<;>simp_all
   refine aU2 ?_
   refine Qi (L':=[(0,_),(1,_),(5,_),(6,_),(7,_),(9,_),(11,_),(33,_),(34,_),(35,_),(36,_),(37,_),(38,_),(42,_),(43,_)]) aSx (λ_ h=>h) ?_
   refine aT3 ?_
   refine aU2 ?_
   exact sBk (k+1)
  refine Qj rfl ?_
  refine aU7 ?_
  refine XH 6 126 132 rfl
   (λhg35 _=>by
    refine aU5 ?_
    refine o_p (Qa rfl rfl rfl QjB (i) om om (Rw.some hsk om)) rfl (aU ?_)
    refine o_q (Qc rfl rfl Qla (hsk.rdj 0 (i:=i) om rfl)) rfl (aU2 ?_)
    exact oJt 6 132)
   (λhg37 _=>by
    refine aU5 ?_
    exact oJf 6 132) ?_
  refine aU ?_
  refine XH 5 133 138 rfl
   (λhg39 _=>by
    refine aU8 ?_
    exact oJt 5 138)
   (λhg41 _=>by
    refine aU4 ?_
    exact oJf 5 138) ?_
  refine aU ?_
  refine sCd rfl (λh43=>?_) λh43=>?_
  ·have h1l:1<T.l.length:=by have hq:=h43;simp at hq;omega
   obtain⟨hcE,hcT,hI3⟩:=hI2.col om h1l
   have hmC:(T.l.drop 1).length<=100000:=by rw[List.length_drop];omega
   have hbC:=hI3.bd
   have hul0:((T.l.drop 1).map SItm.id).length=T.l.length-1:=by rw[List.length_map,List.length_drop]
   have hum:((T.l.drop 1).map SItm.id).length<=100000:=om
   have hui:∀x∈((T.l.drop 1).map SItm.id),x<=9223372036854775807:=λx hx=>by obtain⟨y,hy,rfl⟩:=List.mem_map.1 hx;obtain⟨m9,hm9,e9⟩:=List.getElem_of_mem (List.mem_of_mem_drop hy);have h8:=Qb2 hI2.sto hm9;have h7:nth T.l m9=y:=QH (by rw[List.getElem?_eq_getElem hm9,e9]);rw[h7]at h8;omega
   refine Yr (λw h=>Rw.some (HS.rw_own (a:=ta) (l:=T.l) sv2 h aPk rfl) om) λhst9=>aU4 ?_
   refine o_p (Qa rfl rfl rfl XY (0) om om hst9) rfl (aU ?_)
   refine o_q (Qo rfl rfl XB (λw h=>(HS.rw_own (a:=ta) (l:=T.l) sv2 h aPk rfl).rdj 0 (i:=0) om rfl)) rfl (aU3 ?_)
   refine Qi (L':=[(0,_),(1,_),(5,_),(6,_),(7,_),(9,_),(11,_),(13,_),(33,_),(34,_),(35,_),(36,_),(37,_),(38,_),(42,_),(43,_)]) aSx (λ_ h=>h) ?_
   refine aU9 ?_
   refine Qt (α:=Nat×Option Addr×Nat) [14,15,144,145,146,147,148,149,150,151,152,153,154,155,156,157,158,159] (λy=>[(15,.int .i64 ((y.1+1:Nat):Int)),(14,.slice y.2.1 (((T.l.drop 1).map SItm.id).take y.1).length y.2.2)]) (λy=>HS w [] [.own (.slice y.2.1 (((T.l.drop 1).map SItm.id).take y.1).length y.2.2) 3 1 (((T.l.drop 1).map SItm.id).take y.1).length ((((T.l.drop 1).map SItm.id).take y.1).map nv),.own (.slice ia2 (ids++[T.id]).length ic2) 3 1 (ids++[T.id]).length ((ids++[T.id]).map nv),.own (.slice ta T.l.length tc) 72 2 T.l.length (T.l.flatMap SItm.vals),.blk b7 63 2 [.int .i64 T.nx,.slice ta T.l.length tc]]) (λy=>y.1<=T.l.length-1) (λy=>T.l.length-1-y.1) (0,none,0) (Nat.zero_le _) aSx (λw h=>(h.own_nil 3 1).ent aEt) (λ⟨v,ua,uc⟩hv1=>?_)
   dsimp only
   simp only[]at hv1
   have hul:(((T.l.drop 1).map SItm.id).take v).length=v:=by rw[List.length_take];omega
   refine aU9 ?_
   refine sCd rfl (λh44=>?_) λh44=>?_
   ·have hv9:v+1<T.l.length:=by omega
    have hst:(((T.l.drop 1).map SItm.id).take (v+1))=(((T.l.drop 1).map SItm.id).take v)++[(nth T.l (v+1)).id]:=by rw[List.take_add_one,List.getElem?_map,List.getElem?_drop,Nat.add_comm 1 v,QB hv9];rfl
    have hstl:(((T.l.drop 1).map SItm.id).take (v+1)).length=(((T.l.drop 1).map SItm.id).take v).length+1:=by rw[hst,List.length_append];rfl
    have hstm:(((T.l.drop 1).map SItm.id).take (v+1)).map nv=(((T.l.drop 1).map SItm.id).take v).map nv++[.int .i64 (nth T.l (v+1)).id]:=by rw[hst,List.map_append];rfl
    refine aU8 ?_
    refine o_p (Qa rfl rfl rfl XY (v+1) om om hst9) rfl (aU ?_)
    refine o_q (Qo rfl rfl XB (λw h=>(HS.rw_own (a:=ta) (l:=T.l) sv2 h aPk rfl).rdj 0 (i:=v+1) hv9 rfl)) rfl (o_h (Qd (cs:=[_]) rfl rfl QD Ye rfl rfl rfl) rfl (λb45 _=>o_h (QA [.int .i64 (nth T.l (v+1)).id] rfl rfl rfl QD Tryz.underlying65 Ye rfl aPk (QZ aPk) rfl (by intro u hu;simp only[List.mem_cons,List.mem_nil_iff,or_false]at hu;subst hu;rfl) om (by simp only[maxLen];omega)) rfl (λb46 _=>Ql (show _=Value.slice b46.1 (((T.l.drop 1).map SItm.id).take (v+1)).length b46.2 from by rw[hstl]) (aU3 ?_))))
    refine Qi (L':=[(0,_),(1,_),(5,_),(6,_),(7,_),(9,_),(11,_),(13,_),(14,_),(15,_),(33,_),(34,_),(35,_),(36,_),(37,_),(38,_),(42,_),(43,_)]) aSx (λ_ h=>h) ?_
    refine aT3 ?_
    refine aU2 ?_
    exact QQ (v+1,b46.1,b46.2) (by(try simp only[]);omega) (by(try simp only[]);omega) (by dsimp only;exact aSx) (λw h=>by dsimp only;rw[hstl,hstm];exact h.ent aEt)
   have e8:v=T.l.length-1:=om
   subst e8
   have huA:(((T.l.drop 1).map SItm.id).take (T.l.length-1))=((T.l.drop 1).map SItm.id):=List.take_of_length_le om
   rw[huA]
   refine Qj rfl ?_
   refine aU3 ?_
   refine oCh rfl (λw1 h1=>c25 w1 T.nx ta tc T.l (HS.rw_own (a:=ta) (l:=T.l) sv2 h1 aPk rfl) hmT hbT) (λgS _=>aU ?_)
   refine oCh rfl (λw1 h1=>c28v w1 T.nx gS.1 gS.2 T.l ua uc ((T.l.drop 1).map SItm.id) (T.l.drop 1) [(nth T.l 0).id] hcT hcE (HS.rw_own (a:=gS.1) (l:=T.l) sv2 h1 aPk rfl) hmT hbT (HS.vl_own (a:=ua) (t:=3) (cs:=((T.l.drop 1).map SItm.id).map nv) h1 aPk) hum hui) (λgC _=>aU4 ?_)
   refine oAl (λb47 _=>?_) Yd
   refine aU6 ?_
   refine Qi (L':=[(0,_),(1,_),(5,_),(6,_),(7,_),(9,_),(11,_),(13,_),(14,_),(15,_),(16,_),(17,_),(18,_),(33,_),(34,_),(35,_),(36,_),(37,_),(38,_),(42,_),(43,_)]) aSx (λ_ h=>h) ?_
   refine aU4 ?_
   refine oOr 6 170 176 rfl
    (λhg48 _=>by
     refine aU5 ?_
     refine o_h (Qd (cs:=[_]) rfl rfl QD Ye rfl rfl rfl) rfl (λb50 _=>aU ?_)
     refine oCq rfl (λw1 h1=>Qrp w1 gC.2.1 gC.2.2 (some ⟨b50,0,none⟩) 1 [(nth T.l 0).id] (HS.vl_own (a:=gC.2.1) (t:=3) (cs:=[.int .i64 (nth T.l 0).id]) h1 aPk) (h1.vl_blk aPk) (by simp)) (aU2 ?_)
     exact oJf 6 176)
    (λhg51 _=>by
     refine aU5 ?_
     exact oJt 6 176) ?_
   refine aU ?_
   refine oOr 4 177 181 rfl
    (λhg53 _=>by
     refine aU3 ?_
     refine oCq rfl (λw1 h1=>c26 w1 T.nx gC.1.1 gC.1.2 (T.l.drop 1) (HS.rw_own (a:=gC.1.1) (l:=(T.l.drop 1)) sv2 h1 aPk rfl) hmC hbC) (aU2 ?_)
     exact oJf 4 181)
    (λhg55 _=>by
     refine aU3 ?_
     exact oJt 4 181) ?_
   refine aU ?_
   refine sCd rfl (λh57=>?_) λh57=>?_
   ·exfalso;have hq:=h57;rw[hI3.sto]at hq;simp at hq
   refine ZW ?_
   refine Qi (L':=[(0,_),(1,_),(5,_),(6,_),(7,_),(9,_),(11,_),(13,_),(14,_),(15,_),(19,_),(33,_),(34,_),(35,_),(36,_),(37,_),(38,_),(42,_),(43,_)]) aSx (λ_ h=>h) ?_
   refine Yr (λw h=>QcQ (a:=ia2) (cap:=ic2) (n:=(ids++[T.id]).length) (by rw[List.length_append];exact Nat.succ_pos _) h aPk) λhgn=>?_
   obtain⟨g9,hg9,hcn1,hcn2⟩:=hgn
   subst hg9
   refine QcY (λw h=>HS.own_at (g:=g9) (cap:=ic2) h aPk) (Qt (α:=Nat) [19,183,184,185,186,187,188,189,190,191,192,193,194,195,196,197] (λk=>[(19,.int .i64 (k:Int))]) (λk=>HS w [] [.blk g9 3 (ic2*1) ((Qas (nth T.l 0).id (ids++[T.id]) k).map nv),.own (.slice gC.1.1 (T.l.drop 1).length gC.1.2) 72 2 (T.l.drop 1).length ((T.l.drop 1).flatMap SItm.vals),.blk b7 63 2 [.int .i64 T.nx,.slice gC.1.1 (T.l.drop 1).length gC.1.2]]) (λk=>k<=(ids++[T.id]).length) (λk=>(ids++[T.id]).length-k) 0 (Nat.zero_le _) aSx (λw h=>by rw[Qqs];exact h.ent aEt) (λk hk1=>?_))
   refine aU8 ?_
   refine sCd rfl (λh58=>?_) λh58=>?_
   ·have hk9:k<(ids++[T.id]).length:=by omega
    refine aU7 ?_
    refine o_p (Qa rfl rfl rfl QD (k) om om rfl) rfl (o_q (Qo rfl rfl XB (λw h=>h.rd_blk (Mc:=[]) aPk (Qmf hk9) (by simp))) rfl (aU3 ?_))
    refine sCd rfl (λh59=>?_) λh59=>?_
    ·have heq:nth (ids++[T.id]) k=(nth T.l 0).id:=h59
     refine aU3 ?_
     refine o_p (Qa rfl rfl rfl QD (k) om om rfl) rfl (Qcq (XW rfl rfl rfl XB rfl aPt (by rw[List.length_map,QcI _ _ _ om];show 0+k*1+1<=_;omega) rfl) (λ_ _=>aU2 ?_))
     refine Qi (L':=[(0,_),(1,_),(5,_),(6,_),(7,_),(9,_),(11,_),(13,_),(14,_),(15,_),(19,_),(33,_),(34,_),(35,_),(36,_),(37,_),(38,_),(42,_),(43,_)]) aSx (λ_ h=>h) ?_
     refine aT3 ?_
     refine aU2 ?_
     exact QQ (k+1) om om aSx (λw h=>by have h2:=h.pick (A:=.blk g9 3 (ic2*1) (Qu ((Qas (nth T.l 0).id (ids++[T.id]) k).map nv) (0+k*1) [.int .i64 0])) aPk;rw[QnF hk9 heq]at h2;exact h2.ent aEt)
    have hne:¬nth (ids++[T.id]) k=(nth T.l 0).id:=h59
    refine aT5 ?_
    refine aU2 ?_
    exact QQ (k+1) om om aSx (λw h=>by rw[QoI hk9 hne];exact h.ent aEt)
   have e10:k=(ids++[T.id]).length:=om
   subst e10
   rw[QnG]
   refine QcY (λw h=>HS.own_shut (t:=3) (sz:=1) (n:=(List.map (λx=>if x=(nth T.l 0).id then 0 else x) (ids++[T.id])).length) (cap:=ic2) (h.ent (Bs:=[.blk g9 3 (ic2*1) ((List.map (λx=>if x=(nth T.l 0).id then 0 else x) (ids++[T.id])).map nv),.own (.slice gC.1.1 (T.l.drop 1).length gC.1.2) 72 2 (T.l.drop 1).length ((T.l.drop 1).flatMap SItm.vals),.blk b7 63 2 [.int .i64 T.nx,.slice gC.1.1 (T.l.drop 1).length gC.1.2]]) aEt) (by rw[List.length_map,Nat.mul_one]) (by rw[List.length_map];exact hcn1) hcn2) (Qj rfl ?_)
   refine aT4 ?_
   refine aU2 ?_
   exact sBk (((i+1,T.nx),(gC.1.1,gC.1.2),(T.l.drop 1)),(some ⟨g9,0,none⟩,ic2),(List.map (λx=>if x=(nth T.l 0).id then 0 else x) (ids++[T.id]))) (by(try simp only[]);omega) ⟨by(try simp only[]);omega,hI3⟩ (by dsimp only;rw[show(List.map (λx=>if x=(nth T.l 0).id then 0 else x) (ids++[T.id])).length=(ids++[T.id]).length from List.length_map ..];exact aSx)
  refine aT5 ?_
  refine aU2 ?_
  exact sBk (((i+1,T.nx),(ta,tc),T.l),(ia2,ic2),(ids++[T.id])) (by(try simp only[]);omega) ⟨by(try simp only[]);omega,hI2⟩
 have e2:i=L.length:=om
 subst e2
 have hcn:=hI.cnt
 have hil:=hI.len
 have hm:l.length<=100000:=om
 have hb:=hI.bd
 obtain⟨TH,qH9,hTH⟩:∃T d,OnceT 3 l (ZC (3:Int) 4 2 (Q7 3 l) l.length) T d:=QfY (co:=3) (.inr rfl) hI.sto om
 obtain⟨TI,qI9,hTI⟩:∃T d,OnceT 2 l (ZC (2:Int) 4 2 (Q7 2 l) l.length) T d:=QfY (co:=2) (.inl rfl) hI.sto om
 have hstr:=Qe5 hI
 refine Qj rfl ?_
 refine aU3 ?_
 refine oCh rfl (λw1 h1=>c25 w1 nx ga gc l (HS.rw_own (a:=ga) (l:=l) sv2 h1 aPk rfl) hm hb) (λgS _=>oCq rfl (λw1 h1=>by have h9:=c30 w1 nx gS.1 gS.2 l (HS.rw_own (a:=gS.1) (l:=l) sv2 h1 aPk rfl) hm hb;rw[if_pos hI.sto,hI.sto]at h9;exact h9) (aU9 ?_))
 refine oCh rfl (λw1 h1=>c25 w1 nx ga gc l (HS.rw_own (a:=ga) (l:=l) sv2 h1 aPk rfl) hm hb) (λgS _=>oCh rfl (λw1 h1=>c31o w1 nx gS.1 gS.2 l (HS.rw_own (a:=gS.1) (l:=l) sv2 h1 aPk rfl) hm hb hI.sto) (λ⟨⟨uH,cH⟩,LH⟩hLH=>aU3 ?_))
 refine oAl (λb60 _=>?_) YQ
 refine aU4 ?_
 refine Qi (L':=[(0,_),(1,_),(5,_),(6,_),(7,_),(20,_),(21,_),(22,_),(23,_),(33,_),(34,_),(35,_),(36,_),(37,_),(38,_),(42,_),(43,_)]) aSx (λ_ h=>h) ?_
 refine aU2 ?_
 refine oCh rfl (λw1 h1=>c25 w1 nx ga gc l (HS.rw_own (a:=ga) (l:=l) sv2 h1 aPk rfl) hm hb) (λgS _=>oCh rfl (λw1 h1=>c32o w1 nx gS.1 gS.2 l (HS.rw_own (a:=gS.1) (l:=l) sv2 h1 aPk rfl) hm hb hI.sto) (λ⟨⟨uI,cI⟩,LI⟩hLI=>aU3 ?_))
 refine oAl (λb61 _=>?_) YQ
 refine aU9 ?_
 refine oOr 3 218 221 rfl
  (λhg62 _=>by
   refine aU4 ?_
   exact oJf 3 221)
  (λhg64 _=>by
   refine aU2 ?_
   exact oJt 3 221) ?_
 refine aU ?_
 refine oOr 3 222 225 rfl
  (λhg66 _=>by
   refine aU4 ?_
   exact oJf 3 225)
  (λhg68 _=>by
   refine aU2 ?_
   exact oJt 3 225) ?_
 refine aU ?_
 refine sCd rfl (λh70=>?_) λh70=>?_
 ·exfalso;simp at h70
 have hlH:LH.length<=1000:=by have h9:=(Qd6 hTH.few).len;rw[<-hLH,Qg]at h9;exact h9
 have hlI:LI.length<=1000:=by have h9:=(Qd6 hTI.few).len;rw[<-hLI,Qg]at h9;exact h9
 have hsmH:Sm 1000 (pln LH):=Qkv (by rw[hLH];exact hTH.few)
 have hsmI:Sm 1000 (pln LI):=Qkv (by rw[hLI];exact hTI.few)
 refine aU3 ?_
 refine Qi (L':=[(0,_),(1,_),(5,_),(6,_),(7,_),(20,_),(22,_),(24,_),(33,_),(34,_),(35,_),(36,_),(37,_),(38,_),(42,_),(43,_)]) aSx (λ_ h=>h) ?_
 refine aU4 ?_
 refine Qt (α:=Nat) [4,26,27,28,29,30,31,32,226,227,228,229,230,231,232,233,234,235,236,237,238,239,240,241,242,243,244,245,246,247,248,249,250,251,252,253,254,255,256,257,258,259,260,261,262,263,264,265,266,267,268,269,270,271,272,273,274,275,276,277,278,279,280,281,282,283,284,285,286,287,288,289,290,291,292,293,294,295,296,297,298,299,300,301,302,303,304,305] (λj=>[(26,.int .i64 (j:Int))]) (λ_=>HS w [] [.nodes 50 87 (some ⟨uI,0,none⟩) cI LI,.blk b61 24 4 [.int .i64 2,.int .i64 4,.int .i64 2,.slice (some ⟨uI,0,none⟩) LI.length cI],.nodes 50 87 (some ⟨uH,0,none⟩) cH LH,.blk b60 24 4 [.int .i64 3,.int .i64 4,.int .i64 2,.slice (some ⟨uH,0,none⟩) LH.length cH],.own (.slice ia ids.length ic) 3 1 ids.length (ids.map nv),.own (.slice ga l.length gc) 72 2 l.length (l.flatMap SItm.vals),.blk b7 63 2 [.int .i64 nx,.slice ga l.length gc]]) (λj=>j<=L.length) (λj=>L.length-j) 0 (Nat.zero_le _) aSx (λw h=>h.ent aEt) (λj hj1=>?_)
 refine aU8 ?_
 refine sCd rfl (λh71=>?_) λh71=>?_
 ·have hjL:j<L.length:=by omega
  refine Yr (λw h=>Vl.some (HS.vl_own (a:=ia) (t:=3) (cs:=ids.map nv) h aPk) (by rw[List.length_map];omega)) λhsm=>aU8 ?_
  refine o_p (Qa rfl rfl rfl QD (j) om om hsm) rfl (o_q (Qo rfl rfl XB (λw h=>(HS.vl_own (a:=ia) (t:=3) (cs:=ids.map nv) h aPk).rd (ZL (k:=j) om))) rfl (aU2 ?_))
  refine sCd rfl (λh72=>?_) λh72=>?_
  ·refine Qj rfl ?_
   refine aT3 ?_
   refine aU2 ?_
   exact sBk (j+1)
  have h0:nth ids j≠0:=h72
  have hdof:=hI.dof hjL h0
  have hhash:=Qlk hI hTH hjL h0
  have hid:=Qpf hI hTI hjL h0
  have hlj:(nth L j).d.en.length<=16/\(nth L j).d.au.length<=16:=(Qbq (hI.good j hjL)).2.1
  refine aU2 ?_
  refine Xv (α:=((Option Addr×Nat)×(Option Addr×Nat))×Nat) [27,28,237,238,239,240,241,242,243,244,245,246] (λy=>[(27,.pointer (some ⟨y.2,0,none⟩)),(28,.int .i64 0)]) (λy=>HS w [] [.own (.slice y.1.1.1 (nth L j).d.en.length y.1.1.2) 119 4 (nth L j).d.en.length ((nth L j).d.en.flatMap Ace.vals),.own (.slice y.1.2.1 (nth L j).d.au.length y.1.2.2) 119 4 (nth L j).d.au.length ((nth L j).d.au.flatMap Ace.vals),.blk y.2 28 6 [.int .i64 (nth L j).d.ow,.int .i64 (nth L j).d.gr,.bool (nth L j).d.pr,.bool (nth L j).d.he,.slice y.1.1.1 (nth L j).d.en.length y.1.1.2,.slice y.1.2.1 (nth L j).d.au.length y.1.2.2],.nodes 50 87 (some ⟨uI,0,none⟩) cI LI,.blk b61 24 4 [.int .i64 2,.int .i64 4,.int .i64 2,.slice (some ⟨uI,0,none⟩) LI.length cI],.nodes 50 87 (some ⟨uH,0,none⟩) cH LH,.blk b60 24 4 [.int .i64 3,.int .i64 4,.int .i64 2,.slice (some ⟨uH,0,none⟩) LH.length cH],.own (.slice ia ids.length ic) 3 1 ids.length (ids.map nv),.own (.slice ga l.length gc) 72 2 l.length (l.flatMap SItm.vals),.blk b7 63 2 [.int .i64 nx,.slice ga l.length gc]]) (λ_=>True) ?_ ?_
  ·skip
   refine Qp [11] mixed ?_
   refine dLn 0 [[]] ?_
   refine dP 2 ?_
   refine dP 3 ?_
   refine dV 4 rfl (Qa rfl rfl rfl QD (j) om om hsm) (dQ 5 [[]] rfl (Qo rfl rfl XB (λw h=>(HS.vl_own (a:=ia) (t:=3) (cs:=ids.map nv) h aPk).rd (ZL (k:=j) om))) (Z5 1 10 rfl rfl (QT rfl QhA rfl (λw1 h1=>c25 w1 nx ga gc l (HS.rw_own (a:=ga) (l:=l) sv2 h1 aPk rfl) hm hb)) (Xf rfl Xq) (by kernel_rfl) (λw h=>h.ent aEt) rfl rfl (λgS _=>?_) (λb73 _=>?_)))
   ·skip
    refine dBa ?_
    refine Z5 6 10 rfl rfl (QT rfl QlN rfl (λw1 h1=>Qrg w1 nx gS.1 gS.2 l (nth ids j) (nth L j).d hdof.1 hdof.2 (HS.rw_own (a:=gS.1) (l:=l) sv2 h1 aPk rfl) hm hb)) (Xf rfl Xq) (by kernel_rfl) (λw h=>h.ent aEt) rfl rfl (λgE _=>?_) (λb74 _=>?_)
    ·skip
     refine dBa ?_
     refine dP 7 ?_
     refine dP 8 ?_
     refine dP 9 ?_
     refine dH 10 rfl (Xf rfl Xq) (λb75 _=>dBa ?_)
     refine dSt 11 ?_ (hl:=(by simp only[Qb,List.length_set,List.length_cons,List.length_nil,List.length_map];omega))
     refine dTu [] ?_
     refine dP 12 ?_
     refine dNi ?_
     exact Qn (gE,b75) trivial aSx (λw h=>h.ent aEt)
    skip
    refine dBa ?_
    refine dH 6 rfl (QT rfl QlN rfl (λw1 h1=>Qrg w1 nx gS.1 gS.2 l (nth ids j) (nth L j).d hdof.1 hdof.2 (HS.rw_own (a:=gS.1) (l:=l) sv2 h1 aPk rfl) hm hb)) (λgE _=>dBa ?_)
    refine dP 7 ?_
    refine dP 8 ?_
    refine dP 9 ?_
    refine dSt 11 ?_ (hl:=(by simp only[Qb,List.length_set,List.length_cons,List.length_nil,List.length_map];omega))
    refine dTu [] ?_
    refine dP 12 ?_
    refine dNi ?_
    exact Qn (gE,b74) trivial aSx (λw h=>h.ent aEt)
   skip
   refine dBa ?_
   refine dH 1 rfl (QT rfl QhA rfl (λw1 h1=>c25 w1 nx ga gc l (HS.rw_own (a:=ga) (l:=l) sv2 h1 aPk rfl) hm hb)) (λgS _=>dBa ?_)
   refine dH 6 rfl (QT rfl QlN rfl (λw1 h1=>Qrg w1 nx gS.1 gS.2 l (nth ids j) (nth L j).d hdof.1 hdof.2 (HS.rw_own (a:=gS.1) (l:=l) sv2 h1 aPk rfl) hm hb)) (λgE _=>dBa ?_)
   refine dP 7 ?_
   refine dP 8 ?_
   refine dP 9 ?_
   refine dSt 11 ?_ (hl:=(by simp only[Qb,List.length_set,List.length_cons,List.length_nil,List.length_map];omega))
   refine dTu [] ?_
   refine dP 12 ?_
   refine dNi ?_
   exact Qn (gE,b73) trivial aSx (λw h=>h.ent aEt)
  intro⟨gE,b27⟩ _
  dsimp only
  refine aU ?_
  refine Xv (α:=Unit) [29,30,247,248,249,250,251,252,253,254,255,256,257,258] (λ_=>[(29,.int .i64 (nth ids j)),(30,.int .i64 0)]) (λ_=>HS w [] [.own (.slice gE.1.1 (nth L j).d.en.length gE.1.2) 119 4 (nth L j).d.en.length ((nth L j).d.en.flatMap Ace.vals),.own (.slice gE.2.1 (nth L j).d.au.length gE.2.2) 119 4 (nth L j).d.au.length ((nth L j).d.au.flatMap Ace.vals),.blk b27 28 6 [.int .i64 (nth L j).d.ow,.int .i64 (nth L j).d.gr,.bool (nth L j).d.pr,.bool (nth L j).d.he,.slice gE.1.1 (nth L j).d.en.length gE.1.2,.slice gE.2.1 (nth L j).d.au.length gE.2.2],.nodes 50 87 (some ⟨uI,0,none⟩) cI LI,.blk b61 24 4 [.int .i64 2,.int .i64 4,.int .i64 2,.slice (some ⟨uI,0,none⟩) LI.length cI],.nodes 50 87 (some ⟨uH,0,none⟩) cH LH,.blk b60 24 4 [.int .i64 3,.int .i64 4,.int .i64 2,.slice (some ⟨uH,0,none⟩) LH.length cH],.own (.slice ia ids.length ic) 3 1 ids.length (ids.map nv),.own (.slice ga l.length gc) 72 2 l.length (l.flatMap SItm.vals),.blk b7 63 2 [.int .i64 nx,.slice ga l.length gc]]) (λ_=>True) ?_ ?_
  ·skip
   refine Qp [] mixed ?_
   refine dP 0 ?_
   refine dLn 1 [] ?_
   refine dP 3 ?_
   refine dP 4 ?_
   refine dV 5 rfl (Qa rfl rfl rfl QdS (j) om om (Rw.some hs.row om)) (dQ 6 [] rfl (Qm _ rfl rfl Xr rfl (Rw.rd hs.row hjL)) (dH 2 rfl (QT rfl Qqy rfl (λw1 h1=>c9 w1 3 4 2 (some ⟨uH,0,none⟩) cH LH (HS.nt h1 aPk) hlH hsmH)) (λ⟨⟨kha,khc⟩,KH⟩hKH=>dBa ?_)))
   refine dH 7 rfl (QT rfl Qj2 rfl (λw1 h1=>c10 w1 (nth L j).d (nth L j).ea (nth L j).ec (nth L j).aa (nth L j).ac ((hs.en j hjL).later h1) ((hs.au j hjL).later h1) om om)) (λgD _=>dBa ?_)
   refine dQ 8 [] rfl (Qh rfl fn_8 rfl (λw1 h1=>c8v w1 (QW nx l) kha khc KH l _ TH qH9 (nth L j).d gD.1.1 gD.1.2 gD.2.1 gD.2.2 (nth ids j) hstr.2 (HS.nt h1 aPk) (hKH.trans hLH) hTH (HS.rw_own (a:=gD.1.1) (l:=(nth L j).d.en) av4 h1 aPk rfl) (HS.rw_own (a:=gD.2.1) (l:=(nth L j).d.au) av4 h1 aPk rfl) om om hhash.1 hhash.2)) (dP 9 ?_)
   refine dP 10 ?_
   refine dP 11 ?_
   refine dP 12 ?_
   refine dP 13 ?_
   refine dNi ?_
   exact Qn () trivial aSx (λw h=>h.ent aEt)
  intro _ _
  refine aU ?_
  refine Xv (α:=((Option Addr×Nat)×(Option Addr×Nat))×Nat) [31,32,259,260,261,262,263,264,265,266,267,268,269] (λy=>[(31,.pointer (some ⟨y.2,0,none⟩)),(32,.int .i64 0)]) (λy=>HS w [] [.own (.slice y.1.1.1 (nth L j).d.en.length y.1.1.2) 119 4 (nth L j).d.en.length ((nth L j).d.en.flatMap Ace.vals),.own (.slice y.1.2.1 (nth L j).d.au.length y.1.2.2) 119 4 (nth L j).d.au.length ((nth L j).d.au.flatMap Ace.vals),.blk y.2 28 6 [.int .i64 (nth L j).d.ow,.int .i64 (nth L j).d.gr,.bool (nth L j).d.pr,.bool (nth L j).d.he,.slice y.1.1.1 (nth L j).d.en.length y.1.1.2,.slice y.1.2.1 (nth L j).d.au.length y.1.2.2],.own (.slice gE.1.1 (nth L j).d.en.length gE.1.2) 119 4 (nth L j).d.en.length ((nth L j).d.en.flatMap Ace.vals),.own (.slice gE.2.1 (nth L j).d.au.length gE.2.2) 119 4 (nth L j).d.au.length ((nth L j).d.au.flatMap Ace.vals),.blk b27 28 6 [.int .i64 (nth L j).d.ow,.int .i64 (nth L j).d.gr,.bool (nth L j).d.pr,.bool (nth L j).d.he,.slice gE.1.1 (nth L j).d.en.length gE.1.2,.slice gE.2.1 (nth L j).d.au.length gE.2.2],.nodes 50 87 (some ⟨uI,0,none⟩) cI LI,.blk b61 24 4 [.int .i64 2,.int .i64 4,.int .i64 2,.slice (some ⟨uI,0,none⟩) LI.length cI],.nodes 50 87 (some ⟨uH,0,none⟩) cH LH,.blk b60 24 4 [.int .i64 3,.int .i64 4,.int .i64 2,.slice (some ⟨uH,0,none⟩) LH.length cH],.own (.slice ia ids.length ic) 3 1 ids.length (ids.map nv),.own (.slice ga l.length gc) 72 2 l.length (l.flatMap SItm.vals),.blk b7 63 2 [.int .i64 nx,.slice ga l.length gc]]) (λ_=>True) ?_ ?_
  ·skip
   refine Qp [12] mixed ?_
   refine dP 0 ?_
   refine dLn 1 [[]] ?_
   refine dP 3 ?_
   refine dP 4 ?_
   refine dV 5 rfl (Qa rfl rfl rfl QD (j) om om hsm) (dQ 6 [[]] rfl (Qo rfl rfl XB (λw h=>(HS.vl_own (a:=ia) (t:=3) (cs:=ids.map nv) h aPk).rd (ZL (k:=j) om))) (Z5 2 11 rfl rfl (QT rfl Qqy rfl (λw1 h1=>c9 w1 2 4 2 (some ⟨uI,0,none⟩) cI LI (HS.nt h1 aPk) hlI hsmI)) (Xf rfl Xq) (by kernel_rfl) (λw h=>h.ent aEt) rfl rfl (λ⟨⟨kia,kic⟩,KI⟩hKI=>?_) (λb76 _=>?_)))
   ·skip
    refine dBa ?_
    refine Z5 7 11 rfl rfl (QT rfl QmB rfl (λw1 h1=>Qro w1 (QW nx l) kia kic KI _ (nth ids j) (nth L j).d hstr.2 (HS.nt h1 aPk) (hKI.trans hLI) hTI.few hid.1 hid.2.1 hid.2.2.1 hid.2.2.2)) (Xf rfl Xq) (by kernel_rfl) (λw h=>h.ent aEt) rfl rfl (λgF _=>?_) (λb77 _=>?_)
    ·skip
     refine dBa ?_
     refine dP 8 ?_
     refine dP 9 ?_
     refine dP 10 ?_
     refine dH 11 rfl (Xf rfl Xq) (λb78 _=>dBa ?_)
     refine dSt 12 ?_ (hl:=(by simp only[Qb,List.length_set,List.length_cons,List.length_nil,List.length_map];omega))
     refine dTu [] ?_
     refine dP 13 ?_
     refine dNi ?_
     exact Qn (gF,b78) trivial aSx (λw h=>h.ent aEt)
    skip
    refine dBa ?_
    refine dH 7 rfl (QT rfl QmB rfl (λw1 h1=>Qro w1 (QW nx l) kia kic KI _ (nth ids j) (nth L j).d hstr.2 (HS.nt h1 aPk) (hKI.trans hLI) hTI.few hid.1 hid.2.1 hid.2.2.1 hid.2.2.2)) (λgF _=>dBa ?_)
    refine dP 8 ?_
    refine dP 9 ?_
    refine dP 10 ?_
    refine dSt 12 ?_ (hl:=(by simp only[Qb,List.length_set,List.length_cons,List.length_nil,List.length_map];omega))
    refine dTu [] ?_
    refine dP 13 ?_
    refine dNi ?_
    exact Qn (gF,b77) trivial aSx (λw h=>h.ent aEt)
   skip
   refine dBa ?_
   refine dH 2 rfl (QT rfl Qqy rfl (λw1 h1=>c9 w1 2 4 2 (some ⟨uI,0,none⟩) cI LI (HS.nt h1 aPk) hlI hsmI)) (λ⟨⟨kia,kic⟩,KI⟩hKI=>dBa ?_)
   refine dH 7 rfl (QT rfl QmB rfl (λw1 h1=>Qro w1 (QW nx l) kia kic KI _ (nth ids j) (nth L j).d hstr.2 (HS.nt h1 aPk) (hKI.trans hLI) hTI.few hid.1 hid.2.1 hid.2.2.1 hid.2.2.2)) (λgF _=>dBa ?_)
   refine dP 8 ?_
   refine dP 9 ?_
   refine dP 10 ?_
   refine dSt 12 ?_ (hl:=(by simp only[Qb,List.length_set,List.length_cons,List.length_nil,List.length_map];omega))
   refine dTu [] ?_
   refine dP 13 ?_
   refine dNi ?_
   exact Qn (gF,b76) trivial aSx (λw h=>h.ent aEt)
  intro⟨gF,b31⟩ _
  dsimp only
  refine aU ?_
  refine Qp [] mixed ?_
  refine dP 0 ?_
  refine dP 1 ?_
  refine dP 2 ?_
  apply XC 272
  ·exact rfl
  ·intro hg79
   have hs80:=hg79;try simp only[Bool.not_eq_true',decide_eq_false_iff_not]at hs80
   exfalso;simp at hg79
  intro hg81
  have hs82:=hg81;try simp only[Bool.not_eq_false',decide_eq_true_eq]at hs82
  refine dQo 3 272 [] hg81 rfl rfl rfl (Qd3 rfl rfl Xr aPk rfl) ?_
  refine dPo 4 272 hg81 ?_
  refine dPo 5 272 hg81 ?_
  refine dVo 6 272 hg81 rfl rfl rfl (Qa rfl rfl rfl QdS (j) om om (Rw.some hs.row om)) ?_
  refine dQo 7 272 [] hg81 rfl rfl rfl (Qm _ rfl rfl Xr rfl (Rw.rd hs.row hjL)) ?_
  refine dQo 8 272 [] hg81 rfl rfl rfl (Qh rfl Qnx rfl (λw1 h1=>c18 w1 (nth L j).d gE.1.1 gE.1.2 gE.2.1 gE.2.2 (nth L j).ea (nth L j).ec (nth L j).aa (nth L j).ac (HS.rw_own (a:=gE.1.1) (l:=(nth L j).d.en) av4 h1 aPk rfl) (HS.rw_own (a:=gE.2.1) (l:=(nth L j).d.au) av4 h1 aPk rfl) ((hs.en j hjL).later h1) ((hs.au j hjL).later h1) om om)) ?_
  refine dPo 9 272 hg81 ?_
  refine dV 10 rfl (Q8 rfl rfl hg81 rfl) (dP 11 ?_)
  apply XC 281
  ·exact rfl
  ·intro hg83
   have hs84:=hg83;try simp only[Bool.not_true]at hs84
   exfalso;simp at hg83
  intro hg85
  have hs86:=hg85;try simp only[Bool.not_true]at hs86
  refine dPo 12 281 hg85 ?_
  refine dPo 13 281 hg85 ?_
  refine dV 14 rfl (Q8 rfl rfl hg85 rfl) (dP 15 ?_)
  apply XC 285
  ·exact rfl
  ·intro hg87
   have hs88:=hg87;try simp only[Bool.not_eq_true',decide_eq_false_iff_not]at hs88
   exfalso;simp at hg87
  intro hg89
  have hs90:=hg89;try simp only[Bool.not_eq_false',decide_eq_true_eq]at hs90
  refine dPo 16 285 hg89 ?_
  refine dPo 17 285 hg89 ?_
  refine dPo 18 285 hg89 ?_
  refine dVo 19 285 hg89 rfl rfl rfl (Qa rfl rfl rfl QD (j) om om hsm) ?_
  refine dQo 20 285 [] hg89 rfl rfl rfl (Qo rfl rfl XB (λw h=>(HS.vl_own (a:=ia) (t:=3) (cs:=ids.map nv) h aPk).rd (ZL (k:=j) om))) ?_
  refine dPo 21 285 hg89 ?_
  refine dV 22 rfl (Q8 rfl rfl hg89 rfl) (dP 23 ?_)
  apply XC 293
  ·exact rfl
  ·intro hg91
   have hs92:=hg91;try simp only[Bool.not_eq_true',decide_eq_false_iff_not]at hs92
   exfalso;have hq:=hg91;simp[nth]at hq
  intro hg93
  have hs94:=hg93;try simp only[Bool.not_eq_false',decide_eq_true_eq]at hs94
  refine dPo 24 293 hg93 ?_
  refine dPo 25 293 hg93 ?_
  refine dV 26 rfl (Q8 rfl rfl hg93 rfl) (dP 27 ?_)
  apply XC 297
  ·exact rfl
  ·intro hg95
   have hs96:=hg95;try simp only[Bool.not_eq_true',decide_eq_false_iff_not]at hs96
   exfalso;simp at hg95
  intro hg97
  have hs98:=hg97;try simp only[Bool.not_eq_false',decide_eq_true_eq]at hs98
  refine dQo 28 297 [] hg97 rfl rfl rfl (Qd3 rfl rfl Xr aPk rfl) ?_
  refine dPo 29 297 hg97 ?_
  refine dPo 30 297 hg97 ?_
  refine dVo 31 297 hg97 rfl rfl rfl (Qa rfl rfl rfl QdS (j) om om (Rw.some hs.row om)) ?_
  refine dQo 32 297 [] hg97 rfl rfl rfl (Qm _ rfl rfl Xr rfl (Rw.rd hs.row hjL)) ?_
  refine dQo 33 297 [] hg97 rfl rfl rfl (Qh rfl Qnx rfl (λw1 h1=>c18 w1 (nth L j).d gF.1.1 gF.1.2 gF.2.1 gF.2.2 (nth L j).ea (nth L j).ec (nth L j).aa (nth L j).ac (HS.rw_own (a:=gF.1.1) (l:=(nth L j).d.en) av4 h1 aPk rfl) (HS.rw_own (a:=gF.2.1) (l:=(nth L j).d.au) av4 h1 aPk rfl) ((hs.en j hjL).later h1) ((hs.au j hjL).later h1) om om)) ?_
  refine dPo 34 297 hg97 ?_
  refine dV 35 rfl (Q8 rfl rfl hg97 rfl) (dNi ?_)
  refine sCd rfl (λh99=>?_) λh99=>?_
  ·exfalso;have hq:=h99;simp at hq
  refine aU2 ?_
  refine Qi (L':=[(0,_),(1,_),(5,_),(6,_),(7,_),(20,_),(22,_),(24,_),(26,_),(33,_),(34,_),(35,_),(36,_),(37,_),(38,_),(42,_),(43,_)]) aSx (λ_ h=>h) ?_
  refine aT3 ?_
  refine aU2 ?_
  exact sBk (j+1)
 refine Qj rfl ?_
 refine aU4 ?_
 exact rV
end Go.Proofs
