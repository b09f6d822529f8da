/- Contracts of the program's functions, proved by walking them with the rules of the Gx texts; without conditions beyond those that each contract names. -/
import Derived.WalkKit
import Derived.Deep.Draws
import Derived.TacticsIn
import Derived.OrdersIn
import Derived.RangeFuncLeaves
import Derived.Lib.Strings
import Derived.Laws.BytesArg
import Derived.Laws.IdiomStrings
import Derived.Deep.Quiet
import Derived.Laws.StructEq
import Derived.ChangeKeysEq
import Derived.Laws.Externs
import Derived.Lib.Overlaps
import Derived.Carry
import Derived.Laws.Small
import Derived.Lib.Bytealg
import Derived.Lib.Builder
import Derived.Laws.Pointers
import Derived.RangeFuncRecord
import Derived.Test.YtldegbfcaelpdaaGreatDoorProg
import Derived.KernelRfl
import Derived.ProofKit
import Derived.OpenShut
import Derived.Lib.UnsafeStr
import Derived.LaidEqlPtr
import Derived.Shelf.Strings.Builder1
import Derived.Shelf.Strings.Builder2
import Derived.Shelf.Strings.Trim
import Derived.Shelf.Small.Utf8
import Derived.Shelf.Small.Strs
import Derived.Shelf.Strings.BuilderF
import Derived.Shelf.Strings.BuilderK
import Derived.Shelf.Strings.Builder2Cap
import Derived.Shelf.Strings.Search1
import Derived.Shelf.Strings.Prefix
import Derived.Shelf.Unicode.Decode
import Derived.Shelf.Strings.Runes
import Derived.Shelf.Strings.AsciiSet
import Derived.Shelf.Bits.Mul64
import Derived.Shelf.Strings.Repeat
import Derived.Shelf.Unicode.DecodeSlow
import Derived.Shelf.Unicode.DecodeAny
import Derived.Shelf.Unicode.DecodeLast
import Derived.Shelf.Slices.Turned
import Derived.Shelf.Slices.Reverse
import Derived.Ground.Names2Prog
import Derived.Shelf.Slices.Clone
import Derived.Shelf.Slices.Cells
import Derived.Ground.SlgnProg
import Derived.Shelf.SlicesE.Reverse
import Derived.Shelf.SlicesE.Clone
import Derived.Test.YtldegbfcaelpdaaGreatDoorTie
import Derived.Test.YtldegbfcaelpdaaGreatDoorCards
import Derived.SevenTiedAt
import Derived.LaidMore
import Derived.Lay
import Derived.Stop.Joined
import Derived.Test.YtldegbfcaelpdaaGreatDoorP2
set_option linter.unusedSimpArgs false
set_option maxHeartbeats 1000000
set_option linter.unusedVariables false
set_option linter.unusedSectionVars false
set_option linter.unnecessarySimpa false
namespace Go.Proofs
open Go Go.RowKit Gx
attribute [local irreducible] Go.Calls Gx.S Gx.O Gx.D Gx.OpP Gx.OpQ Gx.OpH
set_option maxRecDepth 20000
instance:TFd Tryz.prog 28 2 2 4:=⟨by kernel_rfl⟩
theorem ZM:QC Tryz.prog 20=true:=by kernel_rfl
theorem Qjz:QC Tryz.prog 50=true:=by kernel_rfl
theorem c20(w:World)(n:Int)(c:Nat)(hn:0<=n/\n<=9223372036854775807)(hc:c<=1000):CR 20 #[.int .i64 n,.int .i64 (c:Int)] w (.string (bs (Qc5 c n))):=by
 refine eN2 Tryz.func20 Tryz.ntmps20 ?_
 refine Qg0 ?_
 refine Qp (α:=Nat×Int×List UInt8×Option Addr×Nat) [0,5,6,7,8,9,10,11,12,13,14,15,16,17,18,19] (λx=>[(6,.int .i64 (x.1:Int)),(0,.int .i64 x.2.1),(5,.slice x.2.2.2.1 x.2.2.1.length x.2.2.2.2)]) (λx=>HS w [] [.own (.slice x.2.2.2.1 x.2.2.1.length x.2.2.2.2) 5 1 (x.2.2.1.length) ((x.2.2.1).map bv)]) (λx=>x.1<=c/\x.2.2.1.length=x.1/\(0<=x.2.1/\x.2.1<=9223372036854775807)/\Qc5 c n=x.2.2.1++Qc5 (c-x.1) x.2.1) (λx=>c-x.1) (0,n,[],none,0) ⟨Nat.zero_le _,rfl,hn,rfl⟩ aSx (λw h=>(h.own_nil 5 1).ent aEt) (λ⟨k,m,p,ga,gc⟩hx=>?_)
 dsimp only
 obtain⟨hk1,hpl,hm,hst⟩:=hx
 simp only[]at hk1 hpl hm hst
 refine aU7 ?_
 refine sCd rfl (λh1=>?_) λh1=>?_
 ·have hk:k<c:=by omega
  refine aU7 ?_
  refine o_p (Zm rfl rfl rfl om om) rfl (o_p (Qm rfl rfl X2 Yx) rfl (Qn (show _=bv (by8 m)from(XS _).trans (by rw[QjY (show m%256%256=m%256 by omega)])) (o_h (Qc (cs:=[_]) rfl rfl QD QbR rfl rfl rfl) rfl (λb2 _=>o_h (Qz _ rfl rfl rfl QD Tryz.underlying124 QbR rfl aPk (Q5 aPk) rfl (by intro u hu;simp only[List.mem_cons,List.mem_nil_iff,or_false]at hu;subst hu;rfl) om (by simp only[maxLen];omega)) rfl (λb3 _=>aU4 ?_)))))
  refine o_p (Y5 rfl rfl rfl om om om) rfl (aT6 ?_)
  refine aU2 ?_
  exact QH (k+1,m/256,p++[by8 m],b3.1,b3.2) (by(try simp only[]);omega) ⟨by(try simp only[]);omega,by simp[hpl],by(try simp only[]);omega,by simp only[];rw[hst,show c-k=(c-(k+1))+1 by omega,Qc5,List.append_assoc];rfl⟩ (by dsimp only;rw[List.length_append];exact aSx) (λw h=>by dsimp only;rw[List.length_append,List.map_append];exact h.ent aEt)
 obtain rfl:k=c:=om
 rw[Nat.sub_self,Qc5,List.append_nil]at hst
 refine Qk rfl ?_
 refine aU3 ?_
 refine o_q (Z0 rfl rfl Tryz.underlying124 Tryz.underlying9 Tryz.underlying5 aPk (Qdn _)) rfl (aU2 ?_)
 exact rV (h:=by rw[Qca,hst];rfl)
theorem c50(w:World)(a:Option Addr)(cap:Nat)(l:List Ace)(hs:Rw Ace.vals 4 w [] a l)(hm:l.length<=1000000):CE 50 #[.slice a l.length cap] w [] (λg:Option Addr×Nat=>.slice g.1 l.length g.2) (λg=>True) λg=>[.own (.slice g.1 l.length g.2) 119 4 l.length (l.flatMap Ace.vals)]:=by
 refine eN1 Tryz.func50 Tryz.ntmps50 ?_
 refine aU6 ?_
 refine o_h (Xz rfl Xq) rfl (λb1 _=>aU ?_)
 refine o_h (Qz (l.flatMap Ace.vals) rfl rfl rfl Xq Tryz.underlying26 Xa rfl aPk (λw h=>Rw.src av4 hs h) (QR av4 l) (Ye av1 l) om (by simp only[maxLen];omega)) rfl (λb2 _=>aU2 ?_)
 exact rT rfl rfl (λw' h'=>⟨b2,by simp only[Qw,Nat.zero_add],trivial,by have h2:=h';simp only[Nat.zero_add,List.nil_append]at h2;exact h2.ent aEt⟩)
theorem c16(w:World)(d:Dsc)(ea:Option Addr)(eac:Nat)(aa:Option Addr)(aac:Nat)(hse:Rw Ace.vals 4 w [] ea d.en)(hsa:Rw Ace.vals 4 w [] aa d.au)(hme:d.en.length<=100000)(hma:d.au.length<=100000)(hok:(QF d).2=0):CR 16 #[.agg #[.int .i64 d.ow,.int .i64 d.gr,.bool d.pr,.bool d.he,.slice ea d.en.length eac,.slice aa d.au.length aac]] w (.string (bs (Xe d))):=by
 obtain⟨hok1,hok2,hok3,hok4⟩:=Qeu hok
 have hokp:=QgY hok1
 have hfl:0<=Qap d/\Qap d<=3:=by unfold Qap;split<;>split<;>omega
 have hll:(d.en++d.au).length<=32:=by rw[List.length_append];omega
 refine eN1 Tryz.func16 Tryz.ntmps16 ?_
 refine aU2 ?_
 refine oBx λb1 _=>?_
 refine aU3 ?_
 refine Qq [] mixed ?_
 refine dFa 0 ?_
 refine dLd 1 [] ?_
 refine dQ 2 [] rfl (Qe rfl Qks rfl (λw1 h1=>c63 w1 _)) (dFa 3 ?_)
 refine dLd 4 [] ?_
 refine dQ 5 [] rfl (Qe rfl Qks rfl (λw1 h1=>c63 w1 _)) (dP 6 ?_)
 try refine dWr ?_
 refine dP 7 ?_
 try refine dWr ?_
 try (refine Qy (show _=Value.int .i64 (Qap d)from by unfold Qap;congr 1;split<;>split<;>rfl) ?_)
 refine dP 8 ?_
 refine dNi ?_
 refine aU ?_
 refine Qq [] mixed ?_
 refine dQ 0 [] rfl (Qe rfl ZM rfl (λw1 h1=>c20 w1 1 1 om om)) (dP 1 ?_)
 refine dQ 2 [] rfl (Qe rfl ZM rfl (λw1 h1=>c20 w1 (Qap d) 1 om om)) (dV 3 rfl (Xf rfl rfl rfl (by(try simp only[List.length_append,List.length_cons,List.length_nil,List.length_replicate,List.length_take,List.length_drop,Yc]);omega)) (dFa 4 ?_))
 refine dLd 5 [] ?_
 refine dV 6 rfl (Qx rfl rfl Tryz.underlying26) (dQ 7 [] rfl (Qe rfl ZM rfl (λw1 h1=>c20 w1 (d.en.length:Int) 1 om om)) (dV 8 rfl (Xf rfl rfl rfl (by(try simp only[List.length_append,List.length_cons,List.length_nil,List.length_replicate,List.length_take,List.length_drop,Yc]);omega)) (dFa 9 ?_)))
 refine dLd 10 [] ?_
 refine dV 11 rfl (Qx rfl rfl Tryz.underlying26) (dQ 12 [] rfl (Qe rfl ZM rfl (λw1 h1=>c20 w1 (d.au.length:Int) 1 om om)) (dV 13 rfl (Xf rfl rfl rfl (by(try simp only[List.length_append,List.length_cons,List.length_nil,List.length_replicate,List.length_take,List.length_drop,Yc]);omega)) (dFa 14 ?_)))
 refine dLd 15 [] ?_
 refine dQ 16 [] rfl (Qe rfl ZM rfl (λw1 h1=>c20 w1 d.ow 4 om om)) (dV 17 rfl (Xf rfl rfl rfl (by(try simp only[List.length_append,List.length_cons,List.length_nil,List.length_replicate,List.length_take,List.length_drop,Yc]);omega)) (dFa 18 ?_))
 refine dLd 19 [] ?_
 refine dQ 20 [] rfl (Qe rfl ZM rfl (λw1 h1=>c20 w1 d.gr 4 om om)) (dV 21 rfl (Xf rfl rfl rfl (by(try simp only[List.length_append,List.length_cons,List.length_nil,List.length_replicate,List.length_take,List.length_drop,Yc]);omega)) (Qy (show _=Value.string (bs (XF d))from by simp only[Qlp,Qew];rfl) (dP 22 ?_)))
 refine dNi ?_
 refine aU ?_
 refine Qi (L':=[(1,_),(2,_),(4,_)]) aSx (λ_ h=>h) ?_
 refine Qq [5] mixed ?_
 refine dFa 0 ?_
 refine dLd 1 [[2]] ?_
 refine dFa 3 ?_
 refine dLd 4 [[]] ?_
 refine dH 2 rfl (Xy rfl Qjz rfl (λw1 h1=>c50 w1 ea eac d.en (hse.later h1) om)) (λb2 _=>dBa ?_)
 refine dH 5 rfl (Qz (d.au.flatMap Ace.vals) rfl rfl rfl Xq Tryz.underlying26 Xa rfl aPk (λw h=>Rw.src av4 hsa h) (QR av4 _) (Ye av1 _) om (by simp only[maxLen];omega)) (λb3 _=>dTu [] ?_)
 refine dP 6 ?_
 refine Qy (show _=Value.slice b3.1 (d.en++d.au).length b3.2 from by rw[List.length_append]) (dNi ?_)
 refine aU6 ?_
 refine Qp (α:=Nat) [4,6,43,44,45,46,47,48,49,50,51,52,53,54,55,56,57,58,59,60,61,62,63,64,65,66,67,68,69,70,71,72,73,74,75,76,77] (λk=>[(6,.int .i64 (k:Int)),(4,.string (bs (XF d++((d.en++d.au).take k).flatMap Yk)))]) (λ_=>HS w [] [.own (.slice b3.1 (d.en++d.au).length b3.2) 119 4 (d.en++d.au).length ((d.en++d.au).flatMap Ace.vals)]) (λk=>k<=(d.en++d.au).length) (λk=>(d.en++d.au).length-k) 0 (Nat.zero_le _) (by rw[List.take_zero,List.flatMap_nil,List.append_nil];exact aSx) (λw h=>by rw[List.length_append,Xd];exact h.ent aEt) (λk hk1=>?_)
 refine aU8 ?_
 refine sCd rfl (λh4=>?_) λh4=>?_
 ·have hk:k<(d.en++d.au).length:=by omega
  have hae:=QhF (QgH (hok4 k hk))
  have hst:=QhO (f:=Yk) hk
  have hln:=QcR ((d.en++d.au).take k)
  have hhl:=QcJ d
  rw[List.length_take]at hln
  refine ZD (λw h=>Rw.some (h.rw_own av4 aPk rfl) om) λhsm=>aU3 ?_
  refine Qq [] mixed ?_
  refine dP 0 ?_
  refine dP 1 ?_
  refine dP 2 ?_
  refine dV 3 rfl (Qa rfl rfl rfl Xq (k) om om hsm) (dFa 4 ?_)
  refine dQ 5 [] rfl (Qv rfl rfl Q3 (λw h=>(Rw.rdj (h.rw_own av4 aPk rfl) 0 hk rfl))) (dQ 6 [] rfl (Qe rfl ZM rfl (λw1 h1=>c20 w1 (nth (d.en++d.au) k).kd 1 om om)) (dV 7 rfl (Xf rfl rfl rfl (by(try simp only[List.length_append,List.length_cons,List.length_nil,List.length_replicate,List.length_take,List.length_drop,Yc]);omega)) (dP 8 ?_)))
  refine dP 9 ?_
  refine dV 10 rfl (Qa rfl rfl rfl Xq (k) om om hsm) (dFa 11 ?_)
  refine dQ 12 [] rfl (Qv rfl rfl Q3 (λw h=>(Rw.rdj (h.rw_own av4 aPk rfl) 1 hk rfl))) (dQ 13 [] rfl (Qe rfl ZM rfl (λw1 h1=>c20 w1 (nth (d.en++d.au) k).fl 1 om om)) (dV 14 rfl (Xf rfl rfl rfl (by(try simp only[List.length_append,List.length_cons,List.length_nil,List.length_replicate,List.length_take,List.length_drop,Yc]);omega)) (dP 15 ?_)))
  refine dP 16 ?_
  refine dV 17 rfl (Qa rfl rfl rfl Xq (k) om om hsm) (dFa 18 ?_)
  refine dQ 19 [] rfl (Qv rfl rfl Q3 (λw h=>(Rw.rdj (h.rw_own av4 aPk rfl) 2 hk rfl))) (dQ 20 [] rfl (Qe rfl ZM rfl (λw1 h1=>c20 w1 (nth (d.en++d.au) k).ms 2 om om)) (dV 21 rfl (Xf rfl rfl rfl (by(try simp only[List.length_append,List.length_cons,List.length_nil,List.length_replicate,List.length_take,List.length_drop,Yc]);omega)) (dP 22 ?_)))
  refine dP 23 ?_
  refine dV 24 rfl (Qa rfl rfl rfl Xq (k) om om hsm) (dFa 25 ?_)
  refine dQ 26 [] rfl (Qv rfl rfl Q3 (λw h=>(Rw.rdj (h.rw_own av4 aPk rfl) 3 hk rfl))) (dQ 27 [] rfl (Qe rfl ZM rfl (λw1 h1=>c20 w1 (nth (d.en++d.au) k).wh 4 om om)) (dV 28 rfl (Xf rfl rfl rfl (by(try simp only[List.length_append,List.length_cons,List.length_nil,List.length_replicate,List.length_take,List.length_drop,Yc]);omega)) (Qy (show _=Value.string (bs (XF d++((d.en++d.au).take (k+1)).flatMap Yk))from by rw[hst];simp only[Qlp,Qns,Qew,Yk,List.append_assoc,List.cons_append,List.nil_append]) (dP 29 ?_))))
  refine dNi ?_
  refine aU ?_
  refine Qi (L':=[(1,_),(2,_),(4,_),(5,_),(6,_),(37,_),(38,_),(39,_),(40,_),(41,_),(42,_)]) aSx (λ_ h=>h) ?_
  refine aT3 ?_
  refine aU2 ?_
  exact sBk (k+1)
 obtain rfl:k=(d.en++d.au).length:=om
 rw[List.take_length,<-Qfw]
 refine Qk rfl ?_
 refine aU5 ?_
 exact rV
theorem Qnr:QC Tryz.prog 144=true:=by kernel_rfl
theorem Qoj:QC Tryz.prog 212=true:=by kernel_rfl
theorem Qhg:QC Tryz.prog 149=true:=by kernel_rfl
theorem Qdp:QC Tryz.prog 101=true:=by kernel_rfl
instance:TFn Tryz.prog 222:=⟨by kernel_rfl⟩
instance:TFn Tryz.prog 198:=⟨by kernel_rfl⟩
instance:TFn Tryz.prog 143:=⟨by kernel_rfl⟩
instance:TFn Tryz.prog 91:=⟨by kernel_rfl⟩
instance:TFn Tryz.prog 161:=⟨by kernel_rfl⟩
theorem QnT(w:World)(a:Option Addr)(m cap:Nat)(x:List UInt8)(hs:Vl w a (x.map bv))(hm:x.length=m)(h2:2<=m)(hc:m<=cap)(hc9:cap<=9223372036854775807):CR 149 #[.slice a m cap] w (.int .u16 (at2 x 0)):=by
 refine eN1 Tryz.func149 Tryz.ntmps149 ?_
 refine aU5 ?_
 refine Qq [] mixed ?_
 refine dP 0 ?_
 refine dV 1 rfl (Qa rfl rfl rfl QD 0 rfl om (hs.some (by rw[List.length_map];omega))) (dQ 2 [] rfl (Qb rfl rfl ZZ ((hs.rd (i:=0) (XR (l:=x) (k:=0) om)))) (dV 3 rfl (Qm rfl rfl Yx XE) (dP 4 ?_)))
 refine dV 5 rfl (Qa rfl rfl rfl QD 1 rfl om (hs.some (by rw[List.length_map];omega))) (dQ 6 [] rfl (Qb rfl rfl ZZ ((hs.rd (i:=1) (XR (l:=x) (k:=1) om)))) (dV 7 rfl (Qm rfl rfl Yx XE) (dV 8 rfl (Qem rfl rfl rfl (by decide) 8 rfl) (dP 9 ?_))))
 refine dP 10 ?_
 refine dNi ?_
 exact rV (h:=by rw[<-Qdo];rfl)
theorem Qk4(w:World)(a:Option Addr)(m cap:Nat)(x:List UInt8)(hs:Vl w a (x.map bv))(hm:x.length=m)(h2:4<=m)(hc:m<=cap)(hc9:cap<=9223372036854775807):CR 101 #[.slice a m cap] w (.int .u32 (at4 x 0)):=by
 have hx2:=Yi x 0
 have hx3:=Yi x 2
 refine eN1 Tryz.func101 Tryz.ntmps101 ?_
 refine aU5 ?_
 refine Qq [] mixed ?_
 refine dP 0 ?_
 refine dQ 1 [] rfl (Qe rfl Qhg rfl (λw1 h1=>QnT w1 a m cap x (hs.later h1) hm om hc hc9)) (dV 2 rfl (Qm rfl rfl XE Xt) (dP 3 ?_))
 refine dV 4 rfl (XU _ _ 2 m rfl rfl QD ⟨_,_,rfl,rfl⟩ rfl om om) (dQ 5 [] rfl (Qe rfl Qhg rfl (λw1 h1=>QnT w1 (YC a cap 2 1) (m-2) (cap-2) (x.drop 2) (by rw[List.map_drop];exact(hs.later h1).drop (by rw[List.length_map];omega) om) (by rw[List.length_drop];omega) om om om)) (dV 6 rfl (Qm rfl rfl XE Xt) (dV 7 rfl (Qem rfl rfl rfl (by decide) 16 rfl) (dP 8 ?_))))
 refine dP 9 ?_
 refine dNi ?_
 exact rV (h:=by have h9:=QdP (at2 x 0) (at2 (x.drop 2) 0) (Yi _ _) (Yi _ _);rw[ZK]at h9 ⊢;exact(congrArg Ending.returned h9))
theorem Ql0(w:World)(a:Option Addr)(m cap:Nat)(x:List UInt8)(hs:Vl w a (x.map bv))(hm:x.length=m)(h2:8<=m)(hc:m<=cap)(hc9:cap<=9223372036854775807):CR 103 #[.slice a m cap] w (.agg #[.int .i64 (Y7 x 0).kd,.int .i64 (Y7 x 0).fl,.int .i64 (Y7 x 0).ms,.int .i64 (Y7 x 0).wh]):=by
 have hx2:=Yi x 2
 have hx4:=X9 x 4
 have hb0:=(x.getD 0 0).toNat_lt
 have hb1:=(x.getD 1 0).toNat_lt
 refine eN1 Tryz.func103 Tryz.ntmps103 ?_
 refine aU2 ?_
 refine oAl (λb1 _=>?_) Xa
 refine aU2 ?_
 refine Qq [17] mixed ?_
 refine dP 0 ?_
 refine dV 1 rfl (Qa rfl rfl rfl QD 0 rfl om (hs.some (by rw[List.length_map];omega))) (dQ 2 [[]] rfl (Qb rfl rfl ZZ ((hs.rd (i:=0) (XR (l:=x) (k:=0) om)))) (dV 3 rfl (Qm rfl rfl Yx X2) (Qy (show _=Value.int .i64 (at1 x 0)from Qgy om om) (dP 4 ?_))))
 refine dV 5 rfl (Qa rfl rfl rfl QD 1 rfl om (hs.some (by rw[List.length_map];omega))) (dQ 6 [[]] rfl (Qb rfl rfl ZZ ((hs.rd (i:=1) (XR (l:=x) (k:=1) om)))) (dV 7 rfl (Qm rfl rfl Yx X2) (Qy (show _=Value.int .i64 (at1 x 1)from Qgy om om) (dP 8 ?_))))
 refine dV 9 rfl (XU _ _ 2 m rfl rfl QD ⟨_,_,rfl,rfl⟩ rfl om om) (dQ 10 [[]] rfl (Qe rfl Qhg rfl (λw1 h1=>QnT w1 (YC a cap 2 1) (m-2) (cap-2) (x.drop 2) (by rw[List.map_drop];exact(hs.later h1).drop (by rw[List.length_map];omega) om) (by rw[List.length_drop];omega) om om om)) (dV 11 rfl (Qm rfl rfl XE X2) (Qy (show _=Value.int .i64 (at2 x 2)from by rw[ZK,Nat.add_zero];exact Qgy om om) (dP 12 ?_))))
 refine dV 13 rfl (XU _ _ 4 m rfl rfl QD ⟨_,_,rfl,rfl⟩ rfl om om) (dQ 14 [[]] rfl (Qe rfl Qdp rfl (λw1 h1=>Qk4 w1 (YC a cap 4 1) (m-4) (cap-4) (x.drop 4) (by rw[List.map_drop];exact(hs.later h1).drop (by rw[List.length_map];omega) om) (by rw[List.length_drop];omega) om om om)) (dV 15 rfl (Qm rfl rfl Xt X2) (Qy (show _=Value.int .i64 (at4 x 4)from by rw[YN,Nat.add_zero];exact Qgy om om) (dV 16 rfl (Qs (cs:=[_,_,_,_]) rfl rfl QfN Xa rfl) (dSt 17 ?_ (hl:=(by simp only[Qj,List.length_set,List.length_cons,List.length_nil,List.length_map];omega)))))))
 refine dTu [] ?_
 refine dNi ?_
 exact Qg (rs:=[.cell 2 119]) rfl (.cell rfl QaF aPk rfl (.nil)) (λw' h'=>⟨by rfl,h'.below⟩)
theorem c198(w:World)(s:List UInt8)(hm:s.length<=200000):CR 198 #[.string (bs s)] w (.int .i64 0):=by
 refine eN1 Tryz.func198 Tryz.ntmps198 ?_
 refine aU7 ?_
 refine o_p (Qr rfl rfl Tryz.underlying9) rfl (aU ?_)
 refine oCq rfl (λw1 h1=>c222 w1 _ _) (aU2 ?_)
 exact rV (h:=by rw[show decide ((s.length:Int)<=200000)=true from decide_eq_true om];rfl)
theorem c143(w:World)(s:List UInt8)(n0:Int)(q:Nat)(cv:Array Value)(st:Int->UInt8->Int)(hm:s.length<=200000)(hn:0<=n0/\n0<2147483648)(hst:∀n c,0<=st n c/\st n c<2147483648)(hq:QC Tryz.prog q=true)(hc:∀n c w1,0<=n/\n<2147483648->Calls Tryz.prog q (#[]++[.int .i64 n,.int .i64 ((c:UInt8).toNat:Int)].toArray++cv) w1 λen w2=>en=.returned (.int .i64 (st n c))/\Below w1.heap.size w1 w2):CR 143 #[.string (bs s),.int .i64 n0,.func (.func q) #[] cv] w (.tuple #[.int .i64 (s.foldl st n0),.int .i64 0]):=by
 refine eN3 Tryz.func143 Tryz.ntmps143 ?_
 refine aU9 ?_
 refine oCq rfl (λw1 h1=>c198 w1 s hm) (aU7 ?_)
 refine sCd rfl (λh1=>?_) λh1=>?_
 ·exfalso;first|omega|(simp at h1;done)|(simp_all;done)
 refine aU5 ?_
 refine o_h (Qcb rfl rfl Tryz.underlying9 Tryz.underlying124 Tryz.underlying5 rfl (by simp only[maxLen];omega)) rfl (λ⟨b2,c3⟩⟨h4,k5⟩=>aU4 ?_)
 refine Qp (α:=Nat) [1,10,19,20,21,22,23,24,25,26,27,28] (λk=>[(19,.int .i64 (k:Int)),(1,.int .i64 ((s.take k).foldl st n0))]) (λ_=>_) (λk=>k<=s.length) (λk=>s.length-k) 0 (Nat.zero_le _) aSx (λw h=>h) (λk hk1=>?_)
 refine aU5 ?_
 refine sCd rfl (λh6=>?_) λh6=>?_
 ·have hk:k<s.length:=by omega
  have hs9:=Qd0 (f:=st) (a:=n0) hk
  have hle:=Qay hst (s.take k) n0 hn
  have hb9:=(s.getD k 0).toNat_lt
  refine aU5 ?_
  refine o_p (Qa rfl rfl rfl QD (k) om om rfl) rfl (o_q (Qv rfl rfl ZZ (λw h=>by rw[Nat.zero_add];exact h.rd_blk (Mc:=[]) aPk (by rw[Nat.mul_one];exact XR hk) (by simp))) rfl (aU6 ?_))
  refine o_p (Qm rfl rfl Yx X2) rfl ?_
  try refine oWr ?_
  refine o_q (XM rfl rfl hq rfl (λw1 h1=>hc ((s.take k).foldl st n0) (s.getD k 0) w1 hle)) rfl (aT5 ?_)
  refine aU2 ?_
  exact QH (k+1) om om (by rw[hs9];exact aSx) (λw h=>h)
 obtain rfl:k=s.length:=om
 rw[List.take_length]
 refine Qk rfl ?_
 refine aU6 ?_
 exact Qg (rs:=[.tmp 6,.tmp 7]) rfl (.tmp rfl (.tmp rfl (.nil))) (λw' h'=>⟨by rfl,h'.below⟩)
theorem c144(w:World)(n:Int)(c:UInt8)(hn:0<=n/\n<2147483648):CR 144 #[.int .i64 n,.int .i64 (c.toNat:Int)] w (.int .i64 (QbP n c)):=by
 have hb:=c.toNat_lt
 refine eN2 Tryz.func144 Tryz.ntmps144 ?_
 refine aT8 ?_
 refine aT2 ?_
 refine o_p (Zm rfl rfl rfl om om) rfl (aU2 ?_)
 exact rV
theorem c212(w:World)(n:Int)(c:UInt8)(hn:0<=n/\n<2147483648):CR 212 #[.int .i64 n,.int .i64 (c.toNat:Int)] w (.int .i64 (QeE n c)):=by
 have hb:=c.toNat_lt
 obtain⟨m,rfl⟩:=Int.eq_ofNat_of_zero_le hn.1
 refine eN2 Tryz.func212 Tryz.ntmps212 ?_
 refine aU7 ?_
 refine o_p (Qem rfl rfl rfl (by decide) 1 rfl) rfl (aU2 ?_)
 refine o_p (Qci rfl rfl rfl (by decide) 30 rfl) rfl (aU ?_)
 refine Qn (show _=Value.int .i64 ((2*m%2147483648+m/1073741824:Nat):Int)from QoU m om) (aU7 ?_)
 refine Qn (Qgy om om) (o_p (Zm rfl rfl rfl om om) rfl (aU2 ?_))
 exact rV (h:=by unfold QeE;rw[show(2*(m:Int)%2147483648+(m:Int)/1073741824)=((2*m%2147483648+m/1073741824:Nat):Int) by omega];rfl)
theorem c91(w:World)(s:List UInt8)(hm:s.length<=200000):CR 91 #[.string (bs s)] w (.tuple #[.int .i64 (hashS s),.int .i64 0]):=by
 refine eN1 Tryz.func91 Tryz.ntmps91 ?_
 refine aU8 ?_
 refine oCq rfl (λw1 h1=>c143 w1 s 17 144 #[] QbP hm om Qcx Qnr (λn c w2 hn=>c144 w2 n c hn)) (aU5 ?_)
 exact Qg (rs:=[.tmp 2,.tmp 3]) rfl (.tmp rfl (.tmp rfl (.nil))) (λw' h'=>⟨by rfl,h'.below⟩)
theorem c46(w:World)(s:List UInt8)(hm:s.length<=200000):CR 46 #[.string (bs s)] w (.int .i64 (hashS s)):=by
 refine eN1 Tryz.func46 Tryz.ntmps46 ?_
 refine aU7 ?_
 refine oCq rfl (λw1 h1=>c91 w1 s hm) (Y0 ?_)
 exact rV
theorem c161(w:World)(s:List UInt8)(hm:s.length<=200000):CR 161 #[.string (bs s)] w (.tuple #[.int .i64 (sumS s),.int .i64 0]):=by
 refine eN1 Tryz.func161 Tryz.ntmps161 ?_
 refine aU8 ?_
 refine oCq rfl (λw1 h1=>c143 w1 s 0 212 #[] QeE hm om QgC Qoj (λn c w2 hn=>c212 w2 n c hn)) (aU5 ?_)
 exact Qg (rs:=[.tmp 2,.tmp 3]) rfl (.tmp rfl (.tmp rfl (.nil))) (λw' h'=>⟨by rfl,h'.below⟩)
theorem c123(w:World)(s:List UInt8)(hm:s.length<=200000):CR 123 #[.string (bs s)] w (.int .i64 (sumS s)):=by
 refine eN1 Tryz.func123 Tryz.ntmps123 ?_
 refine aU7 ?_
 refine oCq rfl (λw1 h1=>c161 w1 s hm) (Y0 ?_)
 exact rV
theorem c61(w:World)(s:List UInt8)(hm:s.length<=1000000000):CR 61 #[.string (bs s)] w (.int .i64 (hashS s)):=by
 refine eN1 Tryz.func61 Tryz.ntmps61 ?_
 refine Qg0 ?_
 refine Qp (α:=Nat) [3,4,5,6,7,8,9,10,11,12,13,14,15,16,17,18] (λk=>[(4,.int .i64 (k:Int)),(3,.int .i64 ((s.take k).foldl QbP 17))]) (λ_=>_) (λk=>k<=s.length) (λk=>s.length-k) 0 (Nat.zero_le _) aSx (λw h=>h) (λk hk1=>?_)
 refine aU5 ?_
 refine o_p (Qr rfl rfl Tryz.underlying9) rfl (aU2 ?_)
 refine sCd rfl (λh1=>?_) λh1=>?_
 ·have hk:k<s.length:=by omega
  have hs9:=Qd0 (f:=QbP) (a:=(17:Int)) hk
  have hle:=Qay Qcx (s.take k) 17 om
  have hb9:=(s.getD k 0).toNat_lt
  refine aT6 ?_
  refine aU2 ?_
  refine o_p (Xm rfl rfl rfl Tryz.underlying9 (k) om om) rfl ?_
  refine o_p (Qm rfl rfl Yx X2) rfl ?_
  try refine oWr ?_
  refine aT ?_
  refine o_p (Zm rfl rfl rfl om om) rfl (aT6 ?_)
  refine aU2 ?_
  exact QH (k+1) om om (by rw[hs9];exact aSx) (λw h=>h)
 obtain rfl:k=s.length:=om
 rw[List.take_length]
 refine Qk rfl ?_
 refine aU5 ?_
 exact rV
instance:TFn Tryz.prog 82:=⟨by kernel_rfl⟩
theorem QjX:QC Tryz.prog 83=true:=by kernel_rfl
def h4B(d:Dsc):List UInt8:=[1,by8 (Qap d),by8 d.en.length,by8 d.au.length]
theorem Qj7(d:Dsc):XF d=h4B d++le4 d.ow++le4 d.gr:=rfl
theorem Qls(h x:List UInt8)(a:Ace):h++(x++Yk a)=h++x++[by8 a.kd,by8 a.fl]++le2 a.ms++le4 a.wh:=by
  simp only[Yk,List.append_assoc,List.cons_append,List.nil_append]
theorem c41(w:World)(d:Dsc)(ea:Option Addr)(eac:Nat)(aa:Option Addr)(aac:Nat)(hse:Rw Ace.vals 4 w [] ea d.en)(hsa:Rw Ace.vals 4 w [] aa d.au)(hme:d.en.length<=100000)(hma:d.au.length<=100000):CR 41 #[.agg #[.int .i64 d.ow,.int .i64 d.gr,.bool d.pr,.bool d.he,.slice ea d.en.length eac,.slice aa d.au.length aac]] w (.tuple #[.string (bs (if(QF d).2=0 then Xe d else[])),.int .i64 (QF d).2]):=by
 refine eN1 Tryz.func41 Tryz.ntmps41 ?_
 refine aU2 ?_
 refine oBx λb1 _=>?_
 refine aU7 ?_
 refine oCq rfl (λw1 h1=>c82 w1 d ea eac aa aac (hse.later h1) (hsa.later h1) hme hma) (aU7 ?_)
 refine sCd rfl (λh2=>?_) λh2=>?_
 ·have h0:¬(QF d).2=0:=h2
  refine aU6 ?_
  exact Qg (rs:=[.tmp 2,.tmp 3]) rfl (.tmp rfl (.tmp rfl (.nil))) (λw' h'=>⟨by rw[if_neg h0];rfl,h'.below⟩)
 have h0:(QF d).2=0:=h2
 obtain⟨hok1,hok2,hok3,hok4⟩:=Qeu h0
 have hokp:=QgY hok1
 have hll:(d.en++d.au).length<=32:=by rw[List.length_append];omega
 refine Y0 ?_
 refine Q7 (α:=Unit) [5,16,17] (λ_=>[(5,.int .i64 (if d.pr then 1 else 0))]) (λ_=>HS w [] [.blk b1 28 6 [.int .i64 d.ow,.int .i64 d.gr,.bool d.pr,.bool d.he,.slice ea d.en.length eac,.slice aa d.au.length aac]]) (λ_=>True) ?_ ?_
 ·skip
  refine sCd rfl (λh3=>?_) λh3=>?_
  ·have hp9:d.pr=true:=h3
   refine aU5 ?_
   exact Qf () trivial (by(try dsimp only);rw[hp9];exact aSx) (λw h=>h.ent aEt)
  have hp9:d.pr=false:=by simpa using h3
  refine aU ?_
  exact Qf () trivial (by(try dsimp only);rw[hp9];exact aSx) (λw h=>h.ent aEt)
 intro _ _
 refine aU6 ?_
 refine Q7 (α:=Unit) [5,20,21] (λ_=>[(5,.int .i64 (Qap d))]) (λ_=>HS w [] [.blk b1 28 6 [.int .i64 d.ow,.int .i64 d.gr,.bool d.pr,.bool d.he,.slice ea d.en.length eac,.slice aa d.au.length aac]]) (λ_=>True) ?_ ?_
 ·skip
  refine sCd rfl (λh4=>?_) λh4=>?_
  ·have hh9:d.he=true:=h4
   refine aU5 ?_
   exact Qf () trivial (by unfold Qap;rw[hh9];cases d.pr<;>exact aSx) (λw h=>h.ent aEt)
  have hh9:d.he=false:=by simpa using h4
  refine aU ?_
  exact Qf () trivial (by unfold Qap;rw[hh9];cases d.pr<;>exact aSx) (λw h=>h.ent aEt)
 intro _ _
 refine aU3 ?_
 refine o_p (Qm rfl rfl X2 Yx) rfl (Qn (XS _) (aU3 ?_))
 refine o_p (Qm rfl rfl X2 Yx) rfl (Qn (XS _) (aU3 ?_))
 refine o_p (Qm rfl rfl X2 Yx) rfl (Qn (XS _) (o_h (Qc (cs:=[_,_,_,_]) rfl rfl QD QbR rfl rfl rfl) rfl (λb5 _=>Yf (C':=HS w [] [.own (.slice (some ⟨b5,0,none⟩) 4 4) 5 1 (4) ((h4B d).map bv),.blk b1 28 6 [.int .i64 d.ow,.int .i64 d.gr,.bool d.pr,.bool d.he,.slice ea d.en.length eac,.slice aa d.au.length aac]]) (λw h=>HS.own_shut (cap:=4) (n:=4) (sz:=1) (h.ent aEt) rfl om (by decide)) (aU7 ?_))))
 refine o_p (Qm rfl rfl X2 Xt) rfl (Qn (show _=Value.int .u32 d.ow from by rw[QcU,Int.emod_eq_of_lt om om]) (o_h (Q1 (Cs:=[.own (.slice (some ⟨b5,0,none⟩) (h4B d).length 4) 5 1 ((h4B d).length) ((h4B d).map bv)]) rfl QjX rfl aPs (λw1 h1 hf=>c83 w1 (some ⟨b5,0,none⟩) 4 (h4B d) d.ow hf om (by simp only[List.length_append,h4B,List.length_cons,List.length_nil,le4,le2];omega))) rfl (λg8 _=>aU3 ?_)))
 refine Qi (L':=[(1,_),(2,_),(3,_),(6,_)]) aSx (λ_ h=>h) ?_
 refine aU4 ?_
 refine o_p (Qm rfl rfl X2 Xt) rfl (Qn (show _=Value.int .u32 d.gr from by rw[QcU,Int.emod_eq_of_lt om om]) (o_h (Q1 (Cs:=[.own (.slice g8.1 (h4B d++le4 d.ow).length g8.2) 5 1 ((h4B d++le4 d.ow).length) ((h4B d++le4 d.ow).map bv)]) rfl QjX rfl aPs (λw1 h1 hf=>c83 w1 g8.1 g8.2 (h4B d++le4 d.ow) d.gr hf om (by simp only[List.length_append,h4B,List.length_cons,List.length_nil,le4,le2];omega))) rfl (λg12 _=>aU9 ?_)))
 refine o_h (Qc (cs:=[_,_]) rfl rfl Qee QjK rfl rfl rfl) rfl (λb6 _=>oCh rfl (λw1 h1=>cat2 w1 ea aa eac aac d.en d.au h1 aPk (hse.later h1) (hsa.later h1) om om) (λgw _=>aU4 ?_))
 refine Qi (L':=[(2,_),(3,_),(6,_),(48,_),(49,_),(50,_)]) aSx (λ_ h=>h) ?_
 refine Qp (α:=Nat×Option Addr×Nat) [6,8,50,51,52,53,54,55,56,57,58,59,60,61,62,63,64,65,66,67,68,69,70,71,72,73] (λx=>[(50,.int .i64 (x.1:Int)),(6,.slice x.2.1 (XF d++((d.en++d.au).take x.1).flatMap Yk).length x.2.2)]) (λx=>HS w [] [.own (.slice x.2.1 ((XF d++((d.en++d.au).take x.1).flatMap Yk)).length x.2.2) 5 1 (((XF d++((d.en++d.au).take x.1).flatMap Yk)).length) (((XF d++((d.en++d.au).take x.1).flatMap Yk)).map bv),.own (.slice gw.1 (d.en++d.au).length gw.2) 119 4 (d.en++d.au).length ((d.en++d.au).flatMap Ace.vals),.blk b1 28 6 [.int .i64 d.ow,.int .i64 d.gr,.bool d.pr,.bool d.he,.slice ea d.en.length eac,.slice aa d.au.length aac]]) (λx=>x.1<=(d.en++d.au).length) (λx=>(d.en++d.au).length-x.1) (0,g12.1,g12.2) (Nat.zero_le _) (by rw[List.take_zero,List.flatMap_nil,List.append_nil];exact aSx) (λw h=>by dsimp only;rw[List.take_zero,List.flatMap_nil,List.append_nil,Qj7];exact h.ent aEt) (λ⟨k,ga,gc⟩hk1=>?_)
 dsimp only
 simp only[]at hk1
 refine aU5 ?_
 refine sCd rfl (λh7=>?_) λh7=>?_
 ·have hk:k<(d.en++d.au).length:=by omega
  have hae:=QhF (QgH (hok4 k hk))
  have hst:(XF d++((d.en++d.au).take (k+1)).flatMap Yk)=_:=(congrArg (XF d++ ·) (QhO (f:=Yk) hk)).trans (Qls _ _ _)
  have hln:=QcR ((d.en++d.au).take k)
  have hhl:=QcJ d
  rw[List.length_take]at hln
  refine ZD (λw h=>Rw.some (h.rw_own av4 aPk rfl) om) λhsm=>aU5 ?_
  refine o_p (Qa rfl rfl rfl Xq (k) om om hsm) rfl (o_q (Qae _ rfl rfl QaF rfl (λw h=>Rw.rd (h.rw_own av4 aPk rfl) hk)) rfl (oAl (λb8 _=>?_) Xa))
  refine aU7 ?_
  refine o_p (Qm rfl rfl X2 Yx) rfl (Qn (XS _) (aU2 ?_))
  refine o_p (Qm rfl rfl X2 Yx) rfl (Qn (XS _) (o_h (Qc (cs:=[_,_]) rfl rfl QD QbR rfl rfl rfl) rfl (λb9 _=>?_)))
  refine o_h (Qz _ rfl rfl rfl QD Tryz.underlying124 QbR rfl aPk (Q5 aPk) rfl (by intro u hu;simp only[List.mem_cons,List.mem_nil_iff,or_false]at hu;rcases hu with rfl|rfl<;>rfl) (by simp only[List.length_append];omega) (by simp only[maxLen,List.length_append];omega)) rfl (λb10 _=>Qn (show _=Value.slice b10.1 ((XF d++((d.en++d.au).take k).flatMap Yk)++[by8 (nth (d.en++d.au) k).kd,by8 (nth (d.en++d.au) k).fl]).length b10.2 from by rw[@List.length_append _ (XF d++((d.en++d.au).take k).flatMap Yk) _];rfl) (Yf (C':=HS w [] [.own (.slice b10.1 ((XF d++((d.en++d.au).take k).flatMap Yk)++[by8 (nth (d.en++d.au) k).kd,by8 (nth (d.en++d.au) k).fl]).length b10.2) 5 1 (((XF d++((d.en++d.au).take k).flatMap Yk)++[by8 (nth (d.en++d.au) k).kd,by8 (nth (d.en++d.au) k).fl]).length) (((XF d++((d.en++d.au).take k).flatMap Yk)++[by8 (nth (d.en++d.au) k).kd,by8 (nth (d.en++d.au) k).fl]).map bv),.blk b8 119 4 (Ace.vals (nth (d.en++d.au) k)),.own (.slice gw.1 (d.en++d.au).length gw.2) 119 4 (d.en++d.au).length ((d.en++d.au).flatMap Ace.vals),.blk b1 28 6 [.int .i64 d.ow,.int .i64 d.gr,.bool d.pr,.bool d.he,.slice ea d.en.length eac,.slice aa d.au.length aac]]) (λw h=>by rw[List.map_append (l₁:=(XF d++((d.en++d.au).take k).flatMap Yk)),@List.length_append _ (XF d++((d.en++d.au).take k).flatMap Yk) _];exact h.ent aEt) (aU7 ?_)))
  refine o_p (Qm rfl rfl X2 XE) rfl (Qn (show _=Value.int .u16 (nth (d.en++d.au) k).ms from by rw[Qjy,Int.emod_eq_of_lt om om]) (o_h (Q1 (Cs:=[.own (.slice b10.1 ((XF d++((d.en++d.au).take k).flatMap Yk)++[by8 (nth (d.en++d.au) k).kd,by8 (nth (d.en++d.au) k).fl]).length b10.2) 5 1 (((XF d++((d.en++d.au).take k).flatMap Yk)++[by8 (nth (d.en++d.au) k).kd,by8 (nth (d.en++d.au) k).fl]).length) (((XF d++((d.en++d.au).take k).flatMap Yk)++[by8 (nth (d.en++d.au) k).kd,by8 (nth (d.en++d.au) k).fl]).map bv)]) rfl QmV rfl aPs (λw1 h1 hf=>c85 w1 b10.1 b10.2 ((XF d++((d.en++d.au).take k).flatMap Yk)++[by8 (nth (d.en++d.au) k).kd,by8 (nth (d.en++d.au) k).fl]) (nth (d.en++d.au) k).ms hf om (by simp only[List.length_append,h4B,List.length_cons,List.length_nil,le4,le2];omega))) rfl (λg16 _=>aU6 ?_)))
  refine o_p (Qm rfl rfl X2 Xt) rfl (Qn (show _=Value.int .u32 (nth (d.en++d.au) k).wh from by rw[QcU,Int.emod_eq_of_lt om om]) (o_h (Q1 (Cs:=[.own (.slice g16.1 ((XF d++((d.en++d.au).take k).flatMap Yk)++[by8 (nth (d.en++d.au) k).kd,by8 (nth (d.en++d.au) k).fl]++le2 (nth (d.en++d.au) k).ms).length g16.2) 5 1 (((XF d++((d.en++d.au).take k).flatMap Yk)++[by8 (nth (d.en++d.au) k).kd,by8 (nth (d.en++d.au) k).fl]++le2 (nth (d.en++d.au) k).ms).length) (((XF d++((d.en++d.au).take k).flatMap Yk)++[by8 (nth (d.en++d.au) k).kd,by8 (nth (d.en++d.au) k).fl]++le2 (nth (d.en++d.au) k).ms).map bv)]) rfl QjX rfl aPs (λw1 h1 hf=>c83 w1 g16.1 g16.2 ((XF d++((d.en++d.au).take k).flatMap Yk)++[by8 (nth (d.en++d.au) k).kd,by8 (nth (d.en++d.au) k).fl]++le2 (nth (d.en++d.au) k).ms) (nth (d.en++d.au) k).wh hf om (by simp only[List.length_append,h4B,List.length_cons,List.length_nil,le4,le2];omega))) rfl (λg32 _=>aT5 ?_)))
  refine aU2 ?_
  exact QH (k+1,g32.1,g32.2) (by(try simp only[]);omega) (by(try simp only[]);omega) (by dsimp only;rw[hst];exact aSx) (λw h=>by dsimp only;rw[hst];exact h.ent aEt)
 obtain rfl:k=(d.en++d.au).length:=om
 rw[List.take_length,<-Qfw]
 refine Qk rfl ?_
 refine aU3 ?_
 refine o_q (Z0 rfl rfl Tryz.underlying124 Tryz.underlying9 Tryz.underlying5 aPk (Qdn _)) rfl (aU3 ?_)
 exact Qg (rs:=[.tmp 2,.tmp 3]) rfl (.tmp rfl (.tmp rfl (.nil))) (λw' h'=>⟨by rw[if_pos h0,h0,Qca];rfl,h'.below⟩)
theorem QfR:tsz Tryz.prog 124=some (1,false):=by kernel_rfl
instance:TSz Tryz.prog 124 1 false:=⟨QfR⟩
theorem c150(w:World){G:Type}(w0:World)(M:List Nat)(Cs:Nat->G->List HA)(g0:G)(l b1 b2 K:Nat)(a:Option Addr)(m cap:Nat)(hm:m=8*K)(hmc:m<=cap)(hcap:cap<=9223372036854775807)(hw:HS w0 M (Cs 0 g0) w)(hr:∀k g w,HS w0 M (Cs k g) w->Rd w [] b1 0 (.slice a m cap)/\Rd w [] b2 0 (.int .i64 8))(hy:∀k g w,k<K->HS w0 M (Cs k g) w->YM Tryz.prog l #[.slice (YC a (8*k+8) (8*k) 1) 8 8] w λe w'=>∃g',e=.returned (.bool true)/\True/\HS w0 M (Cs (k+1) g') w'):Calls Tryz.prog 150 #[.func (.yield l) #[] #[],.pointer (some ⟨b1,0,none⟩),.pointer (some ⟨b2,0,none⟩)] w λen w'=>(∃v,en=.returned v)/\∃x:G,HS w0 M (Cs K x) w':=by
 refine eW3 Tryz.func150 Tryz.ntmps150 hw ?_
 refine aU5 ?_
 refine Qp (α:=Nat×G) [4,5,6,7,8,9,10,11,12,13,14,15,16,17,18,19,20,21,22,23,24,25,26,27,28,29,30] (λx=>[(4,.int .i64 ((8*x.1:Nat):Int))]) (λx=>HS w0 M (Cs x.1 x.2)) (λx=>x.1<=K) (λx=>K-x.1) (0,g0) (Nat.zero_le _) aSx (λw h=>h) (λ⟨k,gg⟩hk1=>?_)
 dsimp only
 simp only[]at hk1
 refine aU4 ?_
 refine o_q (Qv rfl rfl QfR (λw h=>(hr _ _ w h).1)) rfl (aU3 ?_)
 refine sCd rfl (λh1=>?_) λh1=>?_
 ·have hk:k<K:=by omega
  refine aU4 ?_
  refine Qq [] mixed ?_
  refine dQ 0 [] rfl (Qv rfl rfl Q3 (λw h=>(hr _ _ w h).2)) (dQ 1 [] rfl (Qv rfl rfl QfR (λw h=>(hr _ _ w h).1)) (dP 2 ?_))
  refine dV 3 rfl (XU _ _ (8*k) m rfl rfl QD ⟨_,_,rfl,rfl⟩ rfl om om) (dV 4 rfl (Qx rfl rfl Tryz.underlying124) (dV 5 rfl (Qnp rfl rfl rfl ) ?_))
  refine Qy (show _=Value.int .i64 8 from by congr 1;split<;>omega) (dP 6 ?_)
  refine dNi ?_
  refine aU3 ?_
  refine o_q (Qv rfl rfl QfR (λw h=>(hr _ _ w h).1)) rfl (aT4 ?_)
  refine aT3 ?_
  refine o_p (Qjj (8*k) (8*k+8) (8*k+8) rfl rfl rfl rfl rfl QD rfl om om om om om) rfl ?_
  refine Qn (show _=Value.slice (YC a (8*k+8) (8*k) 1) 8 8 from by congr 1<;>omega) (o_h (QhJ rfl rfl rfl (λw1 h1=>hy k gg w1 hk h1)) rfl (λgy _=>aU2 ?_))
  refine sCd rfl (λh2=>?_) λh2=>?_
  ·exfalso;first|omega|(simp at h2;done)|(simp_all;done)
  refine aU4 ?_
  refine o_q (Qv rfl rfl Q3 (λw h=>(hr _ _ w h).2)) rfl (aT ?_)
  refine aU2 ?_
  exact QH (k+1,gy) (by(try simp only[]);omega) (by(try simp only[]);omega) aSx (λw h=>h)
 obtain rfl:k=K:=om
 refine Qk rfl ?_
 exact QcM rfl (λw' h'=>⟨⟨_,rfl⟩,gg,h'⟩)
theorem QY:Q8 Tryz.prog 28=some [.int .i64 0,.int .i64 0,.bool false,.bool false,.slice none 0 0,.slice none 0 0]:=by kernel_rfl
theorem XP:Yh Tryz.prog 28=some [(0,1),(1,1),(2,1),(3,1),(4,1),(5,1)]:=by kernel_rfl
instance:TFn Tryz.prog 102:=⟨by kernel_rfl⟩
theorem Qln:QC Tryz.prog 150=true:=by kernel_rfl
theorem QfZ:QC Tryz.prog 103=true:=by kernel_rfl
theorem c102(w:World)(a:Option Addr)(m cap:Nat):CE 102 #[.slice a m cap,.int .i64 8] w [] (λg:Nat×Nat=>.func (.func 150) #[] #[.pointer (some ⟨g.1,0,none⟩),.pointer (some ⟨g.2,0,none⟩)]) (λg=>True) λg=>[.blk g.1 124 1 [.slice a m cap],.blk g.2 3 1 [.int .i64 8]]:=by
 refine eN2 Tryz.func102 Tryz.ntmps102 ?_
 refine aU2 ?_
 refine oBx λb1 _=>?_
 refine oBx λb2 _=>?_
 refine aU8 ?_
 refine sCd rfl (λh3=>?_) λh3=>?_
 ·exfalso;first|omega|(simp at h3;done)|(simp_all;done)
 refine aU6 ?_
 exact rT rfl rfl (λw' h'=>⟨(b1,b2),rfl,trivial,h'.ent aEt⟩)
set_option maxHeartbeats 4000000 in
theorem c55(w:World)(s:List UInt8)(hm:s.length<=1000000):CE 55 #[.string (bs s)] w [] (λg:(Option Addr×Nat)×(Option Addr×Nat)=>.tuple #[.agg #[.int .i64 (Xj s).ow,.int .i64 (Xj s).gr,.bool (Xj s).pr,.bool (Xj s).he,.slice g.1.1 (Xj s).en.length g.1.2,.slice g.2.1 (Xj s).au.length g.2.2],.int .i64 (QbT s)]) (λg=>True) λg=>[.own (.slice g.1.1 (Xj s).en.length g.1.2) 119 4 (Xj s).en.length ((Xj s).en.flatMap Ace.vals),.own (.slice g.2.1 (Xj s).au.length g.2.2) 119 4 (Xj s).au.length ((Xj s).au.flatMap Ace.vals)]:=by
 have hc2:=(s.getD 2 0).toNat_lt
 have hc3:=(s.getD 3 0).toNat_lt
 have hb0:=YW s 0
 have hb1:=YW s 1
 have hb2:=YW s 2
 have hb3:=YW s 3
 have hx4:=X9 s 4
 have hx8:=X9 s 8
 refine eN1 Tryz.func55 Tryz.ntmps55 ?_
 refine aU2 ?_
 refine oAl (λb1 _=>?_) QY
 refine aU5 ?_
 refine o_h (Qcb rfl rfl Tryz.underlying9 Tryz.underlying124 Tryz.underlying5 rfl (by simp only[maxLen];omega)) rfl (λ⟨b2,c3⟩⟨h4,k5⟩=>aU9 ?_)
 refine sCd rfl (λh6=>?_) λh6=>?_
 ·have hl12:s.length<12:=by omega
  have hz9:YH s=10:=by unfold YH;rw[if_pos hl12]
  obtain⟨hE9,hD9⟩:=Qaf (s:=s) (by rw[hz9];decide)
  refine aU2 ?_
  refine o_p (Qs (cs:=[_,_,_,_,_,_]) rfl rfl XP QY rfl) rfl (aU3 ?_)
  exact Qg (rs:=[.cell 2 28,.tmp 3]) rfl (.cell rfl XT aPk rfl (.tmp rfl (.nil))) (λw' h'=>⟨((none,0),(none,0)),by rw[hE9,hD9,hz9];rfl,trivial,by rw[hD9];exact((h'.own_nil 119 4).own_nil 119 4).ent aEt⟩)
 have hl12:¬s.length<12:=om
 refine aU2 ?_
 refine Qfp [.blk b2 5 c3 (s.map bv)] [] mixed ?_
 refine dP 0 ?_
 refine dV 1 rfl (Qa rfl rfl rfl QD (2) om om rfl) (dQ 2 [] rfl (Qv rfl rfl ZZ (λw h=>h.rd_blk (Mc:=[]) (b:=b2) (i:=2) aPk (XR (l:=s) (k:=2) om) (by simp))) (dV 3 rfl (Qm rfl rfl Yx X2) ?_))
 try refine dWr ?_
 refine Qy (show _=Value.int .i64 (at1 s 2)from rfl) (dP 4 ?_)
 refine dV 5 rfl (Qa rfl rfl rfl QD (3) om om rfl) (dQ 6 [] rfl (Qv rfl rfl ZZ (λw h=>h.rd_blk (Mc:=[]) (b:=b2) (i:=3) aPk (XR (l:=s) (k:=3) om) (by simp))) (dV 7 rfl (Qm rfl rfl Yx X2) ?_))
 try refine dWr ?_
 refine Qy (show _=Value.int .i64 (at1 s 3)from rfl) (dH 8 rfl (Xo rfl YX) (λb7 _=>dSt 9 ?_ (hl:=(by simp only[Qj,List.length_set,List.length_cons,List.length_nil,List.length_map];omega))))
 refine dP 10 ?_
 refine dNi ?_
 refine aU ?_
 refine Qq [] mixed ?_
 refine dLd 0 [] ?_
 refine dP 1 ?_
 refine dV 2 rfl (QcD rfl rfl rfl ) (dP 3 ?_)
 refine dQ 4 [] rfl (Qe rfl ZY rfl (λw1 h1=>Qdx w1 _ _)) (dP 5 ?_)
 refine dV 6 rfl (Qx rfl rfl Tryz.underlying124) (dLd 7 [] ?_)
 refine dP 8 ?_
 refine dP 9 ?_
 try refine dWr ?_
 refine dP 10 ?_
 try refine dWr ?_
 refine dP 11 ?_
 try refine dWr ?_
 refine dP 12 ?_
 refine dQ 13 [] rfl (Qe rfl ZY rfl (λw1 h1=>Qdx w1 _ _)) (dP 14 ?_)
 refine dV 15 rfl (Qa rfl rfl rfl QD (0) om om rfl) (dQ 16 [] rfl (Qv rfl rfl ZZ (λw h=>h.rd_blk (Mc:=[]) (b:=b2) (i:=0) aPk (XR (l:=s) (k:=0) om) (by simp))) (dP 17 ?_))
 refine dP 18 ?_
 apply Xg 43
 ·exact rfl
 ·intro hg8
  have hs9:=hg8;try simp only[dT]at hs9
  refine dPo 19 43 hg8 ?_
  refine dVo 20 43 hg8 rfl rfl rfl (Qa rfl rfl rfl QD (1) om om rfl) ?_
  refine dQo 21 43 [] hg8 rfl rfl rfl (Qv rfl rfl ZZ (λw h=>h.rd_blk (Mc:=[]) (b:=b2) (i:=1) aPk (XR (l:=s) (k:=1) om) (by simp))) ?_
  refine dPo 22 43 hg8 ?_
  refine dV 23 rfl (QZ rfl rfl hg8 rfl) (dQ 24 [] rfl (Qe rfl ZY rfl (λw1 h1=>Qdx w1 _ _)) (dH 25 rfl (Qc (cs:=[_,_,_]) rfl rfl Q6 Xx rfl rfl rfl) (λb10 _=>dBa ?_)))
  refine dQ 26 [] rfl (Qe rfl Qfg rfl (λw1 h1=>f99 h1 aPk (by rfl) (by rfl) (by decide))) (dP 27 ?_)
  refine dNi ?_
  refine aU2 ?_
  refine Qi (L':=[(2,_),(3,_),(4,_),(5,_),(7,_)]) aSx (λ_ h=>h) ?_
  refine aU4 ?_
  refine sCd rfl (λh11=>?_) λh11=>?_
  ·have hp9:=Qbm (s:=s) (mx:=(if at1 s 3>at1 s 2 then at1 s 3 else at1 s 2)) (c:=decide ((s.length:Int)=12+(at1 s 2+at1 s 3)*8)) (b:=decide (at1 s 0=1)&&decide (at1 s 1<=3)) hl12 (by split<;>omega) rfl rfl
   rw[show decide (at1 s 0=1)=_ from hg8]at hp9
   have hz9:¬YH s=0:=by rw[<-hp9];exact h11
   obtain⟨hE9,hD9⟩:=Qaf hz9
   refine aU2 ?_
   refine o_p (Qs (cs:=[_,_,_,_,_,_]) rfl rfl XP QY rfl) rfl (aU4 ?_)
   exact Qg (rs:=[.cell 2 28,.tmp 3]) rfl (.cell rfl XT aPk rfl (.tmp rfl (.nil))) (λw' h'=>⟨((none,0),(none,0)),by rw[hE9,hD9,<-hp9];rfl,trivial,by rw[hD9];exact((h'.own_nil 119 4).own_nil 119 4).ent aEt⟩)
  have hp9:=Qbm (s:=s) (mx:=(if at1 s 3>at1 s 2 then at1 s 3 else at1 s 2)) (c:=decide ((s.length:Int)=12+(at1 s 2+at1 s 3)*8)) (b:=decide (at1 s 0=1)&&decide (at1 s 1<=3)) hl12 (by split<;>omega) rfl rfl
  rw[show decide (at1 s 0=1)=_ from hg8]at hp9
  have hz9:YH s=0:=by rw[<-hp9];exact h11
  obtain⟨hs1,⟨hs2,hs3⟩,hs4,hs5,hs6⟩:=QkH hz9
  have hraw:=@QQ
  refine aU2 ?_
  refine Qq [12] mixed ?_
  refine dP 0 ?_
  refine dV 1 rfl (Qa rfl rfl rfl QD (1) om om rfl) (dQ 2 [[]] rfl (Qv rfl rfl ZZ (λw h=>h.rd_blk (Mc:=[]) (b:=b2) (i:=1) aPk (XR (l:=s) (k:=1) om) (by simp))) (dP 3 ?_))
  refine dP 4 ?_
  refine Qy (show _=Value.bool (QQ s).pr from by rw[show Gx.bits .and .u8 ((s.getD 1 0).toNat:Int) 1=Gx.bits .and .u8 (at1 s 1) 1 from rfl,bit0 om,Bool.not_not];rfl) (dP 5 ?_)
  refine dV 6 rfl (Qa rfl rfl rfl QD (1) om om rfl) (dQ 7 [[]] rfl (Qv rfl rfl ZZ (λw h=>h.rd_blk (Mc:=[]) (b:=b2) (i:=1) aPk (XR (l:=s) (k:=1) om) (by simp))) (dP 8 ?_))
  refine dP 9 ?_
  refine Qy (show _=Value.bool (QQ s).he from by rw[show Gx.bits .and .u8 ((s.getD 1 0).toNat:Int) 2=Gx.bits .and .u8 (at1 s 1) 2 from rfl,bit1 om,Bool.not_not];rfl) (dV 10 rfl (Qs (cs:=[_,_,_,_,_,_]) rfl rfl XP QY rfl) (dH 11 rfl (Xo rfl QY) (λb12 _=>dBa ?_)))
  refine dSt 12 ?_ (hl:=(by simp only[Qj,List.length_set,List.length_cons,List.length_nil,List.length_map];omega))
  refine dTu [] ?_
  refine dNi ?_
  refine aU ?_
  refine Qq [9,11] mixed ?_
  refine dP 0 ?_
  refine dV 1 rfl (XU _ _ 4 s.length rfl rfl QD ⟨_,_,rfl,rfl⟩ rfl om om) (dQ 2 [[],[]] rfl (Qe rfl Qdp rfl (λw1 h1=>by have h9:=Qk4 w1 (YC (some ⟨b2,0,none⟩) c3 4 1) (s.length-4) (c3-4) (s.drop 4) (by rw[List.map_drop];exact(h1.vl_blk aPk).drop (by rw[List.length_map];omega) om) (by rw[List.length_drop]) om om (by have hq9:c3<=maxLen:=(by assumption);simp only[maxLen]at hq9;omega);rw[YN,Nat.add_zero]at h9;exact h9)) (dV 3 rfl (Qm rfl rfl Xt X2) ?_))
  try refine dWr ?_
  try refine dWr ?_
  refine dP 4 ?_
  refine dV 5 rfl (XU _ _ 8 s.length rfl rfl QD ⟨_,_,rfl,rfl⟩ rfl om om) (dQ 6 [[],[]] rfl (Qe rfl Qdp rfl (λw1 h1=>by have h9:=Qk4 w1 (YC (some ⟨b2,0,none⟩) c3 8 1) (s.length-8) (c3-8) (s.drop 8) (by rw[List.map_drop];exact(h1.vl_blk aPk).drop (by rw[List.length_map];omega) om) (by rw[List.length_drop]) om om (by have hq9:c3<=maxLen:=(by assumption);simp only[maxLen]at hq9;omega);rw[YN,Nat.add_zero]at h9;exact h9)) (dV 7 rfl (Qm rfl rfl Xt X2) ?_))
  try refine dWr ?_
  try refine dWr ?_
  refine dFa 8 ?_
  refine dSt 9 ?_ (hl:=(by simp only[Qj,List.length_set,List.length_cons,List.length_nil,List.length_map];omega))
  refine dTu [11] ?_
  refine dFa 10 ?_
  refine dSt 11 ?_ (hl:=(by simp only[Qj,List.length_set,List.length_cons,List.length_nil,List.length_map];omega))
  refine dTu [] ?_
  refine dNi ?_
  refine aU4 ?_
  refine o_p (XU _ _ 12 s.length rfl rfl QD ⟨_,_,rfl,rfl⟩ rfl om om) rfl (oCh rfl (λw1 h1=>c102 w1 _ _ _) (λgc _=>aU2 ?_))
  refine QhU (G:=(Option Addr×Nat)×(Option Addr×Nat)) (Bs:=λg=>[.blk b12 28 6 [.int .i64 (QQ s).ow,.int .i64 (QQ s).gr,.bool (QQ s).pr,.bool (QQ s).he,.slice g.1.1 (QQ s).en.length g.1.2,.slice g.2.1 (QQ s).au.length g.2.2],.own (.slice g.1.1 (QQ s).en.length g.1.2) 119 4 (QQ s).en.length ((QQ s).en.flatMap Ace.vals),.own (.slice g.2.1 (QQ s).au.length g.2.2) 119 4 (QQ s).au.length ((QQ s).au.flatMap Ace.vals),.blk b7 3 1 [.int .i64 (at1 s 2)],.blk b2 5 c3 (s.map bv),.blk b1 28 6 [.int .i64 0,.int .i64 0,.bool false,.bool false,.slice none 0 0,.slice none 0 0],.blk gc.1 124 1 [.slice (YC (some ⟨b2,0,none⟩) c3 12 1) (s.length-12) (c3-12)],.blk gc.2 3 1 [.int .i64 8]]) rfl rfl rfl Qln (λfid D l a9 w1 ob hob ha9 hw1=>?_) (λD x=>?_)
  ·skip
   refine(c150 w1 w [] (λ(k:Nat)(g:(Option Addr×Nat)×(Option Addr×Nat))=>.obj l ob::.obj D (.deferred (some []))::[.blk b12 28 6 [.int .i64 (QQ s).ow,.int .i64 (QQ s).gr,.bool (QQ s).pr,.bool (QQ s).he,.slice g.1.1 (enK s k).length g.1.2,.slice g.2.1 (auK s k).length g.2.2],.own (.slice g.1.1 (enK s k).length g.1.2) 119 4 (enK s k).length ((enK s k).flatMap Ace.vals),.own (.slice g.2.1 (auK s k).length g.2.2) 119 4 (auK s k).length ((auK s k).flatMap Ace.vals),.blk b7 3 1 [.int .i64 (at1 s 2)],.blk b2 5 c3 (s.map bv),.blk b1 28 6 [.int .i64 0,.int .i64 0,.bool false,.bool false,.slice none 0 0,.slice none 0 0],.blk gc.1 124 1 [.slice (YC (some ⟨b2,0,none⟩) c3 12 1) (s.length-12) (c3-12)],.blk gc.2 3 1 [.int .i64 8]]) ((none,0),(none,0)) l gc.1 gc.2 ((at1 s 2).toNat+(at1 s 3).toNat) (YC (some ⟨b2,0,none⟩) c3 12 1) (s.length-12) (c3-12) om om (by have hq9:c3<=maxLen:=(by assumption);simp only[maxLen]at hq9;omega) ?_ ?_ (λk g w2 hk h2=>?_)).mono λe w2 hx=>?_
   ·show HS w [] (_::_) w1;rw[Qd4,Qeb];exact((hw1.own_nil 119 4).own_nil 119 4).ent aEt
   ·exactλk g w2 h2=>⟨h2.rd_blk (i:=0) aPk rfl (by simp),h2.rd_blk (i:=0) aPk rfl (by simp)⟩
   rotate_left
   ·obtain⟨hx1,x,hx2⟩:=hx
    refine⟨hx1,x,?_⟩
    rw[<-Qbj,<-Qbb]
    exact hx2
   subst hob
   have hel:=Qbl s k
   have hal:=Qbs s k
   rw[Qax (b:=b2) (o:=0+12) (k:=8*k) (cap:=8*k+8) (Qax rfl om) om,show 0+12+8*k=0+(12+8*k)from om]
   refine QhN (fn:=Tryz.f55) (As1:=.obj D (.deferred (some []))::[.blk b12 28 6 [.int .i64 (QQ s).ow,.int .i64 (QQ s).gr,.bool (QQ s).pr,.bool (QQ s).he,.slice g.1.1 (enK s k).length g.1.2,.slice g.2.1 (auK s k).length g.2.2],.own (.slice g.1.1 (enK s k).length g.1.2) 119 4 (enK s k).length ((enK s k).flatMap Ace.vals),.own (.slice g.2.1 (auK s k).length g.2.2) 119 4 (auK s k).length ((auK s k).flatMap Ace.vals),.blk b7 3 1 [.int .i64 (at1 s 2)],.blk b2 5 c3 (s.map bv),.blk b1 28 6 [.int .i64 0,.int .i64 0,.bool false,.bool false,.slice none 0 0,.slice none 0 0],.blk gc.1 124 1 [.slice (YC (some ⟨b2,0,none⟩) c3 12 1) (s.length-12) (c3-12)],.blk gc.2 3 1 [.int .i64 8]]) (L1:=[(9,.slice (some ⟨b2,0+(12+8*k),none⟩) 8 8),(8,.pointer (some ⟨b12,0,none⟩)),(5,.pointer (some ⟨b7,0,none⟩))]) h2 rfl (FR.round1 ha9 80 _ rfl) ?_ ?_
   ·skip
    refine aU3 ?_
    exact QcQ () aSx (λw h=>h.ent aEt)
   skip
   refine aU9 ?_
   refine sCd rfl (λh13=>?_) λh13=>?_
   ·have hke:k<(at1 s 2).toNat:=by have hq:=h13;omega
    have hen:=QdC hke
    have hau:=Qey hke
    refine Qq [5,7] mixed ?_
    refine dFa 0 ?_
    refine dLd 1 [[],[]] ?_
    refine dP 2 ?_
    refine dQ 3 [[],[]] rfl (Qe rfl QfZ rfl (λw1 h1=>by have h9:=Ql0 w1 (some ⟨b2,0+(12+8*k),none⟩) 8 8 ((s.drop (12+8*k)).take 8) (by rw[List.map_take,List.map_drop];exact Qc9 (h1.vl_blk aPk) rfl (by rw[List.length_map];omega)) (by rw[List.length_take,List.length_drop];omega) om om om;rw[Qcn]at h9;exact h9)) (dH 4 rfl (Qc (cs:=[_,_,_,_]) rfl rfl Xq Xa rfl rfl rfl) (λb14 _=>dBa ?_))
    refine dH 5 rfl (Qz [_,_,_,_] rfl rfl rfl Xq Tryz.underlying26 Xa rfl aPk (Q5 aPk) rfl (av1 _) om (by simp only[maxLen];omega)) (λb15 _=>dTu [7] ?_)
    refine dFa 6 ?_
    refine dSt 7 ?_ (hl:=(by simp only[Qj,List.length_set,List.length_cons,List.length_nil,List.length_map];omega))
    refine dTu [] ?_
    refine dNi ?_
    refine aU ?_
    exact ZL rfl aPk (λw h=>⟨(b15,g.2),rfl,trivial,by dsimp only;rw[hen,hau,List.length_append,Xd];exact h.ent aEt⟩)
   have hke:(at1 s 2).toNat<=k:=by have hq:=h13;omega
   have hen:=Qei hke
   have hau:=QeG hke
   refine Qq [5,7] mixed ?_
   refine dFa 0 ?_
   refine dLd 1 [[],[]] ?_
   refine dP 2 ?_
   refine dQ 3 [[],[]] rfl (Qe rfl QfZ rfl (λw1 h1=>by have h9:=Ql0 w1 (some ⟨b2,0+(12+8*k),none⟩) 8 8 ((s.drop (12+8*k)).take 8) (by rw[List.map_take,List.map_drop];exact Qc9 (h1.vl_blk aPk) rfl (by rw[List.length_map];omega)) (by rw[List.length_take,List.length_drop];omega) om om om;rw[Qcn]at h9;exact h9)) (dH 4 rfl (Qc (cs:=[_,_,_,_]) rfl rfl Xq Xa rfl rfl rfl) (λb16 _=>dBa ?_))
   refine dH 5 rfl (Qz [_,_,_,_] rfl rfl rfl Xq Tryz.underlying26 Xa rfl aPk (Q5 aPk) rfl (av1 _) om (by simp only[maxLen];omega)) (λb17 _=>dTu [7] ?_)
   refine dFa 6 ?_
   refine dSt 7 ?_ (hl:=(by simp only[Qj,List.length_set,List.length_cons,List.length_nil,List.length_map];omega))
   refine dTu [] ?_
   refine dNi ?_
   refine aU ?_
   exact ZL rfl aPk (λw h=>⟨(g.1,b17),rfl,trivial,by dsimp only;rw[hen,hau,List.length_append,Xd];exact h.ent aEt⟩)
  skip
  refine aU3 ?_
  refine Qi (L':=[(2,_),(3,_),(8,_)]) aSx (λ_ h=>h) ?_
  refine aU2 ?_
  refine oCq rfl (λw1 h1=>c82 w1 (QQ s) x.1.1 x.1.2 x.2.1 x.2.2 (h1.rw_own av4 aPk rfl) (h1.rw_own av4 aPk rfl) (by rw[<-Qbj,Qbl];omega) (by rw[<-Qbb,Qbs];omega)) (aU7 ?_)
  refine sCd rfl (λh18=>?_) λh18=>?_
  ·have hn9:¬(QF (QQ s)).2=0:=h18
   obtain⟨hE9,hD9⟩:=QfG hz9 hn9
   refine aU2 ?_
   refine o_p (Qs (cs:=[_,_,_,_,_,_]) rfl rfl XP QY rfl) rfl (aU4 ?_)
   exact Z1 (rs:=[.cell 2 28,.tmp 3]) rfl aPk (.cell rfl XT aPk rfl (.tmp rfl (.nil))) (λw' h'=>⟨((none,0),(none,0)),by rw[hE9,hD9];rfl,trivial,by rw[hD9];exact((h'.own_nil 119 4).own_nil 119 4).ent aEt⟩)
  have hn9:(QF (QQ s)).2=0:=h18
  obtain⟨hE9,hD9⟩:=Qd1 hz9 hn9
  refine aU7 ?_
  exact Z1 (rs:=[.cell 2 28,.tmp 3]) rfl aPk (.cell rfl XT aPk rfl (.tmp rfl (.nil))) (λw' h'=>⟨x,by rw[hE9,hD9];rfl,trivial,by rw[hD9];exact h'.ent aEt⟩)
 intro hg19
 have hs20:=hg19;try simp only[dN]at hs20
 refine dOf 19 43 hg19 ?_
 refine dOf 20 43 hg19 ?_
 refine dOf 21 43 hg19 ?_
 refine dOf 22 43 hg19 ?_
 refine dV 23 rfl (QN rfl rfl hg19 rfl) (dQ 24 [] rfl (Qe rfl ZY rfl (λw1 h1=>Qdx w1 _ _)) (dH 25 rfl (Qc (cs:=[_,_,_]) rfl rfl Q6 Xx rfl rfl rfl) (λb21 _=>dBa ?_)))
 refine dQ 26 [] rfl (Qe rfl Qfg rfl (λw1 h1=>f99 h1 aPk (by rfl) (by rfl) (by decide))) (dP 27 ?_)
 refine dNi ?_
 refine aU2 ?_
 refine Qi (L':=[(2,_),(3,_),(4,_),(5,_),(7,_)]) aSx (λ_ h=>h) ?_
 refine aU4 ?_
 refine sCd rfl (λh22=>?_) λh22=>?_
 ·have hp9:=Qbm (s:=s) (mx:=(if at1 s 3>at1 s 2 then at1 s 3 else at1 s 2)) (c:=decide ((s.length:Int)=12+(at1 s 2+at1 s 3)*8)) (b:=decide (at1 s 0=1)&&decide (at1 s 1<=3)) hl12 (by split<;>omega) rfl rfl
  rw[show decide (at1 s 0=1)=_ from hg19]at hp9
  have hz9:¬YH s=0:=by rw[<-hp9];exact h22
  obtain⟨hE9,hD9⟩:=Qaf hz9
  refine aU2 ?_
  refine o_p (Qs (cs:=[_,_,_,_,_,_]) rfl rfl XP QY rfl) rfl (aU4 ?_)
  exact Qg (rs:=[.cell 2 28,.tmp 3]) rfl (.cell rfl XT aPk rfl (.tmp rfl (.nil))) (λw' h'=>⟨((none,0),(none,0)),by rw[hE9,hD9,<-hp9];rfl,trivial,by rw[hD9];exact((h'.own_nil 119 4).own_nil 119 4).ent aEt⟩)
 have hp9:=Qbm (s:=s) (mx:=(if at1 s 3>at1 s 2 then at1 s 3 else at1 s 2)) (c:=decide ((s.length:Int)=12+(at1 s 2+at1 s 3)*8)) (b:=decide (at1 s 0=1)&&decide (at1 s 1<=3)) hl12 (by split<;>omega) rfl rfl
 rw[show decide (at1 s 0=1)=_ from hg19]at hp9
 have hz9:YH s=0:=by rw[<-hp9];exact h22
 obtain⟨hs1,⟨hs2,hs3⟩,hs4,hs5,hs6⟩:=QkH hz9
 have hraw:=@QQ
 refine aU2 ?_
 refine Qq [12] mixed ?_
 refine dP 0 ?_
 refine dV 1 rfl (Qa rfl rfl rfl QD (1) om om rfl) (dQ 2 [[]] rfl (Qv rfl rfl ZZ (λw h=>h.rd_blk (Mc:=[]) (b:=b2) (i:=1) aPk (XR (l:=s) (k:=1) om) (by simp))) (dP 3 ?_))
 refine dP 4 ?_
 refine Qy (show _=Value.bool (QQ s).pr from by rw[show Gx.bits .and .u8 ((s.getD 1 0).toNat:Int) 1=Gx.bits .and .u8 (at1 s 1) 1 from rfl,bit0 om,Bool.not_not];rfl) (dP 5 ?_)
 refine dV 6 rfl (Qa rfl rfl rfl QD (1) om om rfl) (dQ 7 [[]] rfl (Qv rfl rfl ZZ (λw h=>h.rd_blk (Mc:=[]) (b:=b2) (i:=1) aPk (XR (l:=s) (k:=1) om) (by simp))) (dP 8 ?_))
 refine dP 9 ?_
 refine Qy (show _=Value.bool (QQ s).he from by rw[show Gx.bits .and .u8 ((s.getD 1 0).toNat:Int) 2=Gx.bits .and .u8 (at1 s 1) 2 from rfl,bit1 om,Bool.not_not];rfl) (dV 10 rfl (Qs (cs:=[_,_,_,_,_,_]) rfl rfl XP QY rfl) (dH 11 rfl (Xo rfl QY) (λb23 _=>dBa ?_)))
 refine dSt 12 ?_ (hl:=(by simp only[Qj,List.length_set,List.length_cons,List.length_nil,List.length_map];omega))
 refine dTu [] ?_
 refine dNi ?_
 refine aU ?_
 refine Qq [9,11] mixed ?_
 refine dP 0 ?_
 refine dV 1 rfl (XU _ _ 4 s.length rfl rfl QD ⟨_,_,rfl,rfl⟩ rfl om om) (dQ 2 [[],[]] rfl (Qe rfl Qdp rfl (λw1 h1=>by have h9:=Qk4 w1 (YC (some ⟨b2,0,none⟩) c3 4 1) (s.length-4) (c3-4) (s.drop 4) (by rw[List.map_drop];exact(h1.vl_blk aPk).drop (by rw[List.length_map];omega) om) (by rw[List.length_drop]) om om (by have hq9:c3<=maxLen:=(by assumption);simp only[maxLen]at hq9;omega);rw[YN,Nat.add_zero]at h9;exact h9)) (dV 3 rfl (Qm rfl rfl Xt X2) ?_))
 try refine dWr ?_
 try refine dWr ?_
 refine dP 4 ?_
 refine dV 5 rfl (XU _ _ 8 s.length rfl rfl QD ⟨_,_,rfl,rfl⟩ rfl om om) (dQ 6 [[],[]] rfl (Qe rfl Qdp rfl (λw1 h1=>by have h9:=Qk4 w1 (YC (some ⟨b2,0,none⟩) c3 8 1) (s.length-8) (c3-8) (s.drop 8) (by rw[List.map_drop];exact(h1.vl_blk aPk).drop (by rw[List.length_map];omega) om) (by rw[List.length_drop]) om om (by have hq9:c3<=maxLen:=(by assumption);simp only[maxLen]at hq9;omega);rw[YN,Nat.add_zero]at h9;exact h9)) (dV 7 rfl (Qm rfl rfl Xt X2) ?_))
 try refine dWr ?_
 try refine dWr ?_
 refine dFa 8 ?_
 refine dSt 9 ?_ (hl:=(by simp only[Qj,List.length_set,List.length_cons,List.length_nil,List.length_map];omega))
 refine dTu [11] ?_
 refine dFa 10 ?_
 refine dSt 11 ?_ (hl:=(by simp only[Qj,List.length_set,List.length_cons,List.length_nil,List.length_map];omega))
 refine dTu [] ?_
 refine dNi ?_
 refine aU4 ?_
 refine o_p (XU _ _ 12 s.length rfl rfl QD ⟨_,_,rfl,rfl⟩ rfl om om) rfl (oCh rfl (λw1 h1=>c102 w1 _ _ _) (λgc _=>aU2 ?_))
 refine QhU (G:=(Option Addr×Nat)×(Option Addr×Nat)) (Bs:=λg=>[.blk b23 28 6 [.int .i64 (QQ s).ow,.int .i64 (QQ s).gr,.bool (QQ s).pr,.bool (QQ s).he,.slice g.1.1 (QQ s).en.length g.1.2,.slice g.2.1 (QQ s).au.length g.2.2],.own (.slice g.1.1 (QQ s).en.length g.1.2) 119 4 (QQ s).en.length ((QQ s).en.flatMap Ace.vals),.own (.slice g.2.1 (QQ s).au.length g.2.2) 119 4 (QQ s).au.length ((QQ s).au.flatMap Ace.vals),.blk b7 3 1 [.int .i64 (at1 s 2)],.blk b2 5 c3 (s.map bv),.blk b1 28 6 [.int .i64 0,.int .i64 0,.bool false,.bool false,.slice none 0 0,.slice none 0 0],.blk gc.1 124 1 [.slice (YC (some ⟨b2,0,none⟩) c3 12 1) (s.length-12) (c3-12)],.blk gc.2 3 1 [.int .i64 8]]) rfl rfl rfl Qln (λfid D l a9 w1 ob hob ha9 hw1=>?_) (λD x=>?_)
 ·skip
  refine(c150 w1 w [] (λ(k:Nat)(g:(Option Addr×Nat)×(Option Addr×Nat))=>.obj l ob::.obj D (.deferred (some []))::[.blk b23 28 6 [.int .i64 (QQ s).ow,.int .i64 (QQ s).gr,.bool (QQ s).pr,.bool (QQ s).he,.slice g.1.1 (enK s k).length g.1.2,.slice g.2.1 (auK s k).length g.2.2],.own (.slice g.1.1 (enK s k).length g.1.2) 119 4 (enK s k).length ((enK s k).flatMap Ace.vals),.own (.slice g.2.1 (auK s k).length g.2.2) 119 4 (auK s k).length ((auK s k).flatMap Ace.vals),.blk b7 3 1 [.int .i64 (at1 s 2)],.blk b2 5 c3 (s.map bv),.blk b1 28 6 [.int .i64 0,.int .i64 0,.bool false,.bool false,.slice none 0 0,.slice none 0 0],.blk gc.1 124 1 [.slice (YC (some ⟨b2,0,none⟩) c3 12 1) (s.length-12) (c3-12)],.blk gc.2 3 1 [.int .i64 8]]) ((none,0),(none,0)) l gc.1 gc.2 ((at1 s 2).toNat+(at1 s 3).toNat) (YC (some ⟨b2,0,none⟩) c3 12 1) (s.length-12) (c3-12) om om (by have hq9:c3<=maxLen:=(by assumption);simp only[maxLen]at hq9;omega) ?_ ?_ (λk g w2 hk h2=>?_)).mono λe w2 hx=>?_
  ·show HS w [] (_::_) w1;rw[Qd4,Qeb];exact((hw1.own_nil 119 4).own_nil 119 4).ent aEt
  ·exactλk g w2 h2=>⟨h2.rd_blk (i:=0) aPk rfl (by simp),h2.rd_blk (i:=0) aPk rfl (by simp)⟩
  rotate_left
  ·obtain⟨hx1,x,hx2⟩:=hx
   refine⟨hx1,x,?_⟩
   rw[<-Qbj,<-Qbb]
   exact hx2
  subst hob
  have hel:=Qbl s k
  have hal:=Qbs s k
  rw[Qax (b:=b2) (o:=0+12) (k:=8*k) (cap:=8*k+8) (Qax rfl om) om,show 0+12+8*k=0+(12+8*k)from om]
  refine QhN (fn:=Tryz.f55) (As1:=.obj D (.deferred (some []))::[.blk b23 28 6 [.int .i64 (QQ s).ow,.int .i64 (QQ s).gr,.bool (QQ s).pr,.bool (QQ s).he,.slice g.1.1 (enK s k).length g.1.2,.slice g.2.1 (auK s k).length g.2.2],.own (.slice g.1.1 (enK s k).length g.1.2) 119 4 (enK s k).length ((enK s k).flatMap Ace.vals),.own (.slice g.2.1 (auK s k).length g.2.2) 119 4 (auK s k).length ((auK s k).flatMap Ace.vals),.blk b7 3 1 [.int .i64 (at1 s 2)],.blk b2 5 c3 (s.map bv),.blk b1 28 6 [.int .i64 0,.int .i64 0,.bool false,.bool false,.slice none 0 0,.slice none 0 0],.blk gc.1 124 1 [.slice (YC (some ⟨b2,0,none⟩) c3 12 1) (s.length-12) (c3-12)],.blk gc.2 3 1 [.int .i64 8]]) (L1:=[(9,.slice (some ⟨b2,0+(12+8*k),none⟩) 8 8),(8,.pointer (some ⟨b23,0,none⟩)),(5,.pointer (some ⟨b7,0,none⟩))]) h2 rfl (FR.round1 ha9 80 _ rfl) ?_ ?_
  ·skip
   refine aU3 ?_
   exact QcQ () aSx (λw h=>h.ent aEt)
  skip
  refine aU9 ?_
  refine sCd rfl (λh24=>?_) λh24=>?_
  ·have hke:k<(at1 s 2).toNat:=by have hq:=h24;omega
   have hen:=QdC hke
   have hau:=Qey hke
   refine Qq [5,7] mixed ?_
   refine dFa 0 ?_
   refine dLd 1 [[],[]] ?_
   refine dP 2 ?_
   refine dQ 3 [[],[]] rfl (Qe rfl QfZ rfl (λw1 h1=>by have h9:=Ql0 w1 (some ⟨b2,0+(12+8*k),none⟩) 8 8 ((s.drop (12+8*k)).take 8) (by rw[List.map_take,List.map_drop];exact Qc9 (h1.vl_blk aPk) rfl (by rw[List.length_map];omega)) (by rw[List.length_take,List.length_drop];omega) om om om;rw[Qcn]at h9;exact h9)) (dH 4 rfl (Qc (cs:=[_,_,_,_]) rfl rfl Xq Xa rfl rfl rfl) (λb25 _=>dBa ?_))
   refine dH 5 rfl (Qz [_,_,_,_] rfl rfl rfl Xq Tryz.underlying26 Xa rfl aPk (Q5 aPk) rfl (av1 _) om (by simp only[maxLen];omega)) (λb26 _=>dTu [7] ?_)
   refine dFa 6 ?_
   refine dSt 7 ?_ (hl:=(by simp only[Qj,List.length_set,List.length_cons,List.length_nil,List.length_map];omega))
   refine dTu [] ?_
   refine dNi ?_
   refine aU ?_
   exact ZL rfl aPk (λw h=>⟨(b26,g.2),rfl,trivial,by dsimp only;rw[hen,hau,List.length_append,Xd];exact h.ent aEt⟩)
  have hke:(at1 s 2).toNat<=k:=by have hq:=h24;omega
  have hen:=Qei hke
  have hau:=QeG hke
  refine Qq [5,7] mixed ?_
  refine dFa 0 ?_
  refine dLd 1 [[],[]] ?_
  refine dP 2 ?_
  refine dQ 3 [[],[]] rfl (Qe rfl QfZ rfl (λw1 h1=>by have h9:=Ql0 w1 (some ⟨b2,0+(12+8*k),none⟩) 8 8 ((s.drop (12+8*k)).take 8) (by rw[List.map_take,List.map_drop];exact Qc9 (h1.vl_blk aPk) rfl (by rw[List.length_map];omega)) (by rw[List.length_take,List.length_drop];omega) om om om;rw[Qcn]at h9;exact h9)) (dH 4 rfl (Qc (cs:=[_,_,_,_]) rfl rfl Xq Xa rfl rfl rfl) (λb27 _=>dBa ?_))
  refine dH 5 rfl (Qz [_,_,_,_] rfl rfl rfl Xq Tryz.underlying26 Xa rfl aPk (Q5 aPk) rfl (av1 _) om (by simp only[maxLen];omega)) (λb28 _=>dTu [7] ?_)
  refine dFa 6 ?_
  refine dSt 7 ?_ (hl:=(by simp only[Qj,List.length_set,List.length_cons,List.length_nil,List.length_map];omega))
  refine dTu [] ?_
  refine dNi ?_
  refine aU ?_
  exact ZL rfl aPk (λw h=>⟨(g.1,b28),rfl,trivial,by dsimp only;rw[hen,hau,List.length_append,Xd];exact h.ent aEt⟩)
 skip
 refine aU3 ?_
 refine Qi (L':=[(2,_),(3,_),(8,_)]) aSx (λ_ h=>h) ?_
 refine aU2 ?_
 refine oCq rfl (λw1 h1=>c82 w1 (QQ s) x.1.1 x.1.2 x.2.1 x.2.2 (h1.rw_own av4 aPk rfl) (h1.rw_own av4 aPk rfl) (by rw[<-Qbj,Qbl];omega) (by rw[<-Qbb,Qbs];omega)) (aU7 ?_)
 refine sCd rfl (λh29=>?_) λh29=>?_
 ·have hn9:¬(QF (QQ s)).2=0:=h29
  obtain⟨hE9,hD9⟩:=QfG hz9 hn9
  refine aU2 ?_
  refine o_p (Qs (cs:=[_,_,_,_,_,_]) rfl rfl XP QY rfl) rfl (aU4 ?_)
  exact Z1 (rs:=[.cell 2 28,.tmp 3]) rfl aPk (.cell rfl XT aPk rfl (.tmp rfl (.nil))) (λw' h'=>⟨((none,0),(none,0)),by rw[hE9,hD9];rfl,trivial,by rw[hD9];exact((h'.own_nil 119 4).own_nil 119 4).ent aEt⟩)
 have hn9:(QF (QQ s)).2=0:=h29
 obtain⟨hE9,hD9⟩:=Qd1 hz9 hn9
 refine aU7 ?_
 exact Z1 (rs:=[.cell 2 28,.tmp 3]) rfl aPk (.cell rfl XT aPk rfl (.tmp rfl (.nil))) (λw' h'=>⟨x,by rw[hE9,hD9];rfl,trivial,by rw[hD9];exact h'.ent aEt⟩)
instance:TFn Tryz.prog 14:=⟨by kernel_rfl⟩
set_option maxHeartbeats 4000000 in
theorem c22(w:World)(s:List UInt8)(hm:s.length<=1000000):CE 22 #[.string (bs s)] w [] (λg:(Option Addr×Nat)×(Option Addr×Nat)=>.tuple #[.agg #[.int .i64 (Xj s).ow,.int .i64 (Xj s).gr,.bool (Xj s).pr,.bool (Xj s).he,.slice g.1.1 (Xj s).en.length g.1.2,.slice g.2.1 (Xj s).au.length g.2.2],.int .i64 (QbT s)]) (λg=>True) λg=>[.own (.slice g.1.1 (Xj s).en.length g.1.2) 119 4 (Xj s).en.length ((Xj s).en.flatMap Ace.vals),.own (.slice g.2.1 (Xj s).au.length g.2.2) 119 4 (Xj s).au.length ((Xj s).au.flatMap Ace.vals)]:=by
 have hb0:=YW s 0
 have hb1:=YW s 1
 have hb2:=YW s 2
 have hb3:=YW s 3
 have hx4:=X9 s 4
 have hx8:=X9 s 8
 refine eN1 Tryz.func22 Tryz.ntmps22 ?_
 refine aU2 ?_
 refine oAl (λb1 _=>?_) QY
 refine aU4 ?_
 refine o_p (Qs (cs:=[_,_,_,_,_,_]) rfl rfl XP QY rfl) rfl (oAl (λb2 _=>?_) QY)
 refine aU6 ?_
 refine o_p (Qr rfl rfl Tryz.underlying9) rfl (aU2 ?_)
 refine sCd rfl (λh3=>?_) λh3=>?_
 ·have hl12:s.length<12:=by omega
  have hz9:YH s=10:=by unfold YH;rw[if_pos hl12]
  obtain⟨hE9,hD9⟩:=Qaf (s:=s) (by rw[hz9];decide)
  refine aU6 ?_
  exact Qg (rs:=[.cell 2 28,.tmp 3]) rfl (.cell rfl XT aPk rfl (.tmp rfl (.nil))) (λw' h'=>⟨((none,0),(none,0)),by rw[hE9,hD9,hz9];rfl,trivial,by rw[hD9];exact((h'.own_nil 119 4).own_nil 119 4).ent aEt⟩)
 have hl12:¬s.length<12:=om
 refine aU4 ?_
 refine oCq rfl (λw1 h1=>by have h9:=c60 w1 s 2 1 om om om;rw[QcK]at h9;exact h9) (aU ?_)
 refine oCq rfl (λw1 h1=>by have h9:=c60 w1 s 3 1 om om om;rw[QcK]at h9;exact h9) (aU9 ?_)
 refine oOr 3 24 27 rfl
  (λhg4 _=>by
   refine aU4 ?_
   exact oJf 3 27)
  (λhg6 _=>by
   refine aU2 ?_
   exact oJt 3 27) ?_
 refine aU ?_
 refine sCd rfl (λh8=>?_) λh8=>?_
 ·have h16:¬(at1 s 2<=16/\at1 s 3<=16):=by have hq:=h8;omega
  have hz9:YH s=8:=by unfold YH;rw[if_neg hl12,if_neg h16]
  obtain⟨hE9,hD9⟩:=Qaf (s:=s) (by rw[hz9];decide)
  refine aU6 ?_
  exact Qg (rs:=[.cell 2 28,.tmp 3]) rfl (.cell rfl XT aPk rfl (.tmp rfl (.nil))) (λw' h'=>⟨((none,0),(none,0)),by rw[hE9,hD9,hz9];rfl,trivial,by rw[hD9];exact((h'.own_nil 119 4).own_nil 119 4).ent aEt⟩)
 have h16:at1 s 2<=16/\at1 s 3<=16:=by have hq:=h8;omega
 refine aU5 ?_
 refine o_p (Qr rfl rfl Tryz.underlying9) rfl (aT3 ?_)
 refine aT ?_
 refine aT ?_
 refine aU2 ?_
 refine sCd rfl (λh9=>?_) λh9=>?_
 ·have hsl:¬(s.length:Int)=12+(at1 s 2+at1 s 3)*8:=by have hq:=h9;omega
  have hz9:YH s=10:=by unfold YH;rw[if_neg hl12,if_pos h16,if_neg hsl]
  obtain⟨hE9,hD9⟩:=Qaf (s:=s) (by rw[hz9];decide)
  refine aU6 ?_
  exact Qg (rs:=[.cell 2 28,.tmp 3]) rfl (.cell rfl XT aPk rfl (.tmp rfl (.nil))) (λw' h'=>⟨((none,0),(none,0)),by rw[hE9,hD9,hz9];rfl,trivial,by rw[hD9];exact((h'.own_nil 119 4).own_nil 119 4).ent aEt⟩)
 have hsl:(s.length:Int)=12+(at1 s 2+at1 s 3)*8:=by have hq:=h9;omega
 refine aU4 ?_
 refine oCq rfl (λw1 h1=>by have h9:=c60 w1 s 1 1 om om om;rw[QcK]at h9;exact h9) (aU6 ?_)
 refine oCq rfl (λw1 h1=>by have h9:=c60 w1 s 0 1 om om om;rw[QcK]at h9;exact h9) (aU2 ?_)
 refine oOr 3 43 46 rfl
  (λhg10 _=>by
   refine aU4 ?_
   exact oJf 3 46)
  (λhg12 _=>by
   refine aU2 ?_
   exact oJt 3 46) ?_
 refine aU ?_
 refine sCd rfl (λh14=>?_) λh14=>?_
 ·have hfm:¬(at1 s 0=1/\at1 s 1<=3):=by have hq:=h14;omega
  have hz9:YH s=3:=by unfold YH;rw[if_neg hl12,if_pos h16,if_pos hsl,if_neg hfm]
  obtain⟨hE9,hD9⟩:=Qaf (s:=s) (by rw[hz9];decide)
  refine aU ?_
  refine Qi (L':=[(0,_),(2,_),(3,_),(4,_),(5,_),(6,_),(7,_)]) aSx (λ_ h=>h) ?_
  refine aU5 ?_
  exact Qg (rs:=[.cell 2 28,.tmp 3]) rfl (.cell rfl XT aPk rfl (.tmp rfl (.nil))) (λw' h'=>⟨((none,0),(none,0)),by rw[hE9,hD9,hz9];rfl,trivial,by rw[hD9];exact((h'.own_nil 119 4).own_nil 119 4).ent aEt⟩)
 have hfm:at1 s 0=1/\at1 s 1<=3:=by have hq:=h14;omega
 have hz9:YH s=0:=by unfold YH;rw[if_neg hl12,if_pos h16,if_pos hsl,if_pos hfm]
 refine aU2 ?_
 refine Qi (L':=[(0,_),(2,_),(3,_),(4,_),(5,_),(6,_),(7,_)]) aSx (λ_ h=>h) ?_
 refine aU2 ?_
 refine oCq rfl (λw1 h1=>by have h9:=c60 w1 s 4 4 om om om;rw[XN]at h9;exact h9) (aU ?_)
 refine oCq rfl (λw1 h1=>by have h9:=c60 w1 s 8 4 om om om;rw[XN]at h9;exact h9) (aU ?_)
 refine o_p (Zm rfl rfl rfl om om) rfl (aU ?_)
 refine Qn (show _=Value.bool (QQ s).pr from rfl) (aU ?_)
 refine o_p (Y5 rfl rfl rfl om om om) rfl (aU ?_)
 refine Qn (show _=Value.bool (QQ s).he from by show Value.bool (decide (at1 s 1/2=1))=Value.bool (decide (at1 s 1/2%2=1));congr 1;exact decide_eq_decide.2 om) (o_p (Qs (cs:=[_,_,_,_,_,_]) rfl rfl XP QY rfl) rfl (oAl (λb15 _=>?_) QY))
 refine aU8 ?_
 refine Qi (L':=[(0,_),(2,_),(3,_),(4,_),(5,_),(6,_),(8,_),(9,_)]) aSx (λ_ h=>h) ?_
 refine Qp (α:=Nat×(Option Addr×Nat)×(Option Addr×Nat)) [9,10,11,59,60,61,62,63,64,65,66,67,68,69,70,71,72,73,74,75,76,77,78,79,80,81,82,83,84,85,86,87,88,89,90,91,92,93,94,95,96,97,98,99] (λy=>[(9,.int .i64 (y.1:Int))]) (λy=>HS w [] [.blk b15 28 6 [.int .i64 (QQ s).ow,.int .i64 (QQ s).gr,.bool (QQ s).pr,.bool (QQ s).he,.slice y.2.1.1 (enK s y.1).length y.2.1.2,.slice y.2.2.1 (auK s y.1).length y.2.2.2],.own (.slice y.2.1.1 (enK s y.1).length y.2.1.2) 119 4 (enK s y.1).length ((enK s y.1).flatMap Ace.vals),.own (.slice y.2.2.1 (auK s y.1).length y.2.2.2) 119 4 (auK s y.1).length ((auK s y.1).flatMap Ace.vals),.blk b2 28 6 [.int .i64 0,.int .i64 0,.bool false,.bool false,.slice none 0 0,.slice none 0 0],.blk b1 28 6 [.int .i64 0,.int .i64 0,.bool false,.bool false,.slice none 0 0,.slice none 0 0]]) (λy=>y.1<=((at1 s 2).toNat+(at1 s 3).toNat)) (λy=>((at1 s 2).toNat+(at1 s 3).toNat)-y.1) (0,(none,0),(none,0)) (Nat.zero_le _) aSx (λw h=>by dsimp only;rw[Qd4,Qeb];exact((h.own_nil 119 4).own_nil 119 4).ent aEt) (λ⟨k,ga,gb9⟩hk1=>?_)
 dsimp only
 simp only[]at hk1
 refine aT7 ?_
 refine aU2 ?_
 refine sCd rfl (λh16=>?_) λh16=>?_
 ·have hk:k<((at1 s 2).toNat+(at1 s 3).toNat):=by omega
  have hel:=Qbl s k
  have hal:=Qbs s k
  refine aT7 ?_
  refine aT ?_
  refine Qn (show _=Value.int .i64 ((12+8*k:Nat):Int)from by congr 1) (aU6 ?_)
  refine oCq rfl (λw1 h1=>by have h9:=c60 w1 s (12+8*k) 1 om om om;rw[QcK]at h9;exact h9) (aT3 ?_)
  refine Qn (show _=Value.int .i64 ((12+8*k+1:Nat):Int)from by congr 1) (oCq rfl (λw1 h1=>by have h9:=c60 w1 s (12+8*k+1) 1 om om om;rw[QcK]at h9;exact h9) (aT3 ?_))
  refine Qn (show _=Value.int .i64 ((12+8*k+2:Nat):Int)from by congr 1) (oCq rfl (λw1 h1=>by have h9:=c60 w1 s (12+8*k+2) 2 om om om;rw[Qok]at h9;exact h9) (aT3 ?_))
  refine Qn (show _=Value.int .i64 ((12+8*k+4:Nat):Int)from by congr 1) (oCq rfl (λw1 h1=>by have h9:=c60 w1 s (12+8*k+4) 4 om om om;rw[XN]at h9;exact h9) (o_p (Qs (cs:=[_,_,_,_]) rfl rfl QfN Xa rfl) rfl (oAl (λb17 _=>?_) Xa)))
  refine aU3 ?_
  refine Qi (L':=[(0,_),(2,_),(3,_),(4,_),(5,_),(6,_),(8,_),(9,_),(11,_)]) aSx (λ_ h=>h) ?_
  refine aU5 ?_
  refine sCd rfl (λh18=>?_) λh18=>?_
  ·have hke:k<(at1 s 2).toNat:=by have hq:=h18;omega
   have hen:=QdC hke
   have hau:=Qey hke
   refine aU4 ?_
   refine o_h (Qc (cs:=[_,_,_,_]) rfl rfl Xq Xa rfl rfl rfl) rfl (λb19 _=>o_h (Qz [_,_,_,_] rfl rfl rfl Xq Tryz.underlying26 Xa rfl aPk (Q5 aPk) rfl (av1 (Y7 s (12+8*k))) om (by simp only[maxLen];omega)) rfl (λb20 _=>aT7 ?_))
   refine aU2 ?_
   exact QH (k+1,b20,gb9) (by(try simp only[]);omega) (by(try simp only[]);omega) aSx (λw h=>by dsimp only;rw[hen,hau,List.length_append,Xd];exact h.ent aEt)
  have hke:(at1 s 2).toNat<=k:=by have hq:=h18;omega
  have hen:=Qei hke
  have hau:=QeG hke
  refine aU4 ?_
  refine o_h (Qc (cs:=[_,_,_,_]) rfl rfl Xq Xa rfl rfl rfl) rfl (λb21 _=>o_h (Qz [_,_,_,_] rfl rfl rfl Xq Tryz.underlying26 Xa rfl aPk (Q5 aPk) rfl (av1 (Y7 s (12+8*k))) om (by simp only[maxLen];omega)) rfl (λb22 _=>aT7 ?_))
  refine aU2 ?_
  exact QH (k+1,ga,b22) (by(try simp only[]);omega) (by(try simp only[]);omega) aSx (λw h=>by dsimp only;rw[hen,hau,List.length_append,Xd];exact h.ent aEt)
 obtain rfl:k=((at1 s 2).toNat+(at1 s 3).toNat):=om
 rw[Qbj,Qbb]
 refine Qk rfl ?_
 refine aU4 ?_
 refine oCq rfl (λw1 h1=>c14 w1 (QQ s) ga.1 ga.2 gb9.1 gb9.2 (h1.rw_own av4 aPk rfl) (h1.rw_own av4 aPk rfl) (by rw[<-Qbj,Qbl];omega) (by rw[<-Qbb,Qbs];omega)) (aU7 ?_)
 refine sCd rfl (λh23=>?_) λh23=>?_
 ·have hn9:¬(QF (QQ s)).2=0:=h23
  obtain⟨hE9,hD9⟩:=QfG hz9 hn9
  refine aU7 ?_
  exact Qg (rs:=[.cell 2 28,.tmp 3]) rfl (.cell rfl XT aPk rfl (.tmp rfl (.nil))) (λw' h'=>⟨((none,0),(none,0)),by rw[hE9,hD9];rfl,trivial,by rw[hD9];exact((h'.own_nil 119 4).own_nil 119 4).ent aEt⟩)
 have hn9:(QF (QQ s)).2=0:=h23
 obtain⟨hE9,hD9⟩:=Qd1 hz9 hn9
 refine aU7 ?_
 exact Qg (rs:=[.cell 2 28,.tmp 3]) rfl (.cell rfl XT aPk rfl (.tmp rfl (.nil))) (λw' h'=>⟨(ga,gb9),by rw[hE9,hD9];rfl,trivial,by rw[hD9];exact h'.ent aEt⟩)
instance:TFn Tryz.prog 227:=⟨by kernel_rfl⟩
instance:TFn Tryz.prog 210:=⟨by kernel_rfl⟩
instance:TFd Tryz.prog 72 1 1 9:=⟨by kernel_rfl⟩
instance:TFn Tryz.prog 116:=⟨by kernel_rfl⟩
instance:TFd Tryz.prog 63 1 1 61:=⟨by kernel_rfl⟩
theorem QjO:tsz Tryz.prog 61=some (1,false):=by kernel_rfl
instance:TSz Tryz.prog 61 1 false:=⟨QjO⟩
instance:TFn Tryz.prog 154:=⟨by kernel_rfl⟩
theorem Ql8{m:Int}(h:0<=m/\m<=1000000000000):Value.int .i64 (IntKind.i64.wrap ((-m).tdiv 16))=.int .i64 (-(m/16)):=by
  rw[QlW h.1];exact Qgy om om
theorem QlP(w:World)(m:Int)(hm:0<=m/\m<=1000000000000):CR 116 #[.int .i64 m] w (.int .i64 (upT m)):=by
 refine eN1 Tryz.func116 Tryz.ntmps116 ?_
 refine aT8 ?_
 refine aT ?_
 refine o_p (Y5 rfl rfl rfl om om om) rfl (aT ?_)
 refine aU2 ?_
 exact rV (h:=by unfold upT;rw[show m+16-1=m+15 by omega];rfl)
theorem c227(w:World)(m:Int)(hm:0<=m/\m<=1000000000000):CR 227 #[.int .i64 (-m),.int .i64 16] w (.int .i64 (-((m+15)/16))):=by
 refine eN2 Tryz.func227 Tryz.ntmps227 ?_
 refine aU8 ?_
 refine o_p (QmU rfl rfl rfl (by decide)) rfl (Qn (Ql8 hm) (aU7 ?_))
 refine o_p (QmB rfl rfl rfl (by decide)) rfl (Qn (show _=Value.int .i64 (-(m%16))from by rw[Ql1 hm.1]) (aU2 ?_))
 refine sCd rfl (λh1=>?_) λh1=>?_
 ·refine aT3 ?_
  refine aU7 ?_
  exact rV (h:=by simp only[Qw];congr 2;omega)
 refine aU6 ?_
 exact rV (h:=by simp only[Qw];congr 2;omega)
theorem c210(w:World)(m:Int)(hm:0<=m/\m<=1000000000000):CR 210 #[.int .i64 m,.int .i64 16] w (.int .i64 ((m+15)/16)):=by
 refine eN2 Tryz.func210 Tryz.ntmps210 ?_
 refine aT8 ?_
 refine Qn (show _=Value.int .i64 (-m)from by rw[Int.zero_sub]) (aU ?_)
 refine oCq rfl (λw1 h1=>c227 w1 m hm) (aT ?_)
 refine Qn (show _=Value.int .i64 ((m+15)/16)from by congr 1;omega) (aU2 ?_)
 exact rV
theorem Qni(w:World)(m:Int)(hm:0<=m/\m<=1000000000000):CR 154 #[.int .i64 m] w (.int .i64 (upT m)):=by
 refine eN1 Tryz.func154 Tryz.ntmps154 ?_
 refine aU7 ?_
 refine oCq rfl (λw1 h1=>c210 w1 m hm) (aT ?_)
 refine aU2 ?_
 exact rV
theorem c70(w:World)(a:Option Addr)(cap:Nat)(l:List SItm)(hs:Rw SItm.vals 2 w [] a l)(hm:l.length<=100000)(hb:∀x∈l,x.by_.length<=100000):CE 70 #[.slice a l.length cap] w [] (λg:Option Addr×Nat=>.tuple #[.slice g.1 l.length g.2,.int .i64 (plsI l).2]) (λg=>True) λg=>[.own (.slice g.1 l.length g.2) 3 1 l.length ((plsI l).1.map nv)]:=by
 refine eN1 Tryz.func70 Tryz.ntmps70 ?_
 refine aU21 ?_
 refine Qp (α:=Nat×Option Addr×Nat) [4,5,7,10,11,12,13,14,15,16,17,18,19,20,21,22,23,24,25] (λy=>[(10,.int .i64 (y.1:Int)),(4,.int .i64 (plsI (l.take y.1)).2),(5,.slice y.2.1 (plsI (l.take y.1)).1.length y.2.2)]) (λy=>HS w [] [.own (.slice y.2.1 (plsI (l.take y.1)).1.length y.2.2) 3 1 (plsI (l.take y.1)).1.length ((plsI (l.take y.1)).1.map nv)]) (λy=>y.1<=l.length) (λy=>l.length-y.1) (0,none,0) (Nat.zero_le _) aSx (λw h=>(h.own_nil 3 1).ent aEt) (λ⟨k,ga,gc⟩hk1=>?_)
 dsimp only
 simp only[]at hk1
 refine aU5 ?_
 refine sCd rfl (λh1=>?_) λh1=>?_
 ·have hk:k<l.length:=by omega
  have hst:=ZP hk
  have hpl:=Qde k l om
  have hpb:=QfP hb k om
  have hb9:(nth l k).by_.length<=100000:=hb _ (Yb hk)
  have hpu:0<=upT (16+((nth l k).by_.length:Int))/\upT (16+((nth l k).by_.length:Int))<=100032:=by unfold upT;omega
  refine aU5 ?_
  refine o_p (Qa rfl rfl rfl Yd (k) om om (Rw.some hs om)) rfl (o_q (Qt _ rfl rfl YZ rfl (Rw.rd hs om)) rfl (oAl (λb2 _=>?_) XJ))
  refine aU6 ?_
  refine o_h (Qc (cs:=[_]) rfl rfl QU YX rfl rfl rfl) rfl (λb3 _=>o_h (Qz _ rfl rfl rfl QU Tryz.underlying65 YX rfl aPk (Q5 aPk) rfl (by intro u hu;simp only[List.mem_cons,List.mem_nil_iff,or_false]at hu;subst hu;rfl) om (by simp only[maxLen];omega)) rfl (λb4 _=>aU6 ?_))
  refine o_p (Qr rfl rfl Tryz.underlying9) rfl (aT ?_)
  refine oCq rfl (λw1 h1=>QlP w1 _ om) (aT ?_)
  refine aT5 ?_
  refine aU2 ?_
  exact QH (k+1,b4.1,b4.2) (by(try simp only[]);omega) (by(try simp only[]);omega) (by dsimp only;rw[hst,List.length_append];exact aSx) (λw h=>by dsimp only;rw[hst,List.length_append,List.map_append];exact h.ent aEt)
 obtain rfl:k=l.length:=om
 rw[List.take_length]
 refine Qk rfl ?_
 refine aU7 ?_
 exact Qg (rs:=[.tmp 2,.tmp 3]) rfl (.tmp rfl (.tmp rfl (.nil))) (λw' h'=>⟨(ga,gc),by rw[QaL];rfl,trivial,by have h2:=h';rw[QaL]at h2;exact h2.ent aEt⟩)
instance:TFd Tryz.prog 72 0 0 3:=⟨by kernel_rfl⟩
instance:TFd Tryz.prog 63 0 0 3:=⟨by kernel_rfl⟩
theorem Qfa:QC Tryz.prog 52=true:=by kernel_rfl
instance:TFn Tryz.prog 52:=⟨Qfa⟩
theorem Zt:QC Tryz.prog 42=true:=by kernel_rfl
instance:TFn Tryz.prog 42:=⟨Zt⟩
theorem QaK:QC Tryz.prog 38=true:=by kernel_rfl
instance:TFn Tryz.prog 38:=⟨QaK⟩
instance:TFn Tryz.prog 55:=⟨by kernel_rfl⟩
theorem Qek:tsz Tryz.prog 225=some (1,false):=by kernel_rfl
instance:TSz Tryz.prog 225 1 false:=⟨Qek⟩
theorem QnD:QC Tryz.prog 159=true:=by kernel_rfl
theorem Qnc:Q8 Tryz.prog 225=some [.map none]:=by kernel_rfl
theorem Qn8:QC Tryz.prog 158=true:=by kernel_rfl
instance:TFn Tryz.prog 70:=⟨by kernel_rfl⟩
theorem Qc0:tsz Tryz.prog 63=some (2,true):=by kernel_rfl
instance:TSz Tryz.prog 63 2 true:=⟨Qc0⟩
instance:TFn Tryz.prog 118:=⟨by kernel_rfl⟩
theorem c159(w:World)(r bS bM i:Nat)(ks:List (List UInt8))(nx:Int)(a:Option Addr)(cap:Nat)(l:List SItm)(hw:HS w [r] [.mp r KS (ks)] w)(hA1:Rd w [r] bS 0 (.int .i64 nx))(hA2:Rd w [r] bS 1 (.slice a l.length cap))(hA5:Rd w [r] bM 0 (.map (some r)))(hs:Rw SItm.vals 2 w [r] a l)(hm:l.length<=100000)(hb:∀x∈l,x.by_.length<=100000)(hnx:0<=nx/\nx<=2147483647)(hi:i<l.length)(hks:∀y,y∈ks ↔ y∈(l.take i).map SItm.by_):CE 159 #[.int .i64 (i:Int),.agg #[.int .i64 (nth l i).id,.string (bs (nth l i).by_)],.pointer (some ⟨bS,0,none⟩),.pointer (some ⟨bM,0,none⟩)] w [r] (λg:List (List UInt8)=>.int .i64 (QdM nx l i)) (λg=>(∀y,y∈g ↔ y∈(l.take (i+1)).map SItm.by_)) λg=>[.mp r KS (g)]:=by
 have hbi:(nth l i).by_.length<=100000:=hb _ (Yb hi)
 refine eW4 Tryz.func159 Tryz.ntmps159 hw ?_
 refine aU2 ?_
 refine oBx λb1 _=>?_
 refine aU3 ?_
 refine Qq [] mixed ?_
 refine dFa 0 ?_
 refine dLd 1 [] ?_
 refine dFa 2 ?_
 refine dQ 3 [] rfl (Qb rfl rfl Q3 (hA1)) (dP 4 ?_)
 try refine dWr ?_
 refine dQ 5 [] rfl (Qe rfl Qfa rfl (λw1 h1=>c52 w1 _ _ _)) (dQ 6 [] rfl (Qe rfl Zt rfl (λw1 h1=>c42 w1 _ _)) (dP 7 ?_))
 refine dP 8 ?_
 refine dP 9 ?_
 apply Xg 17
 ·exact rfl
 ·intro hg2
  have hs3:=hg2;try simp only[dT]at hs3
  refine dOf 10 17 hg2 ?_
  refine dOf 11 17 hg2 ?_
  refine dOf 12 17 hg2 ?_
  refine dOf 13 17 hg2 ?_
  refine dOf 14 17 hg2 ?_
  refine dOf 15 17 hg2 ?_
  refine dOf 16 17 hg2 ?_
  refine dOf 17 17 hg2 ?_
  refine dOf 18 17 hg2 ?_
  refine dOf 19 17 hg2 ?_
  refine dOf 20 17 hg2 ?_
  refine dV 21 rfl (QZ rfl rfl hg2 rfl) (dQ 22 [] rfl (Qe rfl Zt rfl (λw1 h1=>c42 w1 _ _)) (dH 23 rfl (Qc (cs:=[_,_]) rfl rfl Q6 Xx rfl rfl rfl) (λb4 _=>dBa ?_)))
  refine dQ 24 [] rfl (Qe rfl QaK rfl (λw1 h1=>f38 h1 aPk (by rfl) (by rfl) (by decide))) (dP 25 ?_)
  refine dNi ?_
  refine aU2 ?_
  refine Qi (L':=[(3,_),(5,_),(6,_),(7,_)]) aSx (λ_ h=>h) ?_
  refine aU4 ?_
  refine Q7 (α:=Unit) [7,35,36,37,38,39,40] (λ_=>[(7,.int .i64 (e1E nx l i))]) (λ_=>HS w [r] [.mp r KS (ks),.blk b1 72 2 [.int .i64 (nth l i).id,.string (bs (nth l i).by_)]]) (λ_=>True) ?_ ?_
  ·skip
   refine sCd rfl (λh5=>?_) λh5=>?_
   ·have he9:=Qco (nx:=nx) (l:=l) (i:=i) (b:=decide (i=0\/(nth l (i-1)).id<(nth l i).id)) rfl
    have hi9:((i:Int)=0) ↔ i=0:=om
    have hg9:=hg2
    (have hi0:i=0:=by(simp at hg9;exact hg9))
    have hb99:decide (i=0\/(nth l (i-1)).id<(nth l i).id)=(if i=0 then true else decide ((nth l (i-1)).id<(nth l i).id)):=by split<;>simp_all
    rw[hb99]at he9
    rw[if_pos hi0]at he9
    have hz9:e0E nx l i=0:=by rw[<-he9];exact h5
    refine aU3 ?_
    refine oCh rfl (λw1 h1=>c55 w1 (nth l i).by_ om) (λgd _=>aU5 ?_)
    exact Qf () trivial (by(try dsimp only);unfold e1E;rw[if_pos hz9];exact aSx) (λw h=>h.ent aEt)
   have he9:=Qco (nx:=nx) (l:=l) (i:=i) (b:=decide (i=0\/(nth l (i-1)).id<(nth l i).id)) rfl
   have hi9:((i:Int)=0) ↔ i=0:=om
   have hg9:=hg2
   (have hi0:i=0:=by(simp at hg9;exact hg9))
   have hb99:decide (i=0\/(nth l (i-1)).id<(nth l i).id)=(if i=0 then true else decide ((nth l (i-1)).id<(nth l i).id)):=by split<;>simp_all
   rw[hb99]at he9
   rw[if_pos hi0]at he9
   have hz9:¬e0E nx l i=0:=by rw[<-he9];exact h5
   refine aU ?_
   exact Qf () trivial (by(try dsimp only);unfold e1E;rw[if_neg hz9,<-he9];exact aSx) (λw h=>h.ent aEt)
  intro _ _
  refine aU3 ?_
  refine o_q (Qb rfl rfl Qek (hA5)) rfl (aU2 ?_)
  refine o_q (QeJ (K:=KS) rfl rfl rfl Tryz.underlying225 Qn1 (Qc8 Tryz.underlying9) aPk) rfl (aU ?_)
  refine oCq rfl (λw1 h1=>c42 w1 _ _) (o_h (Qc (cs:=[_,_]) rfl rfl Q6 Xx rfl rfl rfl) rfl (λb6 _=>oCq rfl (λw1 h1=>f38 h1 aPk (by rfl) (by rfl) (by decide)) (aU4 ?_)))
  refine o_q (Qb rfl rfl Qek (hA5)) rfl (aU2 ?_)
  refine Qf0 (QaV (K:=KS) (.inl rfl) rfl rfl rfl Tryz.underlying225 (Qc8 Tryz.underlying9) aPt) (λ_ _=>aU6 ?_)
  exact rT rfl rfl (λw' h'=>⟨Qal ks (nth l i).by_,by rw[<-Qhu nx l i (hks _)];rfl,λy=>by rw[QgM,QiB hi,hks],h'.ent aEt⟩)
 intro hg7
 have hs8:=hg7;try simp only[dN]at hs8
 refine dFo 10 17 hg7 ?_
 refine dQo 11 17 [] hg7 rfl rfl rfl (Qb rfl rfl QjO (hA2)) ?_
 refine dPo 12 17 hg7 ?_
 refine dPo 13 17 hg7 ?_
 try refine dWr ?_
 refine dVo 14 17 hg7 rfl rfl rfl (QcD rfl rfl rfl ) ?_
 refine Qy (show _=Value.int .i64 ((i-1:Nat):Int)from by congr 1;split<;>omega) (dVo 15 17 hg7 rfl rfl rfl (Qa rfl rfl rfl Yd (i-1) om om (Rw.some hs om)) ?_)
 refine dFo 16 17 hg7 ?_
 refine dQo 17 17 [] hg7 rfl rfl rfl (Qb rfl rfl Q3 ((hs.rdj (i:=i-1) 0 om rfl))) ?_
 refine dFo 18 17 hg7 ?_
 refine dQo 19 17 [] hg7 rfl rfl rfl (XY rfl rfl Q3 aPk rfl) ?_
 refine dPo 20 17 hg7 ?_
 refine dV 21 rfl (QN rfl rfl hg7 rfl) (dQ 22 [] rfl (Qe rfl Zt rfl (λw1 h1=>c42 w1 _ _)) (dH 23 rfl (Qc (cs:=[_,_]) rfl rfl Q6 Xx rfl rfl rfl) (λb9 _=>dBa ?_)))
 refine dQ 24 [] rfl (Qe rfl QaK rfl (λw1 h1=>f38 h1 aPk (by rfl) (by rfl) (by decide))) (dP 25 ?_)
 refine dNi ?_
 refine aU2 ?_
 refine Qi (L':=[(3,_),(5,_),(6,_),(7,_)]) aSx (λ_ h=>h) ?_
 refine aU4 ?_
 refine Q7 (α:=Unit) [7,35,36,37,38,39,40] (λ_=>[(7,.int .i64 (e1E nx l i))]) (λ_=>HS w [r] [.mp r KS (ks),.blk b1 72 2 [.int .i64 (nth l i).id,.string (bs (nth l i).by_)]]) (λ_=>True) ?_ ?_
 ·skip
  refine sCd rfl (λh10=>?_) λh10=>?_
  ·have he9:=Qco (nx:=nx) (l:=l) (i:=i) (b:=decide (i=0\/(nth l (i-1)).id<(nth l i).id)) rfl
   have hi9:((i:Int)=0) ↔ i=0:=om
   have hg9:=hg7
   (have hi0:¬i=0:=by(simp at hg9;exact hg9))
   have hb99:decide (i=0\/(nth l (i-1)).id<(nth l i).id)=(if i=0 then true else decide ((nth l (i-1)).id<(nth l i).id)):=by split<;>simp_all
   rw[hb99]at he9
   rw[if_neg hi0]at he9
   have hz9:e0E nx l i=0:=by rw[<-he9];exact h10
   refine aU3 ?_
   refine oCh rfl (λw1 h1=>c55 w1 (nth l i).by_ om) (λgd _=>aU5 ?_)
   exact Qf () trivial (by(try dsimp only);unfold e1E;rw[if_pos hz9];exact aSx) (λw h=>h.ent aEt)
  have he9:=Qco (nx:=nx) (l:=l) (i:=i) (b:=decide (i=0\/(nth l (i-1)).id<(nth l i).id)) rfl
  have hi9:((i:Int)=0) ↔ i=0:=om
  have hg9:=hg7
  (have hi0:¬i=0:=by(simp at hg9;exact hg9))
  have hb99:decide (i=0\/(nth l (i-1)).id<(nth l i).id)=(if i=0 then true else decide ((nth l (i-1)).id<(nth l i).id)):=by split<;>simp_all
  rw[hb99]at he9
  rw[if_neg hi0]at he9
  have hz9:¬e0E nx l i=0:=by rw[<-he9];exact h10
  refine aU ?_
  exact Qf () trivial (by(try dsimp only);unfold e1E;rw[if_neg hz9,<-he9];exact aSx) (λw h=>h.ent aEt)
 intro _ _
 refine aU3 ?_
 refine o_q (Qb rfl rfl Qek (hA5)) rfl (aU2 ?_)
 refine o_q (QeJ (K:=KS) rfl rfl rfl Tryz.underlying225 Qn1 (Qc8 Tryz.underlying9) aPk) rfl (aU ?_)
 refine oCq rfl (λw1 h1=>c42 w1 _ _) (o_h (Qc (cs:=[_,_]) rfl rfl Q6 Xx rfl rfl rfl) rfl (λb11 _=>oCq rfl (λw1 h1=>f38 h1 aPk (by rfl) (by rfl) (by decide)) (aU4 ?_)))
 refine o_q (Qb rfl rfl Qek (hA5)) rfl (aU2 ?_)
 refine Qf0 (QaV (K:=KS) (.inl rfl) rfl rfl rfl Tryz.underlying225 (Qc8 Tryz.underlying9) aPt) (λ_ _=>aU6 ?_)
 exact rT rfl rfl (λw' h'=>⟨Qal ks (nth l i).by_,by rw[<-Qhu nx l i (hks _)];rfl,λy=>by rw[QgM,QiB hi,hks],h'.ent aEt⟩)
theorem d158(w:World)(r bS bM:Nat)(nx:Int)(a:Option Addr)(cap:Nat)(l:List SItm)(hw:HS w [r] [.mp r KS ([])] w)(hA1:Rd w [r] bS 0 (.int .i64 nx))(hA2:Rd w [r] bS 1 (.slice a l.length cap))(hA5:Rd w [r] bM 0 (.map (some r)))(hs:Rw SItm.vals 2 w [r] a l)(hm:l.length<=100000)(hb:∀x∈l,x.by_.length<=100000)(hnx:0<=nx/\nx<=2147483647):CE 158 #[.slice a l.length cap,.func (.func 159) #[] #[.pointer (some ⟨bS,0,none⟩),.pointer (some ⟨bM,0,none⟩)]] w [r] (λg:List (List UInt8)=>.tuple #[.int .i64 (QM (Zk nx l) 0).1,.int .i64 (QM (Zk nx l) 0).2]) (λg=>True) λg=>[.mp r KS (g)]:=by
 refine eW2 Tryz.func158 Tryz.ntmps158 hw ?_
 refine Qb9 ?_
 refine Qp (α:=Nat×List (List UInt8)) [4,5,6,7,8,11,12,13,14,15,16,17,18,19,20,21,22,23,24] (λx=>[(11,.int .i64 (x.1:Int))]) (λx=>HS w [r] [.mp r KS (x.2)]) (λx=>x.1<=l.length/\(∀y,y∈x.2 ↔ y∈(l.take x.1).map SItm.by_)/\∀j,j<x.1->(Zk nx l).getD j 0=0) (λx=>l.length-x.1) (0,[]) ⟨Nat.zero_le _,by simp,λj h=>absurd h (Nat.not_lt_zero j)⟩ aSx (λw h=>h) (λ⟨k,ks⟩hx=>?_)
 dsimp only
 obtain⟨hk1,hks,hk3⟩:=hx
 simp only[]at hk1 hks hk3
 refine aU5 ?_
 refine sCd rfl (λh1=>?_) λh1=>?_
 ·have hk:k<l.length:=by omega
  have hkl:k<(Zk nx l).length:=by rw[Qen];exact hk
  refine aU6 ?_
  refine o_p (Qa rfl rfl rfl Yd (k) om om (Rw.some hs om)) rfl (o_q (Qt _ rfl rfl YZ rfl (Rw.rd hs om)) rfl (oAl (λb2 _=>?_) XJ))
  refine aU8 ?_
  refine o_h (QeF (Cs:=[.mp r KS (ks)]) rfl rfl QnD rfl aPs (λw1 hh hf=>c159 w1 r bS bM k ks nx a cap l hf (hA1.later hh hA1.2.1) (hA2.later hh hA2.2.1) (hA5.later hh hA5.2.1) (hs.keep (hh.ent (Bs:=[.mp r KS (ks)]) aEt)) hm hb hnx hk hks)) rfl (λgz hgz=>aU7 ?_)
  refine sCd rfl (λh3=>?_) λh3=>?_
  ·have hz9:¬QdM nx l k=0:=h3
   refine aU7 ?_
   exact Qg (rs:=[.tmp 4,.tmp 5]) rfl (.tmp rfl (.tmp rfl (.nil))) (λw' h'=>⟨_,by rw[eachF_at hkl hk3 (by rw[Qcd hk];exact hz9),Qcd hk];rfl,trivial,h'.ent aEt⟩)
  have hz9:QdM nx l k=0:=h3
  refine aT4 ?_
  refine aU2 ?_
  exact sBk (k+1,gz) (by(try simp only[]);omega) ⟨by(try simp only[]);omega,hgz,λj hj=>(Nat.lt_or_ge j k).elim (hk3 j) (λh=>by obtain rfl:j=k:=(by(try simp only[]at hj);omega);rw[Qcd hk];exact hz9)⟩
 obtain rfl:k=l.length:=om
 refine Qk rfl ?_
 refine aU5 ?_
 exact Qg (rs:=[.tmp 4,.tmp 5]) rfl (.tmp rfl (.tmp rfl (.nil))) (λw' h'=>⟨_,by rw[eachF_all (by rw[Qen];exact hk3)];rfl,trivial,h'.ent aEt⟩)
theorem c118(w:World)(nx:Int)(a:Option Addr)(cap:Nat)(l:List SItm)(hs:Rw SItm.vals 2 w [] a l)(hm:l.length<=100000)(hb:∀x∈l,x.by_.length<=100000):CR 118 #[.agg #[.int .i64 nx,.slice a l.length cap]] w (.tuple #[.int .i64 (stoE nx l).1,.int .i64 (stoE nx l).2]):=by
 refine eN1 Tryz.func118 Tryz.ntmps118 ?_
 refine aU2 ?_
 refine oBx λb1 _=>?_
 refine aU5 ?_
 refine Qq [] mixed ?_
 refine dFa 0 ?_
 refine dLd 1 [] ?_
 refine dQ 2 [] rfl (Qe rfl Qfa rfl (λw1 h1=>c52 w1 _ _ _)) (dQ 3 [] rfl (Qe rfl Zt rfl (λw1 h1=>c42 w1 _ _)) (dFa 4 ?_))
 refine dLd 5 [] ?_
 refine dV 6 rfl (Qx rfl rfl Tryz.underlying61) (dP 7 ?_)
 refine dQ 8 [] rfl (Qe rfl Zt rfl (λw1 h1=>c42 w1 _ _)) (dH 9 rfl (Qc (cs:=[_,_]) rfl rfl Q6 Xx rfl rfl rfl) (λb2 _=>dBa ?_))
 refine dQ 10 [] rfl (Qe rfl QaK rfl (λw1 h1=>f38 h1 aPk (by rfl) (by rfl) (by decide))) (dP 11 ?_)
 refine dNi ?_
 refine aU5 ?_
 refine sCd rfl (λh3=>?_) λh3=>?_
 ·have h0:¬Qcg nx l=0:=by rw[<-QbH];exact h3
  have hse:stoE nx l=(0,Qcg nx l):=by rw[Qfq,if_neg h0]
  refine aU6 ?_
  exact Qg (rs:=[.tmp 2,.tmp 3]) rfl (.tmp rfl (.tmp rfl (.nil))) (λw' h'=>⟨by rw[hse,<-QbH];rfl,h'.below⟩)
 have h0:Qcg nx l=0:=by rw[<-QbH];exact h3
 have hnx:0<=nx/\nx<=2147483647:=by unfold Qcg at h0;split at h0;omega;omega
 refine aU3 ?_
 refine o_h (QcH rfl KS) rfl (λb4 _=>oAl (λb5 _=>?_) Qnc)
 refine aU8 ?_
 refine o_h (Q1 (Cs:=[.mp b4 KS ([])]) rfl Qn8 rfl aPs (λw1 h1 hf=>d158 w1 b4 b1 b5 nx a cap l hf ((h1.ent (Bs:=[.blk b1 63 2 [.int .i64 nx,.slice a l.length cap],.mp b4 KS ([])]) aEt).rd_beside rfl) ((h1.ent (Bs:=[.blk b1 63 2 [.int .i64 nx,.slice a l.length cap],.mp b4 KS ([])]) aEt).rd_beside rfl) ((h1.ent (Bs:=[.blk b5 225 1 [.map (some b4)],.mp b4 KS ([])]) aEt).rd_beside rfl) (hs.keep (h1.ent (Bs:=[.mp b4 KS ([])]) aEt)) hm hb hnx)) rfl (λgz _=>Y0 ?_)
 refine sCd rfl (λh6=>?_) λh6=>?_
 ·have h9:¬(QM (Zk nx l) 0).2=0:=h6
  have hse:stoE nx l=QM (Zk nx l) 0:=by rw[Qfq,if_pos h0,if_neg h9]
  refine aU ?_
  refine Qi (L':=[(1,_),(2,_),(3,_),(6,_),(7,_)]) aSx (λ_ h=>h) ?_
  refine aU6 ?_
  exact Qg (rs:=[.tmp 2,.tmp 3]) rfl (.tmp rfl (.tmp rfl (.nil))) (λw' h'=>⟨by rw[hse];rfl,h'.below⟩)
 have h9:(QM (Zk nx l) 0).2=0:=h6
 have hse:stoE nx l=(0,cond (decide ((plsI l).2<=8192)) 0 16):=by rw[Qfq,if_pos h0,if_pos h9];by_cases hq:(plsI l).2<=8192<;>simp[hq]
 refine aU2 ?_
 refine Qi (L':=[(1,_),(2,_),(3,_)]) aSx (λ_ h=>h) ?_
 refine aU3 ?_
 refine oCh rfl (λw1 h1=>c70 w1 a cap l (hs.later h1) hm hb) (λgp _=>YO ?_)
 refine oCq rfl (λw1 h1=>c42 w1 _ _) (aU3 ?_)
 exact Qg (rs:=[.tmp 2,.tmp 3]) rfl (.tmp rfl (.tmp rfl (.nil))) (λw' h'=>⟨by rw[hse];rfl,h'.below⟩)
theorem c72(w:World)(nx:Int)(a:Option Addr)(cap:Nat)(l:List SItm)(hs:Rw SItm.vals 2 w [] a l)(hm:l.length<=100000)(hb:∀x∈l,x.by_.length<=100000):CR 72 #[.agg #[.int .i64 nx,.slice a l.length cap]] w (.int .i64 (stoE nx l).2):=by
 refine eN1 Tryz.func72 Tryz.ntmps72 ?_
 refine aU2 ?_
 refine oBx λb1 _=>?_
 refine aU5 ?_
 refine oCq rfl (λw1 h1=>c118 w1 nx a cap l (hs.later h1) hm hb) (Y0 ?_)
 exact rV
instance:TFn Tryz.prog 22:=⟨by kernel_rfl⟩
theorem QnE:QC Tryz.prog 115=true:=by kernel_rfl
instance:TFn Tryz.prog 114:=⟨by kernel_rfl⟩
instance:TFn Tryz.prog 72:=⟨by kernel_rfl⟩
instance:TFn Tryz.prog 41:=⟨by kernel_rfl⟩
theorem YY:Q8 Tryz.prog 63=some [.int .i64 0,.slice none 0 0]:=by kernel_rfl
instance:TFn Tryz.prog 67:=⟨by kernel_rfl⟩
theorem Qdw:Yh Tryz.prog 63=some [(0,1),(1,1)]:=by kernel_rfl
instance:TFn Tryz.prog 68:=⟨by kernel_rfl⟩
instance:TFn Tryz.prog 69:=⟨by kernel_rfl⟩
theorem QcY:Yh Tryz.prog 72=some [(0,1),(1,1)]:=by kernel_rfl
theorem c68(w:World)(a:Option Addr)(cap:Nat)(l:List SItm)(hs:Rw SItm.vals 2 w [] a l)(hm:l.length<=1000000):CE 68 #[.slice a l.length cap] w [] (λg:Option Addr×Nat=>.slice g.1 l.length g.2) (λg=>True) λg=>[.own (.slice g.1 l.length g.2) 72 2 l.length (l.flatMap SItm.vals)]:=by
 refine eN1 Tryz.func68 Tryz.ntmps68 ?_
 refine aU8 ?_
 refine o_p (Yg rfl rfl rfl Tryz.underlying61) rfl (aU ?_)
 refine sCd rfl (λh1=>?_) λh1=>?_
 ·have ha0:a=none:=by cases a with|none=>rfl|some b=>simp at h1
  subst ha0
  have hl0:l=[]:=Rw.none hs
  refine aU4 ?_
  exact rT rfl rfl (λw' h'=>⟨(none,0),by rw[hl0];rfl,trivial,by rw[hl0];exact(h'.own_nil 72 2).ent aEt⟩)
 refine aU3 ?_
 refine o_h (Xz rfl Yd) rfl (λb2 _=>aU ?_)
 refine o_h (Qz (l.flatMap SItm.vals) rfl rfl rfl Yd Tryz.underlying61 XJ rfl aPk (λw h=>Rw.src sv2 hs h) (QR sv2 l) (Ye sv1 l) om (by simp only[maxLen];omega)) rfl (λb3 _=>aU2 ?_)
 exact rT rfl rfl (λw' h'=>⟨b3,by simp only[Qw,Nat.zero_add],trivial,by have h2:=h';simp only[Nat.zero_add,List.nil_append]at h2;exact h2.ent aEt⟩)
theorem c114(w:World)(a:Option Addr)(cap:Nat)(l:List SItm)(q:Nat)(cv:Array Value)(bt:List Bool)(hs:Rw SItm.vals 2 w [] a l)(hm:l.length<=1000000)(hq:QC Tryz.prog q=true)(hb:bt.length=l.length)(hc:∀k w1,k<l.length->HS w [] [] w1->Calls Tryz.prog q (#[]++[.agg (SItm.vals (nth l k)).toArray].toArray++cv) w1 λen w2=>en=.returned (.bool (bt.getD k false))/\Below w1.heap.size w1 w2):CR 114 #[.slice a l.length cap,.func (.func q) #[] cv] w (.int .i64 (ixI bt)):=by
 refine eN2 Tryz.func114 Tryz.ntmps114 ?_
 refine Zr ?_
 refine Qp (α:=Nat) [4,5,8,9,10,11,12,13,14,15,16,17,18] (λk=>[(8,.int .i64 (k:Int))]) (λ_=>_) (λk=>k<=l.length/\∀i,i<k->bt.getD i false=false) (λk=>l.length-k) 0 ⟨om,λi h=>absurd h (Nat.not_lt_zero i)⟩ aSx (λw h=>h) (λk hk=>?_)
 obtain⟨hk1,hk2⟩:=hk
 refine aU5 ?_
 refine sCd rfl (λh1=>?_) λh1=>?_
 ·refine Qb9 ?_
  refine o_p (Qa rfl rfl rfl Yd (k) om om (Rw.some hs om)) rfl (o_q (Qt _ rfl rfl YZ rfl (Rw.rd hs om)) rfl (o_q (XM rfl rfl hq rfl (λw1 h1=>hc k w1 om (h1.ent aEt))) rfl (aU ?_)))
  refine sCd rfl (λh2=>?_) λh2=>?_
  ·refine aU5 ?_
   exact rV (h:=by have e:=Qdq (l:=bt) (k:=k) om hk2 (λ_=>by assumption);simp only[Qw,ixI,e];rw[if_pos om])
  refine aT4 ?_
  refine aU2 ?_
  exact QH (k+1) om ⟨om,λi hi=>(Nat.lt_or_ge i k).elim (hk2 i) (λh=>by obtain rfl:i=k:=om;assumption)⟩ aSx (λw h=>h)
 refine Qk rfl ?_
 refine aU4 ?_
 exact rV (h:=by have e:=Qdq (l:=bt) (k:=k) om hk2 (λh=>om);simp only[Qw,ixI,e];rw[if_neg om])
theorem c115(w:World)(bS:Nat)(x:SItm)(s:List UInt8)(hr:Rd w [] bS 0 (.string (bs s))):CR 115 #[.agg #[.int .i64 x.id,.string (bs x.by_)],.pointer (some ⟨bS,0,none⟩)] w (.bool (decide (x.by_=s))):=by
 refine eN2 Tryz.func115 Tryz.ntmps115 ?_
 refine aU2 ?_
 refine oBx λb1 _=>?_
 refine aU6 ?_
 refine o_q (Qb rfl rfl X5 (hr)) rfl (aU3 ?_)
 exact rV
theorem c69(w:World)(a:Option Addr)(cap:Nat)(l:List SItm)(s:List UInt8)(hs:Rw SItm.vals 2 w [] a l)(hm:l.length<=1000000):CR 69 #[.slice a l.length cap,.string (bs s)] w (.int .i64 (ixI (byB l s))):=by
 refine eN2 Tryz.func69 Tryz.ntmps69 ?_
 refine aU2 ?_
 refine oBx λb1 _=>?_
 refine aU6 ?_
 refine oCq rfl (λw1 h1=>c114 w1 a cap l 115 _ (byB l s) (hs.later h1) hm QnE (Qcq l s) (λk w2 hk h2=>by have h9:=c115 w2 b1 (nth l k) s ((h1.rd_blk (i:=0) aPk rfl (by simp)).later h2 (by simp));rw[Qmn hk];exact h9)) (aU2 ?_)
 exact rV
theorem c67(w:World)(nx:Int)(a:Option Addr)(cap:Nat)(l:List SItm)(d:Dsc)(ea:Option Addr)(eac:Nat)(aa:Option Addr)(aac:Nat)(hs:Rw SItm.vals 2 w [] a l)(hm:l.length<=100000)(hb:∀x∈l,x.by_.length<=100000)(hse:Rw Ace.vals 4 w [] ea d.en)(hsa:Rw Ace.vals 4 w [] aa d.au)(hme:d.en.length<=100000)(hma:d.au.length<=100000):CR 67 #[.agg #[.int .i64 nx,.slice a l.length cap],.agg #[.int .i64 d.ow,.int .i64 d.gr,.bool d.pr,.bool d.he,.slice ea d.en.length eac,.slice aa d.au.length aac]] w (.tuple #[.string (bs (if QcL nx l d=0 then Xe d else[])),.int .i64 (QcL nx l d)]):=by
 refine eN2 Tryz.func67 Tryz.ntmps67 ?_
 refine aU2 ?_
 refine oBx λb1 _=>?_
 refine oBx λb2 _=>?_
 refine aU7 ?_
 refine oCq rfl (λw1 h1=>c72 w1 nx a cap l (hs.later h1) hm hb) (aU7 ?_)
 refine sCd rfl (λh3=>?_) λh3=>?_
 ·have h0:¬(stoE nx l).2=0:=h3
  have he9:QcL nx l d=(stoE nx l).2:=by unfold QcL;rw[if_neg h0]
  refine aU6 ?_
  exact Qg (rs:=[.tmp 4,.tmp 5]) rfl (.tmp rfl (.tmp rfl (.nil))) (λw' h'=>⟨by rw[he9,if_neg h0];rfl,h'.below⟩)
 have h0:(stoE nx l).2=0:=h3
 have he9:QcL nx l d=(QF d).2:=by unfold QcL;rw[if_pos h0]
 refine aU4 ?_
 refine oCq rfl (λw1 h1=>c41 w1 d ea eac aa aac (hse.later h1) (hsa.later h1) hme hma) (aU5 ?_)
 exact Qg (rs:=[.tmp 4,.tmp 5]) rfl (.tmp rfl (.tmp rfl (.nil))) (λw' h'=>⟨by rw[he9];rfl,h'.below⟩)
theorem c24(w:World)(nx:Int)(a:Option Addr)(cap:Nat)(l:List SItm)(d:Dsc)(ea:Option Addr)(eac:Nat)(aa:Option Addr)(aac:Nat)(hs:Rw SItm.vals 2 w [] a l)(hm:l.length<=100000)(hb:∀x∈l,x.by_.length<=100000)(hse:Rw Ace.vals 4 w [] ea d.en)(hsa:Rw Ace.vals 4 w [] aa d.au)(hme:d.en.length<=100000)(hma:d.au.length<=100000):CE 24 #[.agg #[.int .i64 nx,.slice a l.length cap],.agg #[.int .i64 d.ow,.int .i64 d.gr,.bool d.pr,.bool d.he,.slice ea d.en.length eac,.slice aa d.au.length aac]] w [] (λg:Option Addr×Nat=>.tuple #[.agg #[.int .i64 (QaS nx l d).nx,.slice g.1 (QaS nx l d).l.length g.2],.int .i64 (QaS nx l d).id,.int .i64 (QaS nx l d).e]) (λg=>True) λg=>[.own (.slice g.1 (QaS nx l d).l.length g.2) 72 2 (QaS nx l d).l.length ((QaS nx l d).l.flatMap SItm.vals)]:=by
 have hkl:=Qnt l (Xe d)
 refine eN2 Tryz.func24 Tryz.ntmps24 ?_
 refine aU2 ?_
 refine oBx λb1 _=>?_
 refine oBx λb2 _=>?_
 refine oAl (λb3 _=>?_) YY
 refine aU7 ?_
 refine oCq rfl (λw1 h1=>c67 w1 nx a cap l d ea eac aa aac (hs.later h1) hm hb (hse.later h1) (hsa.later h1) hme hma) (Zr ?_)
 refine sCd rfl (λh4=>?_) λh4=>?_
 ·have h0:¬QcL nx l d=0:=h4
  have hT:QaS nx l d=⟨0,[],0,QcL nx l d⟩:=by unfold QaS;rw[if_neg h0]
  refine aU2 ?_
  refine o_p (Qs (cs:=[_,_]) rfl rfl Qdw YY rfl) rfl (aU5 ?_)
  exact Qg (rs:=[.cell 4 63,.tmp 5,.tmp 6]) rfl (.cell rfl Qc0 aPk rfl (.tmp rfl (.tmp rfl (.nil)))) (λw' h'=>⟨(none,0),by rw[hT];rfl,trivial,by rw[hT];exact(h'.own_nil 72 2).ent aEt⟩)
 have h0:QcL nx l d=0:=h4
 obtain⟨hst0,hds0⟩:=Qny h0
 have hdl:=QaW d
 obtain⟨hnx,hl60,hit9,hpl9⟩:=Qfx hst0
 obtain⟨_,⟨hen16,hau16⟩,_,_⟩:=Qeu hds0
 rw[if_pos h0]
 refine aU5 ?_
 refine oCh rfl (λw1 h1=>c68 w1 a cap l (hs.later h1) om) (λb5 _=>aU7 ?_)
 refine oCq rfl (λw1 h1=>c69 w1 b5.1 b5.2 l (Xe d) (h1.rw_own sv2 aPk rfl) om) (aU7 ?_)
 refine sCd rfl (λh6=>?_) λh6=>?_
 ·have hk:(byK l (Xe d))<l.length:=by have hq:=h6;unfold ixI at hq;rw[Qcq]at hq;split at hq;assumption;omega
  have hix:ixI (byB l (Xe d))=(((byK l (Xe d)):Nat):Int):=by unfold ixI;rw[Qcq,if_pos (show ixB (byB l (Xe d))<l.length from hk)];rfl
  have hT:QaS nx l d=⟨nx,l,(nth l (byK l (Xe d))).id,0⟩:=by unfold QaS Qmk;rw[if_pos h0,if_pos hk]
  refine ZD (λw h=>Rw.some (h.rw_own sv2 aPk rfl) om) λhsm=>aU ?_
  refine Qfp [.own (.slice b5.1 l.length b5.2) 72 2 l.length (l.flatMap SItm.vals),.blk b1 63 2 [.int .i64 nx,.slice a l.length cap]] [] mixed ?_
  refine dFa 0 ?_
  refine dLd 1 [] ?_
  refine dP 2 ?_
  refine dV 3 rfl (Qs (cs:=[_,_]) rfl rfl Qdw YY rfl) (dP 4 ?_)
  refine dP 5 ?_
  refine dV 6 rfl (Qa rfl rfl rfl Yd ((byK l (Xe d))) om om hsm) (dFa 7 ?_)
  refine dQ 8 [] rfl (Qv rfl rfl Q3 (λw h=>(h.rw_own sv2 aPk rfl).rdj 0 hk rfl)) (dSt 9 ?_ (hl:=(by simp only[Qj,List.length_set,List.length_cons,List.length_nil,List.length_map];omega)))
  refine dP 10 ?_
  refine dP 11 ?_
  refine dNi ?_
  exact Qg (rs:=[.cell 4 63,.tmp 5,.tmp 6]) rfl (.cell rfl Qc0 aPk rfl (.tmp rfl (.tmp rfl (.nil)))) (λw' h'=>⟨b5,by rw[hT];rfl,trivial,by rw[hT];exact h'.ent aEt⟩)
 have hk:¬(byK l (Xe d))<l.length:=by have hq:=h6;unfold ixI at hq;rw[Qcq]at hq;split at hq;(exfalso;omega);assumption
 refine aU7 ?_
 refine o_p (Qs (cs:=[_,_]) rfl rfl QcY XJ rfl) rfl (o_h (Qc (cs:=[_,_]) rfl rfl Yd XJ rfl rfl rfl) rfl (λb7 _=>?_))
 refine o_h (Qz _ rfl rfl rfl Yd Tryz.underlying61 XJ rfl aPk (Q5 aPk) rfl (by intro u hu;simp only[List.mem_cons,List.mem_nil_iff,or_false]at hu;rcases hu with rfl|rfl<;>rfl) om (by simp only[maxLen];omega)) rfl (λb8 _=>Qn (show _=Value.slice b8.1 (l++[SItm.mk nx (Xe d)]).length b8.2 from by rw[List.length_append];rfl) (Yf (C':=HS w [] [.own (.slice b8.1 (l++[SItm.mk nx (Xe d)]).length b8.2) 72 2 (l++[SItm.mk nx (Xe d)]).length ((l++[SItm.mk nx (Xe d)]).flatMap SItm.vals),.blk b1 63 2 [.int .i64 nx,.slice a l.length cap],.blk b3 63 2 [.int .i64 0,.slice none 0 0]]) (λw h=>by rw[Xd,List.length_append];exact h.ent aEt) (aU4 ?_)))
 refine Qi (L':=[(2,_),(4,_),(5,_),(6,_),(9,_)]) aSx (λ_ h=>h) ?_
 refine aU2 ?_
 refine oCh rfl (λw1 h1=>c70 w1 b8.1 b8.2 (l++[SItm.mk nx (Xe d)]) (h1.rw_own sv2 aPk rfl) (by rw[List.length_append];simp only[List.length_cons,List.length_nil];omega) (by intro x hx;rcases List.mem_append.1 hx with hx|hx;exact hb x hx;rw[List.mem_singleton.1 hx];show(Xe d).length<=_;omega)) (λgp _=>Zr ?_)
 refine oOr 3 55 58 rfl
  (λhg9 _=>by
   refine aU4 ?_
   exact oJf 3 58)
  (λhg11 _=>by
   refine aU2 ?_
   exact oJt 3 58) ?_
 refine aU ?_
 refine oOr 4 59 63 rfl
  (λhg13 _=>by
   refine aU6 ?_
   exact oJf 4 63)
  (λhg15 _=>by
   refine aU3 ?_
   exact oJt 4 63) ?_
 refine aU ?_
 refine sCd rfl (λh17=>?_) λh17=>?_
 ·have hfl:(l++[SItm.mk nx (Xe d)]).length>60\/(plsI (l++[SItm.mk nx (Xe d)])).2>8192\/nx=2147483647:=by have hq:=h17;rw[List.length_append]at hq ⊢;simp only[List.length_cons,List.length_nil]at hq ⊢;omega
  have hT:QaS nx l d=⟨0,[],0,16⟩:=by unfold QaS Qmk;rw[if_pos h0,if_neg hk,if_pos hfl]
  refine aU2 ?_
  refine o_p (Qs (cs:=[_,_]) rfl rfl Qdw YY rfl) rfl (aU4 ?_)
  exact Qg (rs:=[.cell 4 63,.tmp 5,.tmp 6]) rfl (.cell rfl Qc0 aPk rfl (.tmp rfl (.tmp rfl (.nil)))) (λw' h'=>⟨(none,0),by rw[hT];rfl,trivial,by rw[hT];exact(h'.own_nil 72 2).ent aEt⟩)
 have hfl:¬((l++[SItm.mk nx (Xe d)]).length>60\/(plsI (l++[SItm.mk nx (Xe d)])).2>8192\/nx=2147483647):=by have hq:=h17;rw[List.length_append]at hq ⊢;simp only[List.length_cons,List.length_nil]at hq ⊢;omega
 have hT:QaS nx l d=⟨nx+1,(l++[SItm.mk nx (Xe d)]),nx,0⟩:=by unfold QaS Qmk;rw[if_pos h0,if_neg hk,if_neg hfl]
 refine aU2 ?_
 refine Qfp [.blk b1 63 2 [.int .i64 nx,.slice a l.length cap]] [] mixed ?_
 refine dFa 0 ?_
 refine dLd 1 [] ?_
 refine dP 2 ?_
 try refine dWr ?_
 refine dP 3 ?_
 refine dV 4 rfl (Qs (cs:=[_,_]) rfl rfl Qdw YY rfl) (dFa 5 ?_)
 refine dLd 6 [] ?_
 refine dSt 7 ?_ (hl:=(by simp only[Qj,List.length_set,List.length_cons,List.length_nil,List.length_map];omega))
 refine dP 8 ?_
 refine dP 9 ?_
 refine dNi ?_
 exact Qg (rs:=[.cell 4 63,.tmp 5,.tmp 6]) rfl (.cell rfl Qc0 aPk rfl (.tmp rfl (.tmp rfl (.nil)))) (λw' h'=>⟨b8,by rw[hT];rfl,trivial,by rw[hT];exact h'.ent aEt⟩)
theorem Qm8:QC Tryz.prog 120=true:=by kernel_rfl
instance:TFn Tryz.prog 119:=⟨by kernel_rfl⟩
instance:TFn Tryz.prog 75:=⟨by kernel_rfl⟩
theorem c119(w:World)(a:Option Addr)(cap:Nat)(l:List SItm)(q:Nat)(cv:Array Value)(cs:List Int)(n:Int)(hs:Rw SItm.vals 2 w [] a l)(hm:l.length<=1000000)(hq:QC Tryz.prog q=true)(hb:cs.length=l.length)(hc:∀k w1,k<l.length->HS w [] [] w1->Calls Tryz.prog q (#[]++[.agg (SItm.vals (nth l k)).toArray,.int .i64 n].toArray++cv) w1 λen w2=>en=.returned (.int .i64 (cs.getD k 0))/\Below w1.heap.size w1 w2):CR 119 #[.slice a l.length cap,.int .i64 n,.func (.func q) #[] cv] w (.tuple #[.int .i64 (bsL cs:Int),.bool (QeM cs)]):=by
 refine eN3 Tryz.func119 Tryz.ntmps119 ?_
 refine aU19 ?_
 refine Qp (α:=Nat×Nat×Nat) [9,10,11,15,16,17,18,19,20,21,22,23,24,25,26,27,28,29,30,31,32,33,34] (λx=>[(9,.int .i64 (x.2.1:Int)),(10,.int .i64 (x.2.2:Int))]) (λ_=>_) (λx=>x.2.1<=x.2.2/\x.2.2<=l.length/\x.2.2-x.2.1<=x.1/\bsC cs x.1 x.2.1 x.2.2=bsL cs) (λx=>x.1) (l.length,0,l.length) ⟨by simp,by simp,by simp,by rw[<-hb];rfl⟩ aSx (λw h=>h.ent aEt) (λ⟨m,lo,hi⟩hx=>?_)
 dsimp only
 obtain⟨hx1,hx2,hx3,hx4⟩:=hx
 simp only[]at hx1 hx2 hx3 hx4
 refine aU7 ?_
 refine sCd rfl (λh1=>?_) λh1=>?_
 ·refine aT7 ?_
  refine o_p (Qm rfl rfl X2 Qft) rfl ?_
  rw[show IntKind.u64.wrap ((lo:Int)+(hi:Int))=((lo+hi:Nat):Int)from QkN _ om]
  refine o_p (Qci rfl rfl rfl (by decide) 1 rfl) rfl (o_p (Qm rfl rfl Qft X2) rfl ?_)
  try refine oWr ?_
  refine Qn (show _=Value.int .i64 (((lo+hi)/2:Nat):Int)from by congr 1) ?_
  obtain⟨q2,hq1,hq2⟩:=QgK (cs:=cs) (show lo<hi by omega) hx3
  refine aU7 ?_
  refine o_p (Qa rfl rfl rfl Yd ((lo+hi)/2) om om (Rw.some hs om)) rfl (o_q (Qt _ rfl rfl YZ rfl (Rw.rd hs (i:=(lo+hi)/2) om)) rfl (aU ?_))
  refine o_q (XM rfl rfl hq rfl (λw1 h1=>hc ((lo+hi)/2) w1 om (h1.ent aEt))) rfl (aU2 ?_)
  refine sCd rfl (λh2=>?_) λh2=>?_
  ·refine aT3 ?_
   refine aU3 ?_
   exact sBk (q2,(lo+hi)/2+1,hi) (by(try simp only[]);omega) ⟨by(try simp only[]);omega,hx2,by(try simp only[]);omega,by simp only[];rw[<-hx4,hq2,if_pos h2]⟩ (by refine QiN (congrArg (λe=>some (Value.int .i64 e)) (show(((lo+hi)/2:Nat):Int)+1=(((lo+hi)/2+1:Nat):Int) by omega)) ?_;repeat (first|exact Qme|refine QiN rfl ?_))
  refine aU5 ?_
  exact sBk (q2,lo,(lo+hi)/2) (by(try simp only[]);omega) ⟨by(try simp only[]);omega,by(try simp only[]);omega,by(try simp only[]);omega,by simp only[];rw[<-hx4,hq2,if_neg h2]⟩
 refine Qk rfl ?_
 refine aU3 ?_
 have hlo:bsL cs=lo:=by rw[<-hx4,Qh6 _ _ _ _ om]
 refine aU4 ?_
 refine QJ 9 39 48 rfl
  (λhg3 _=>by
   refine aU7 ?_
   refine o_p (Qa rfl rfl rfl Yd (lo) om om (Rw.some hs om)) rfl (aU ?_)
   refine o_q (Qt _ rfl rfl YZ rfl (Rw.rd hs (i:=lo) om)) rfl (aU3 ?_)
   refine o_q (XM rfl rfl hq rfl (λw1 h1=>hc lo w1 om (h1.ent aEt))) rfl (aU2 ?_)
   exact oJt 9 48)
  (λhg5 _=>by
   refine aU8 ?_
   exact oJf 9 48) ?_
 refine aU3 ?_
 exact Qg (rs:=[.tmp 6,.tmp 7]) rfl (.tmp rfl (.tmp rfl (.nil))) (λw' h'=>⟨by simp only[Qw,QeM,hlo];first|(rw[hb];simp;done)|(have:¬lo<cs.length:=om;simp[this];done)|(have:lo<cs.length:=om;simp[this];done)|(have:lo<cs.length:=om;have hl9:lo<l.length:=om;simp only[this,hl9,decide_true,Bool.true_and,Bool.and_true];rfl)|(have:lo<cs.length:=om;have hl9:lo<l.length:=om;simp[this,hl9]),h'.below⟩)
theorem c120(w:World)(x:SItm)(n:Int)(hn:0<=n/\n<=9223372036854775807)(hx:0<=x.id/\x.id<=9223372036854775807):CR 120 #[.agg #[.int .i64 x.id,.string (bs x.by_)],.int .i64 n] w (.int .i64 (x.id-n)):=by
 refine eN2 Tryz.func120 Tryz.ntmps120 ?_
 refine aU2 ?_
 refine oBx λb1 _=>?_
 refine aT8 ?_
 refine aU2 ?_
 exact rV
theorem c75(w:World)(a:Option Addr)(cap:Nat)(l:List SItm)(n:Int)(hs:Rw SItm.vals 2 w [] a l)(hm:l.length<=1000000)(hn:0<=n/\n<=9223372036854775807)(hx:∀k,k<l.length->0<=(nth l k).id/\(nth l k).id<=9223372036854775807):CR 75 #[.slice a l.length cap,.int .i64 n] w (.tuple #[.int .i64 (bsL (idC l n):Int),.bool (QeM (idC l n))]):=by
 refine eN2 Tryz.func75 Tryz.ntmps75 ?_
 refine aU9 ?_
 refine oCq rfl (λw1 h1=>c119 w1 a cap l 120 #[] (idC l n) n (hs.later h1) hm Qm8 (Qck l n) (λk w2 hk h2=>by have h9:=c120 w2 (nth l k) n hn (hx k hk);rw[Qb5 hk];exact h9)) (aU5 ?_)
 exact Qg (rs:=[.tmp 4,.tmp 5]) rfl (.tmp rfl (.tmp rfl (.nil))) (λw' h'=>⟨by rfl,h'.below⟩)
theorem c36(w:World)(nx:Int)(a:Option Addr)(cap:Nat)(l:List SItm)(hs:Rw SItm.vals 2 w [] a l)(hm:l.length<=100000)(hb:∀x∈l,x.by_.length<=100000):CE 36 #[.agg #[.int .i64 nx,.slice a l.length cap]] w [] (λg:Option Addr×Nat=>.tuple #[.slice g.1 (if(stoE nx l).2=0 then plsI l else([],0)).1.length g.2,.int .i64 (if(stoE nx l).2=0 then plsI l else([],0)).2,.int .i64 (stoE nx l).2]) (λg=>True) λg=>[.own (.slice g.1 (if(stoE nx l).2=0 then plsI l else([],0)).1.length g.2) 3 1 (if(stoE nx l).2=0 then plsI l else([],0)).1.length ((if(stoE nx l).2=0 then plsI l else([],0)).1.map nv)]:=by
 refine eN1 Tryz.func36 Tryz.ntmps36 ?_
 refine aU2 ?_
 refine oBx λb1 _=>?_
 refine aU8 ?_
 refine oCq rfl (λw1 h1=>c72 w1 nx a cap l (hs.later h1) hm hb) (aU7 ?_)
 refine sCd rfl (λh2=>?_) λh2=>?_
 ·have h0:¬(stoE nx l).2=0:=h2
  refine aU7 ?_
  exact Qg (rs:=[.tmp 2,.tmp 3,.tmp 4]) rfl (.tmp rfl (.tmp rfl (.tmp rfl (.nil)))) (λw' h'=>⟨(none,0),by rw[if_neg h0];rfl,trivial,by rw[if_neg h0];exact(h'.own_nil 3 1).ent aEt⟩)
 have h0:(stoE nx l).2=0:=h2
 refine aU5 ?_
 refine oCh rfl (λw1 h1=>c70 w1 a cap l (hs.later h1) hm hb) (λgp _=>Qg0 ?_)
 exact Qg (rs:=[.tmp 2,.tmp 3,.tmp 4]) rfl (.tmp rfl (.tmp rfl (.tmp rfl (.nil)))) (λw' h'=>⟨gp,by rw[if_pos h0,h0,QaL];rfl,trivial,by rw[if_pos h0,QaL];exact h'.ent aEt⟩)
theorem c23(w:World):CR 23 #[] w (.agg #[.int .i64 256,.slice none 0 0]):=by
 refine eN0 Tryz.func23 Tryz.ntmps23 ?_
 refine aU2 ?_
 refine oAl (λb1 _=>?_) YY
 refine aU3 ?_
 refine o_p (Qs (cs:=[_,_]) rfl rfl Qdw YY rfl) rfl (aU2 ?_)
 exact Qg (rs:=[.cell 0 63]) rfl (.cell rfl Qc0 aPk rfl (.nil)) (λw' h'=>⟨by rfl,h'.below⟩)
end Go.Proofs
namespace Gx
open Go Go.RowKit
theorem Vl.rwI{w:World}{a:Option Addr}{u:List Int}(h:Vl w a (u.map nv)):Rw inV 1 w [] a u:=by
 refine⟨λhn=>?_⟩;obtain⟨b,o,e,h2⟩:=h.at_ (by rw[List.length_map];exact hn);refine⟨b,o,e,λi hi=>?_⟩;have h3:=h2 i (by rw[List.length_map];exact hi);have e9:((u.map nv)[i]?).toList=inV (nth u i):=by rw[List.getElem?_map,XO hi];rfl
 rw[e9]at h3;exact h3
end Gx
namespace Go.Proofs
open Go Go.RowKit Gx
attribute [local irreducible] Go.Calls Gx.S Gx.O Gx.D Gx.OpP Gx.OpQ Gx.OpH
set_option maxRecDepth 20000
theorem QoW:QC Tryz.prog 74=true:=by kernel_rfl
instance:TFn Tryz.prog 73:=⟨by kernel_rfl⟩
theorem c73(w:World)(ua:Option Addr)(uc:Nat)(u:List Int)(q:Nat)(cv:Array Value)(es:List Int)(hu:Vl w ua (u.map nv))(hum:u.length<=100000)(hq:QC Tryz.prog q=true)(he:es.length=u.length)(hc:∀k w1,k<u.length->HS w [] [] w1->Calls Tryz.prog q (#[]++[.int .i64 (k:Int),.int .i64 (u.getD k 0)].toArray++cv) w1 λen w2=>en=.returned (.int .i64 (es.getD k 0))/\Below w1.heap.size w1 w2):CR 73 #[.slice ua u.length uc,.func (.func q) #[] cv] w (.tuple #[.int .i64 (QM es 0).1,.int .i64 (QM es 0).2]):=by
 refine eN2 Tryz.func73 Tryz.ntmps73 ?_
 refine Qb9 ?_
 refine Qp (α:=Nat) [4,5,6,7,8,11,12,13,14,15,16,17,18,19,20,21,22,23,24] (λk=>[(11,.int .i64 (k:Int))]) (λ_=>HS w [] []) (λk=>k<=u.length/\QM es 0=QM (es.drop k) k) (λk=>u.length-k) 0 ⟨om,rfl⟩ aSx (λw h=>h.ent aEt) (λk hkk=>?_)
 obtain⟨hk1,hk2⟩:=hkk
 refine aU5 ?_
 refine sCd rfl (λh1=>?_) λh1=>?_
 ·have hk:k<u.length:=by omega
  refine aU6 ?_
  refine o_p (Qa rfl rfl rfl QU (k) om om (hu.some (by rw[List.length_map];omega))) rfl (o_q (Qb rfl rfl Q3 ((hu.rd (Qfr hk)))) rfl (aU8 ?_))
  refine o_q (XM rfl rfl hq rfl (λw1 h1=>hc k w1 om (h1.ent aEt))) rfl (aU7 ?_)
  refine sCd rfl (λh2=>?_) λh2=>?_
  ·refine aU7 ?_
   exact Qg (rs:=[.tmp 4,.tmp 5]) rfl (.tmp rfl (.tmp rfl (.nil))) (λw' h'=>⟨by simp only[Qw];rw[hk2,Xh om,if_neg (by assumption)],h'.below⟩)
  refine aT4 ?_
  refine aU2 ?_
  exact sBk (k+1) om ⟨om,by rw[hk2,Xh om,if_pos (by assumption)]⟩
 refine Qk rfl ?_
 refine aU5 ?_
 exact Qg (rs:=[.tmp 4,.tmp 5]) rfl (.tmp rfl (.tmp rfl (.nil))) (λw' h'=>⟨by simp only[Qw];rw[hk2,QcP om],h'.below⟩)
theorem c74(w:World)(bS bU i:Nat)(a:Option Addr)(cap:Nat)(l:List SItm)(ua:Option Addr)(uc:Nat)(u:List Int)(hA1:Rd w [] bS 1 (.slice a l.length cap))(hA2:Rd w [] bU 0 (.slice ua u.length uc))(hs:Rw SItm.vals 2 w [] a l)(hm:l.length<=100000)(hrg:∀k,k<l.length->256<=(nth l k).id/\(nth l k).id<=2147483647)(hasc:∀j,j<l.length->∀i,i<j->(nth l i).id<(nth l j).id)(hu:Vl w ua (u.map nv))(hum:u.length<=100000)(hi:i<u.length)(hui:(u.getD i 0)<=9223372036854775807):CR 74 #[.int .i64 (i:Int),.int .i64 (u.getD i 0),.pointer (some ⟨bS,0,none⟩),.pointer (some ⟨bU,0,none⟩)] w (.int .i64 (Qfy l u i)):=by
 have hmx:0<=mx0 (u.getD i 0)/\mx0 (u.getD i 0)<=9223372036854775807:=by unfold mx0;split<;>omega
 obtain⟨hbf,hbl⟩:=Qoz (n:=mx0 (u.getD i 0)) hasc
 rw[Qnh (λk hk=>(hrg k hk).1)]at hbf
 refine eN4 Tryz.func74 Tryz.ntmps74 ?_
 refine aU7 ?_
 refine o_q (Qb rfl rfl QjO (hA1)) rfl (aU ?_)
 refine o_p (QcD rfl rfl rfl ) rfl ?_
 refine Qn (show _=Value.int .i64 (mx0 (u.getD i 0))from by unfold mx0;first|rfl|(congr 1;split<;>split<;>omega)|congr 1) (oCq rfl (λw1 h1=>c75 w1 a cap l (mx0 (u.getD i 0)) (hs.later h1) om om (λk hk=>by have:=hrg k hk;omega)) (aU2 ?_))
 rw[hbf]
 refine aU7 ?_
 refine oCq rfl (λw1 h1=>c42 w1 _ _) (aU3 ?_)
 refine oOr 9 21 30 rfl
  (λhg1 _=>by
   refine aU ?_
   refine o_q (Qb rfl rfl Ze (hA2)) rfl (aT4 ?_)
   refine aU ?_
   refine o_p (QcD rfl rfl rfl ) rfl ?_
   refine Qn (show _=Value.int .i64 ((i-1:Nat):Int)from by congr 1;split<;>omega) (aU ?_)
   refine o_p (Qa rfl rfl rfl QU (i-1) om om (hu.some (by rw[List.length_map];omega))) rfl (aU ?_)
   refine o_q (Qb rfl rfl Q3 ((hu.rd (Qfr (k:=i-1) om)))) rfl (aU4 ?_)
   exact oJf 9 30)
  (λhg3 _=>by
   refine aU8 ?_
   exact oJt 9 30) ?_
 refine oCq rfl (λw1 h1=>c42 w1 _ _) (o_h (Qc (cs:=[_,_]) rfl rfl Q6 Xx rfl rfl rfl) rfl (λb5 _=>oCq rfl (λw1 h1=>f38 h1 aPk (by rfl) (by rfl) (by decide)) (aU2 ?_)))
 exact rV (h:=by unfold Qfy;simp only[Qw,QV,cond_eq_ite];grind)
theorem c28(w:World)(nx:Int)(a:Option Addr)(cap:Nat)(l:List SItm)(ua:Option Addr)(uc:Nat)(u:List Int)(hs:Rw SItm.vals 2 w [] a l)(hm:l.length<=100000)(hb:∀x∈l,x.by_.length<=100000)(hu:Vl w ua (u.map nv))(hum:u.length<=100000)(hui:∀x∈u,x<=9223372036854775807):CE 28 #[.agg #[.int .i64 nx,.slice a l.length cap],.slice ua u.length uc] w [] (λg:(Option Addr×Nat)×(Option Addr×Nat)=>.tuple #[.agg #[.int .i64 (Qb7 nx l u).nx,.slice g.1.1 (Qb7 nx l u).l.length g.1.2],.slice g.2.1 (Qb7 nx l u).g.length g.2.2,.int .i64 (QeL nx l u)]) (λg=>True) λg=>[.own (.slice g.1.1 (Qb7 nx l u).l.length g.1.2) 72 2 (Qb7 nx l u).l.length ((Qb7 nx l u).l.flatMap SItm.vals),.own (.slice g.2.1 (Qb7 nx l u).g.length g.2.2) 3 1 (Qb7 nx l u).g.length ((Qb7 nx l u).g.map nv)]:=by
 refine eN2 Tryz.func28 Tryz.ntmps28 ?_
 refine aU2 ?_
 refine oBx λb1 _=>?_
 refine oBx λb2 _=>?_
 refine oAl (λb3 _=>?_) YY
 refine aU6 ?_
 refine oCq rfl (λw1 h1=>c72 w1 nx a cap l (hs.later h1) hm hb) (aU8 ?_)
 refine Q7 (α:=Unit) [7,16,17,18,19,20,21] (λ_=>[(7,.int .i64 (QeL nx l u))]) (λ_=>HS w [] [.blk b1 63 2 [.int .i64 nx,.slice a l.length cap],.blk b2 65 1 [.slice ua u.length uc],.blk b3 63 2 [.int .i64 0,.slice none 0 0]]) (λ_=>True) ?_ ?_
 ·skip
  refine sCd rfl (λh4=>?_) λh4=>?_
  ·have h0:(stoE nx l).2=0:=h4
   have hce:QeL nx l u=QmY l u:=by unfold QeL;rw[if_pos h0]
   obtain⟨hnx,hl60,hit9,hpl9⟩:=Qfx h0
   refine aU3 ?_
   refine oCq rfl (λw1 h1=>c73 w1 ua uc u 74 _ (QcI l u) (hu.later h1) hum QoW (Qkj l u) (λk w2 hk h2=>by have h9:=c74 w2 b1 b2 k a cap l ua uc u ((h1.rd_blk (i:=1) aPk rfl (by simp)).later h2 (by simp)) ((h1.rd_blk (i:=0) aPk rfl (by simp)).later h2 (by simp)) ((hs.later h1).later h2) hm (λq hq=>by have:=Qfk (hit9 q hq);omega) (Qjw hit9) ((hu.later h1).later h2) hum hk (hui _ (Yb hk));rw[QkB hk];exact h9)) (aU5 ?_)
   exact Qf () trivial (by(try dsimp only);rw[hce];exact aSx) (λw h=>h.ent aEt)
  have h0:¬(stoE nx l).2=0:=h4
  have hce:QeL nx l u=(stoE nx l).2:=by unfold QeL;rw[if_neg h0]
  refine aU ?_
  exact Qf () trivial (by(try dsimp only);rw[hce];exact aSx) (λw h=>h.ent aEt)
 intro _ _
 refine aU6 ?_
 refine sCd rfl (λh5=>?_) λh5=>?_
 ·have h1e:¬QeL nx l u=0:=h5
  have hT:Qb7 nx l u=⟨0,[],[]⟩:=by unfold Qb7;rw[if_neg h1e]
  refine aU2 ?_
  refine o_p (Qs (cs:=[_,_]) rfl rfl Qdw YY rfl) rfl (aU5 ?_)
  exact Qg (rs:=[.cell 4 63,.tmp 5,.tmp 6]) rfl (.cell rfl Qc0 aPk rfl (.tmp rfl (.tmp rfl (.nil)))) (λw' h'=>⟨((none,0),(none,0)),by rw[hT];rfl,trivial,by rw[hT];exact((h'.own_nil 72 2).own_nil 3 1).ent aEt⟩)
 have h1e:QeL nx l u=0:=h5
 have hT:Qb7 nx l u=⟨nx,QaO u l,Qan u l⟩:=by unfold Qb7;rw[if_pos h1e]
 refine aU5 ?_
 refine o_p (Qs (cs:=[_,_]) rfl rfl Qdw YY rfl) rfl (oAl (λb6 _=>?_) YY)
 refine aU15 ?_
 refine Qi (L':=[(3,_),(4,_),(5,_),(6,_),(8,_),(9,_),(30,_),(31,_),(32,_)]) aSx (λ_ h=>h) ?_
 refine Qp (α:=Nat×(Option Addr×Nat)×(Option Addr×Nat)) [9,11,32,33,34,35,36,37,38,39,40,41,42,43,44,45,46,47,48,49,50,51] (λy=>[(32,.int .i64 (y.1:Int)),(9,.slice y.2.2.1 (Qan u (l.take y.1)).length y.2.2.2)]) (λy=>HS w [] [.blk b6 63 2 [.int .i64 nx,.slice y.2.1.1 (QaO u (l.take y.1)).length y.2.1.2],.own (.slice y.2.1.1 (QaO u (l.take y.1)).length y.2.1.2) 72 2 (QaO u (l.take y.1)).length ((QaO u (l.take y.1)).flatMap SItm.vals),.own (.slice y.2.2.1 (Qan u (l.take y.1)).length y.2.2.2) 3 1 (Qan u (l.take y.1)).length ((Qan u (l.take y.1)).map nv),.blk b1 63 2 [.int .i64 nx,.slice a l.length cap],.blk b2 65 1 [.slice ua u.length uc],.blk b3 63 2 [.int .i64 0,.slice none 0 0]]) (λy=>y.1<=l.length) (λy=>l.length-y.1) (0,(none,0),(none,0)) (Nat.zero_le _) aSx (λw h=>((h.own_nil 72 2).own_nil 3 1).ent aEt) (λ⟨k,ga,gb9⟩hk1=>?_)
 dsimp only
 simp only[]at hk1
 refine aU5 ?_
 refine sCd rfl (λh7=>?_) λh7=>?_
 ·have hk:k<l.length:=by omega
  have hks:=Qjd (u:=u) hk
  have hgs:=Qi3 (u:=u) hk
  have hkl:=Ql2 u (l.take k)
  have hgl:=QlR u (l.take k)
  rw[List.length_take]at hkl hgl
  refine aU5 ?_
  refine o_p (Qa rfl rfl rfl Yd (k) om om (Rw.some hs om)) rfl (o_q (Qt _ rfl rfl YZ rfl (Rw.rd hs hk)) rfl (oAl (λb8 _=>?_) XJ))
  refine aU7 ?_
  refine oCq rfl (λw1 h1=>c76 w1 ua uc u _ (hu.later h1).rwI hum) (aU ?_)
  refine sCd rfl (λh9=>?_) λh9=>?_
  ·have hmu:(nth l k).id∈u:=h9
   rw[if_pos hmu]at hks hgs
   refine aU4 ?_
   refine o_h (Qc (cs:=[_,_]) rfl rfl Yd XJ rfl rfl rfl) rfl (λb10 _=>o_h (Qz [_,_] rfl rfl rfl Yd Tryz.underlying61 XJ rfl aPk (Q5 aPk) rfl (sv1 (nth l k)) om (by simp only[maxLen];omega)) rfl (λb11 _=>aT6 ?_))
   refine aU2 ?_
   exact QH (k+1,b11,gb9) (by(try simp only[]);omega) (by(try simp only[]);omega) (by dsimp only;rw[hgs];exact aSx) (λw h=>by dsimp only;rw[hks,hgs,List.length_append,Xd];exact h.ent aEt)
  have hmu:¬(nth l k).id∈u:=h9
  rw[if_neg hmu]at hks hgs
  refine aU4 ?_
  refine o_h (Qc (cs:=[_]) rfl rfl QU YX rfl rfl rfl) rfl (λb12 _=>o_h (Qz [_] rfl rfl rfl QU Tryz.underlying65 YX rfl aPk (Q5 aPk) rfl (by intro u hu;simp only[List.mem_cons,List.mem_nil_iff,or_false]at hu;subst hu;rfl) om (by simp only[maxLen];omega)) rfl (λb13 _=>aT5 ?_))
  refine aU2 ?_
  exact QH (k+1,ga,b13) (by(try simp only[]);omega) (by(try simp only[]);omega) (by dsimp only;rw[hgs,List.length_append];exact aSx) (λw h=>by dsimp only;rw[hks,hgs,List.length_append,List.map_append];exact h.ent aEt)
 obtain rfl:k=l.length:=om
 rw[List.take_length]
 refine Qk rfl ?_
 refine aU8 ?_
 exact Qg (rs:=[.cell 4 63,.tmp 5,.tmp 6]) rfl (.cell rfl Qc0 aPk rfl (.tmp rfl (.tmp rfl (.nil)))) (λw' h'=>⟨(ga,gb9),by rw[hT,h1e];rfl,trivial,by rw[hT];exact h'.ent aEt⟩)
theorem Qmo:Qol Tryz.prog 119=some [0,0,0,0]:=by kernel_rfl
instance:TFn Tryz.prog 64:=⟨by kernel_rfl⟩
theorem c64(w:World)(a:Option Addr)(cap:Nat)(a2:Option Addr)(cap2:Nat)(l:List Ace)(hs:Rw Ace.vals 4 w [] a l)(hs2:Rw Ace.vals 4 w [] a2 l)(hm:l.length<=1000000):CR 64 #[.slice a l.length cap,.slice a2 l.length cap2] w (.bool true):=by
 refine eN2 Tryz.func64 Tryz.ntmps64 ?_
 refine Qb9 ?_
 refine sCd rfl (λh1=>?_) λh1=>?_
 ·exfalso;first|omega|(simp at h1;done)|(have hq:=h1;simp at hq;done)|(have hq:=h1;omega)
 refine aU7 ?_
 refine Qp (α:=Nat) [4,5,11,12,13,14,15,16,17,18,19,20,21,22,23,24,25] (λk=>[(5,.int .i64 (k:Int))]) (λ_=>_) (λk=>k<=l.length) (λk=>l.length-k) 0 (Nat.zero_le _) aSx (λw h=>h) (λk hk1=>?_)
 refine aU8 ?_
 refine sCd rfl (λh2=>?_) λh2=>?_
 ·have hk:k<l.length:=by omega
  refine aU4 ?_
  refine Qq [] mixed ?_
  refine dP 0 ?_
  refine dP 1 ?_
  refine dV 2 rfl (Qa rfl rfl rfl Xq (k) om om (Rw.some hs om)) (dQ 3 [] rfl (Qt _ rfl rfl QaF rfl (Rw.rd hs hk)) (dP 4 ?_))
  refine dP 5 ?_
  refine dV 6 rfl (Qa rfl rfl rfl Xq (k) om om (Rw.some hs2 om)) (dQ 7 [] rfl (Qt _ rfl rfl QaF rfl (Rw.rd hs2 hk)) (dV 8 rfl (QiC rfl rfl rfl Qmo (by rfl) (by rfl) (by rfl)) (dNi ?_)))
  refine sCd rfl (λh3=>?_) λh3=>?_
  ·exfalso;first|omega|(simp at h3;done)|(have hq:=h3;simp at hq;done)|(have hq:=h3;omega)
  refine aT5 ?_
  refine aU2 ?_
  exact QH (k+1) om om aSx (λw h=>h)
 refine Qk rfl ?_
 refine aU4 ?_
 exact rV
theorem c18(w:World)(d:Dsc)(e1:Option Addr)(ec1:Nat)(u1:Option Addr)(uc1:Nat)(e2:Option Addr)(ec2:Nat)(u2:Option Addr)(uc2:Nat)(he1:Rw Ace.vals 4 w [] e1 d.en)(hu1:Rw Ace.vals 4 w [] u1 d.au)(he2:Rw Ace.vals 4 w [] e2 d.en)(hu2:Rw Ace.vals 4 w [] u2 d.au)(hme:d.en.length<=1000000)(hma:d.au.length<=1000000):CR 18 #[.agg #[.int .i64 d.ow,.int .i64 d.gr,.bool d.pr,.bool d.he,.slice e1 d.en.length ec1,.slice u1 d.au.length uc1],.agg #[.int .i64 d.ow,.int .i64 d.gr,.bool d.pr,.bool d.he,.slice e2 d.en.length ec2,.slice u2 d.au.length uc2]] w (.bool true):=by
 refine eN2 Tryz.func18 Tryz.ntmps18 ?_
 refine aU2 ?_
 refine oBx λb1 _=>?_
 refine oBx λb2 _=>?_
 refine YO ?_
 refine QJ 6 10 16 rfl
  (λhg3 _=>by
   refine YO ?_
   exact oJt 6 16)
  (λhg5 _=>by
   refine aU5 ?_
   exact oJf 6 16) ?_
 refine aU ?_
 refine QJ 6 17 23 rfl
  (λhg7 _=>by
   refine aU9 ?_
   refine o_p (QbF rfl rfl rfl Tryz.underlying4) rfl ?_
   exact oJt 6 23)
  (λhg9 _=>by
   refine aU5 ?_
   exact oJf 6 23) ?_
 refine aU ?_
 refine QJ 6 24 30 rfl
  (λhg11 _=>by
   refine aU9 ?_
   refine o_p (QbF rfl rfl rfl Tryz.underlying4) rfl ?_
   exact oJt 6 30)
  (λhg13 _=>by
   refine aU5 ?_
   exact oJf 6 30) ?_
 refine aU ?_
 refine QJ 6 31 37 rfl
  (λhg15 _=>by
   refine aU9 ?_
   refine oCq rfl (λw1 h1=>c64 w1 e1 ec1 e2 ec2 d.en (he1.later h1) (he2.later h1) hme) ?_
   exact oJt 6 37)
  (λhg17 _=>by
   refine aU5 ?_
   exact oJf 6 37) ?_
 refine aU ?_
 refine QJ 6 38 44 rfl
  (λhg19 _=>by
   refine aU9 ?_
   refine oCq rfl (λw1 h1=>c64 w1 u1 uc1 u2 uc2 d.au (hu1.later h1) (hu2.later h1) hma) ?_
   exact oJt 6 44)
  (λhg21 _=>by
   refine aU5 ?_
   exact oJf 6 44) ?_
 refine aU2 ?_
 exact rV (h:=by simp[Qw])
theorem c10(w:World)(d:Dsc)(ea:Option Addr)(eac:Nat)(aa:Option Addr)(aac:Nat)(hse:Rw Ace.vals 4 w [] ea d.en)(hsa:Rw Ace.vals 4 w [] aa d.au)(hme:d.en.length<=100000)(hma:d.au.length<=100000):CE 10 #[.agg #[.int .i64 d.ow,.int .i64 d.gr,.bool d.pr,.bool d.he,.slice ea d.en.length eac,.slice aa d.au.length aac]] w [] (λg:(Option Addr×Nat)×(Option Addr×Nat)=>.agg #[.int .i64 d.ow,.int .i64 d.gr,.bool d.pr,.bool d.he,.slice g.1.1 d.en.length g.1.2,.slice g.2.1 d.au.length g.2.2]) (λg=>True) λg=>[.own (.slice g.1.1 d.en.length g.1.2) 119 4 d.en.length (d.en.flatMap Ace.vals),.own (.slice g.2.1 d.au.length g.2.2) 119 4 d.au.length (d.au.flatMap Ace.vals)]:=by
 refine eN1 Tryz.func10 Tryz.ntmps10 ?_
 refine aU2 ?_
 refine oBx λb1 _=>?_
 refine Yf (C':=HS w [] [.blk b1 28 6 [.int .i64 d.ow,.int .i64 d.gr,.bool d.pr,.bool d.he,.slice ea d.en.length eac,.slice aa d.au.length aac]]) (λw h=>h) (oAl (λb2 _=>?_) QY)
 refine aU2 ?_
 refine Qq [7,9] mixed ?_
 refine dFa 0 ?_
 refine dLd 1 [[],[]] ?_
 refine dFa 3 ?_
 refine dLd 4 [[],[]] ?_
 refine dH 2 rfl (Xy rfl Qjz rfl (λw1 h1=>c50 w1 ea eac d.en (hse.later h1) om)) (λge _=>dBa ?_)
 refine dFa 6 ?_
 refine dH 5 rfl (Xy rfl Qjz rfl (λw1 h1=>c50 w1 aa aac d.au (hsa.later h1) om)) (λgu _=>dBa ?_)
 refine dSt 7 ?_ (hl:=(by simp only[Qj,List.length_set,List.length_cons,List.length_nil,List.length_map];omega))
 refine dTu [9] ?_
 refine dFa 8 ?_
 refine dSt 9 ?_ (hl:=(by simp only[Qj,List.length_set,List.length_cons,List.length_nil,List.length_map];omega))
 refine dTu [] ?_
 refine dNi ?_
 refine aU5 ?_
 exact Qg (rs:=[.cell 2 28]) rfl (.cell rfl XT aPk rfl (.nil)) (λw' h'=>⟨(ge,gu),rfl,trivial,h'.ent aEt⟩)
theorem c7(w:World)(d:Dsc)(ea:Option Addr)(eac:Nat)(aa:Option Addr)(aac:Nat):CR 7 #[.agg #[.int .i64 d.ow,.int .i64 d.gr,.bool d.pr,.bool d.he,.slice ea d.en.length eac,.slice aa d.au.length aac]] w (.bool (Qi9 d)):=by
 refine eN1 Tryz.func7 Tryz.ntmps7 ?_
 refine aU2 ?_
 refine oBx λb1 _=>?_
 refine aU9 ?_
 refine QJ 5 7 12 rfl
  (λhg2 _=>by
   refine aU8 ?_
   exact oJt 5 12)
  (λhg4 _=>by
   refine aU4 ?_
   exact oJf 5 12) ?_
 refine aU2 ?_
 exact rV (h:=by simp only[Qw,Qi9];congr 2;rw[Bool.eq_iff_iff];simp;omega)
theorem c34(w:World):CR 34 #[] w (.agg #[.int .i64 10,.int .i64 10,.bool false,.bool false,.slice none 0 0,.slice none 0 0]):=by
 refine eN0 Tryz.func34 Tryz.ntmps34 ?_
 refine aU2 ?_
 refine oAl (λb1 _=>?_) QY
 refine aU3 ?_
 refine o_p (Qs (cs:=[_,_,_,_,_,_]) rfl rfl XP QY rfl) rfl (aU2 ?_)
 exact Qg (rs:=[.cell 0 28]) rfl (.cell rfl XT aPk rfl (.nil)) (λw' h'=>⟨by rfl,h'.below⟩)
theorem c35(w:World):CE 35 #[] w [] (λg:Option Addr×Nat=>.agg #[.int .i64 10,.int .i64 10,.bool false,.bool true,.slice g.1 1 g.2,.slice none 0 0]) (λg=>True) λg=>[.own (.slice g.1 1 g.2) 119 4 1 [.int .i64 0,.int .i64 0,.int .i64 1,.int .i64 1]]:=by
 refine eN0 Tryz.func35 Tryz.ntmps35 ?_
 refine aU2 ?_
 refine oAl (λb1 _=>?_) QY
 refine aU3 ?_
 refine o_p (Qs (cs:=[_,_,_,_]) rfl rfl QfN Xa rfl) rfl (o_h (Qc (cs:=[_,_,_,_]) rfl rfl Xq Xa rfl rfl rfl) rfl (λb2 _=>o_p (Qs (cs:=[_,_,_,_,_,_]) rfl rfl XP QY rfl) rfl (aU2 ?_)))
 exact Qg (rs:=[.cell 0 28]) rfl (.cell rfl XT aPk rfl (.nil)) (λw' h'=>⟨(some ⟨b2,0,none⟩,1),rfl,trivial,(HS.own_shut (cap:=1) (n:=1) (sz:=4) (h'.ent (Bs:=[.blk b2 119 4 [.int .i64 0,.int .i64 0,.int .i64 1,.int .i64 1]]) aEt) rfl om (by decide)).ent aEt⟩)
end Go.Proofs
namespace Gx
open Go Go.RowKit
theorem Qg8{P:Program}{fits:TypeId->Bool}{d e c c' off n:Nat}(h:c<=c')(h1:rowAt P fits d e c off n=true):rowAt P fits d e c' off n=true:=by
 cases d with
 | zero=>exact h1
 | succ d=>
  unfold rowAt at h1 ⊢;simp only[]at h1 ⊢;split at h1
  ·cases h1
  ·rename_i h0;rw[if_neg h0];simp only[Bool.or_eq_true,Bool.and_eq_true,decide_eq_true_eq]at h1 ⊢;rcases h1 with h1|h1
   ·exact .inl ⟨⟨h1.1.1,om⟩,h1.2⟩
   ·exact .inr ⟨om,h1.2⟩
theorem QcW{P:Program}:∀{d:Nat}{e c c' off u n:Nat},c<=c'->liesAt P d e c off u n=true->liesAt P d e c' off u n=true
 | 0,_,_,_,_,_,_,_,h=>h
 | d+1,e,c,c',off,u,n,hc,h=>by
  unfold liesAt at h ⊢;simp only[Bool.or_eq_true]at h ⊢;rcases h with h|h
  ·exact .inl (Qg8 hc h)
  ·refine .inr ?_;split at h
   ·exact QcW hc h
   ·cases h
section
variable{P:Program}{o:Oper}{L:Qh}{w0:World}{M:List Nat}{As As':List HA}
theorem QgJ{src dst te b tot:Nat}{bt:TypeId}{x:Operand}{cs:List Value}(ho:o.op=.convert src dst x)(hx:ev L x=some (.pointer (some ⟨b,0,none⟩)))(hs:Qgl P src te)(hd:P.underlying dst=some .unsafePointer)(hp:QG As (.blk b bt tot cs) As')(h0:0<tot):OpQ P o L (HS w0 M As) (.pointer (some ⟨b,0,none⟩)):=by
 intro ρ w hρ hw;obtain⟨h1,j,h2,h3⟩:=hs;obtain⟨k,hk,this,_⟩:=(hw.blk_get hp).shape;simp only[execOp,ho,hρ _ _ hx,Sem.run_bind,Lib.run_to_unsafe w (⟨b,0,none⟩:Addr) h1 hd h2 h3 this (show 0<k by omega),Result.andThen_ok,Sem.run_pure];exact⟨rfl,Below.refl _ _⟩
theorem QeO{src dst te b tot:Nat}{bt:TypeId}{x:Operand}{cs:List Value}(ho:o.op=.convert src dst x)(hx:ev L x=some (.pointer (some ⟨b,0,none⟩)))(hs:P.underlying src=some .unsafePointer)(hd:Qgl P dst te)(hp:QG As (.blk b bt tot cs) As')(hl:liesAt P P.depth bt (tot/P.cellsOf bt) 0 te 1=true):OpQ P o L (HS w0 M As) (.pointer (some ⟨b,0,none⟩)):=by
 intro ρ w hρ hw;obtain⟨h1,j,h2,h3⟩:=hd;obtain⟨k,hk,this,_⟩:=(hw.blk_get hp).shape;simp only[execOp,ho,hρ _ _ hx,Sem.run_bind,Lib.run_from_unsafe w (⟨b,0,none⟩:Addr) hs h1 h2 this (QcW (Nat.div_le_div_right hk) hl),Result.andThen_ok,Sem.run_pure];exact⟨rfl,Below.refl _ _⟩
def isNE(P:Program)(f:FuncId):Prop:=∃fn,P.funcs[f]?=some fn/\(fn.name== "runtime.NumGoroutine")=false/\fn.body.isNone=true/\Extern.findNext fn=none/\Extern.find fn=some Extern.AbiNoEscape.same
theorem Qhl{f:FuncId}{x:Operand}{v:Value}{at':Array TypeId}{C:World->Prop}(ho:o.op=.call {callee:=.value (.func f),args:=#[x],argTypes:=at'})(hx:ev L x=some v)(hf:isNE P f):OpQ P o L C v:=by
 intro ρ w hρ hw;obtain⟨fn,h1,h2,h3,h4,h5⟩:=hf;have hcall:=run_callFunc_extern h1 h2 h3 h4 h5 #[v] w;rw[Lib.run_noEscape w v]at hcall
 have:(execOp ρ o).run P w=.ok (.value v) w:=by
  unfold execOp;simp only[ho,resolve,Sem.run_bind,hρ (.func f) _ rfl,Deferred.ofValue,Sem.run_pure,Result.andThen_ok,invoke,List.map_toArray,List.map_cons,List.map_nil,hρ _ _ hx,Array.empty_append,Array.append_empty,hcall]
 rw[this];exact⟨rfl,Below.refl _ _⟩
theorem Qgu{x:Operand}{at':Array TypeId}{a:Addr}{n cap:Nat}(ho:o.op=.call {callee:=.builtin .unsafeSliceData,args:=#[x],argTypes:=at'})(hx:ev L x=some (.slice (some a) n cap))(hc:cap≠0):OpP P o L (.pointer (some a)):=by
 intro ρ w hρ;simp only[execOp,ho,resolve,Sem.run_bind,Sem.run_pure,Result.andThen_ok,invoke,builtin,List.map_toArray,List.map_cons,List.map_nil,hρ _ _ hx,Lib.run_unsafeSliceData_row w at' o.type a n cap hc]
theorem Qd8{pt it e g cap:Nat}{x y:Operand}{l:List UInt8}(ho:o.op=.call {callee:=.builtin .unsafeString,args:=#[x,y],argTypes:=#[pt,it]})(hx:ev L x=some (.pointer (some ⟨g,0,none⟩)))(hy:ev L y=some (.int .i64 (l.length:Int)))(ht:P.underlying pt=some (.pointer e))(hce:P.cellsOf e=1)(h0:l≠[])
  (hp:QG As (.own (.slice (some ⟨g,0,none⟩) l.length cap) e 1 l.length (l.map bv)) As'):OpH P o L (HS w0 M As) (λ_:Unit=>.string (bs l)) (λ_=>True) (λ_=>HS w0 M As'):=by
 intro ρ w hρ hw;have hl:0<l.length:=by cases l with|nil=>exact absurd rfl h0|cons=>simp
 obtain⟨g',e1,_,h1,h2,h3,hb⟩:=hw.own_blk hl hp;injection e1 with e1
 injection e1 with e1
 subst e1;have hk:=hb.head;obtain⟨k9,hk9,hsh,_⟩:=hk.shape
 have hr:=Lib.run_unsafeString_row (P:=P) w pt it o.type e ht hce g k9 hsh l h0 om (by simp only[maxLen]at h2;omega) (λj x hx=>by
  rw[XI];show w.cell? ⟨g,0+j,none⟩=_;rw[Nat.zero_add];exact Q9.cell hk (by rw[List.getElem?_map,hx];rfl))
 have hx':(execOp ρ o).run P w=.ok (.value (.string (bs l))) (w.freeze ⟨g,0,none⟩ l.length):=by
  simp only[execOp,ho,resolve,Sem.run_bind,Sem.run_pure,Result.andThen_ok,invoke,builtin,List.map_toArray,List.map_cons,List.map_nil,hρ _ _ hx,hρ _ _ hy,hr];rfl
 rw[hx'];refine⟨(),rfl,trivial,?_⟩
 have hf:∀k,k≠g->(w.freeze ⟨g,0,none⟩ l.length).heap[k]?=w.heap[k]?:=λk hne=>by
  simp only[World.freeze];split
  ·rfl
  ·simp[Array.getElem?_modify,Ne.symm hne]
 have h9:(w.freeze ⟨g,0,none⟩ l.length).os=w.os/\(w.freeze ⟨g,0,none⟩ l.length).tape=w.tape/\(w.freeze ⟨g,0,none⟩ l.length).output=w.output/\(w.freeze ⟨g,0,none⟩ l.length).heap.size=w.heap.size:=by
  simp only[World.freeze];split<;>simp
 exact(hb.swap (B:=⟨[g],λ_=>True,λ_ _ _ h=>h⟩) (w':=w.freeze ⟨g,0,none⟩ l.length) (λ_ h=>h) h9.1 h9.2.1 h9.2.2.1 h9.2.2.2 (λk hkk=>hf k (by simpa[HA.fp_blk]using hkk)) trivial).tail
theorem QbB{t xt e by' n:Nat}{s x:Operand}{v:Value}{z xs:List Value}{l:List UInt8}(ho:o.op=.call {callee:=.builtin .append,args:=#[s,x],argTypes:=#[t,xt]})(hs:ev L s=some v)(hx:ev L x=some (.string (bs l)))(ht:tsl P t=some (e,1,by'))(hxt:P.underlying xt=some .string)(hz:Q8 P e=some z)(hzs:z.length=1)
  (hp:QG As (.own v e 1 n xs) As')(hroom:(n+l.length)*by'<=140737488355328)(hmax:n+l.length<=maxLen) :
  OpH P o L (HS w0 M As) (λg:Option Addr×Nat=>.slice g.1 (n+l.length) g.2) (λ_=>True) (λg=>HS w0 M (.own (.slice g.1 (n+l.length) g.2) e 1 (n+l.length) (xs++l.map bv)::As')):=by
 intro ρ w hρ hw;refine(QfQ ho hs hx ht hxt hz hzs hp hroom hmax ρ w hρ hw).mono λu w' hh=>?_;obtain⟨v',rfl,_,h⟩:=hh;obtain⟨a',cap',rfl,_⟩:=h.head.form;exact⟨(a',cap'),rfl,trivial,h⟩
end
end Gx
/-
  DERIVED: THE SHELF's CONTRACTS AT THIS DUMP,IN PLAIN WORDS (tools/lay-plain.mjs out of 'TryzShelf.lean',which tools/lay-shelf.mjs wrote): THE SAME DECLARATIONS UNDER THE SAME NAMES: 'import','namespace','open','def','theorem' AND NOTHING ELSE: no command of the shelf's: FOR A HAND-IN. Each laying: the table of numbers ('.._ren') and one theorem,a field a fact of the dump's own or the kernel's comparison;each contract: ONE APPLICATION.
-/
namespace Go.Proofs
open Go.Shelf
def Tryz.lays105_ren:Go.Shelf.Ren:=⟨λ |105=>78|212=>125|99=>126|165=>127|166=>122|170=>128|169=>124|263=>162|264=>163|206=>164|240=>160|241=>165|276=>211|277=>213|n=>n,λ |9=>9|3=>3|4=>4|20=>20|0=>0|46=>195|109=>196|5=>5|72=>189|76=>192|51=>143|146=>229|53=>231|148=>232|70=>187|37=>124|75=>191|127=>228|164=>258|80=>194|n=>n,λ |n=>n⟩
theorem Tryz.lays105:Go.Proofs.Lays.n105 Tryz.prog Tryz.lays105_ren:={
  mixed:=by kernel_rfl
  f99:=Tryz.func126.trans (congrArg some (by kernel_rfl))
  f105:=Tryz.func78.trans (congrArg some (by kernel_rfl))
  f165:=Tryz.func127.trans (congrArg some (by kernel_rfl))
  f166:=Tryz.func122.trans (congrArg some (by kernel_rfl))
  f169:=Tryz.func124.trans (congrArg some (by kernel_rfl))
  f170:=Tryz.func128.trans (congrArg some (by kernel_rfl))
  f206:=Tryz.func164.trans (congrArg some (by kernel_rfl))
  f212:=Tryz.func125.trans (congrArg some (by kernel_rfl))
  f240:=Tryz.func160.trans (congrArg some (by kernel_rfl))
  f241:=Tryz.func165.trans (congrArg some (by kernel_rfl))
  f263:=Tryz.func162.trans (congrArg some (by kernel_rfl))
  f264:=Tryz.func163.trans (congrArg some (by kernel_rfl))
  f276:=Tryz.func211.trans (congrArg some (by kernel_rfl))
  f277:=Tryz.func213.trans (congrArg some (by kernel_rfl))
  t0:=Tryz.underlying0
  a0:=Tryz.isAgg0
  z0:=Tryz.sizeOf0
  v0:=Tryz.zeroValue0
  t3:=Tryz.underlying3
  a3:=Tryz.isAgg3
  z3:=Tryz.sizeOf3
  v3:=Tryz.zeroValue3
  t4:=Tryz.underlying4
  a4:=Tryz.isAgg4
  z4:=Tryz.sizeOf4
  v4:=Tryz.zeroValue4
  t5:=Tryz.underlying5
  a5:=Tryz.isAgg5
  z5:=Tryz.sizeOf5
  v5:=Tryz.zeroValue5
  t9:=Tryz.underlying9
  a9:=Tryz.isAgg9
  z9:=Tryz.sizeOf9
  v9:=Tryz.zeroValue9
  t20:=Tryz.underlying20
  a20:=Tryz.isAgg20
  z20:=Tryz.sizeOf20
  v20:=Tryz.zeroValue20
  t37:=Tryz.underlying124
  a37:=Tryz.isAgg124
  z37:=Tryz.sizeOf124
  v37:=Tryz.zeroValue124
  t46:=Tryz.underlying195
  a46:=Tryz.isAgg195
  z46:=Tryz.sizeOf195
  v46:=Tryz.zeroValue195
  t51:=Tryz.underlying143
  a51:=Tryz.isAgg143
  z51:=Tryz.sizeOf143
  v51:=Tryz.zeroValue143
  t53:=Tryz.underlying231
  a53:=Tryz.isAgg231
  z53:=Tryz.sizeOf231
  v53:=Tryz.zeroValue231
  t70:=Tryz.underlying187
  a70:=Tryz.isAgg187
  z70:=Tryz.sizeOf187
  v70:=Tryz.zeroValue187
  t72:=Tryz.underlying189
  a72:=Tryz.isAgg189
  z72:=Tryz.sizeOf189
  v72:=Tryz.zeroValue189
  t75:=Tryz.underlying191
  a75:=Tryz.isAgg191
  z75:=Tryz.sizeOf191
  v75:=Tryz.zeroValue191
  t76:=Tryz.underlying192
  a76:=Tryz.isAgg192
  z76:=Tryz.sizeOf192
  v76:=Tryz.zeroValue192
  t109:=Tryz.underlying196
  a109:=Tryz.isAgg196
  z109:=Tryz.sizeOf196
  v109:=Tryz.zeroValue196
  t127:=Tryz.underlying228
  a127:=Tryz.isAgg228
  z127:=Tryz.sizeOf228
  v127:=Tryz.zeroValue228
  t146:=Tryz.underlying229
  a146:=Tryz.isAgg229
  z146:=Tryz.sizeOf229
  v146:=Tryz.zeroValue229
  t148:=Tryz.underlying232
  a148:=Tryz.isAgg232
  z148:=Tryz.sizeOf232
  v148:=Tryz.zeroValue232
  t164:=Tryz.underlying258
  a164:=Tryz.isAgg258
  z164:=Tryz.sizeOf258
  v164:=Tryz.zeroValue258}
theorem Tryz.Builder_Extra_105:Builder.Extra Tryz.prog Tryz.lays105_ren:={
  sizeBuilder:=by kernel_rfl
  liesBuilder:=by kernel_rfl
  t5:=Tryz.underlying5
  a5:=Tryz.isAgg5
  z5:=Tryz.sizeOf5
  v5:=Tryz.zeroValue5
  infoByte:=by kernel_rfl
  cellsByte:=by kernel_rfl
  sizeByte:=by kernel_rfl
  neB5:=by decide}
open Go.RowKit Go.Lib in
theorem Tryz.strings_Repeat(s:ByteArray)(c:Nat)(w:World)(hc:c<=9223372036854775807)(hlen:s.size*c<=140737488355328) :
    Calls Tryz.prog 78 #[.string s,.int .i64 c] w λe w'=>e=.returned (.string ⟨(Lib.repeatL s.data.toList c).toArray⟩)/\Below w.heap.size w w':=Any.strings_Repeat Tryz.lays105 Tryz.Builder_Extra_105 s c w hc hlen
end Go.Proofs

namespace Go.Proofs
open Go Go.RowKit Gx
attribute [local irreducible] Go.Calls Gx.S Gx.O Gx.D Gx.OpP Gx.OpQ Gx.OpH
set_option maxRecDepth 20000
instance:TFd Tryz.prog 189 0 0 187:=⟨by kernel_rfl⟩
instance:TSz Tryz.prog 187 1 false:=⟨by kernel_rfl⟩
theorem QnP:tsz Tryz.prog 189=some (2,true):=by kernel_rfl
theorem Qcj:Qgl Tryz.prog 187 189:=Qia Tryz.underlying187 QnP (by decide)
theorem Qm6:isNE Tryz.prog 211:=⟨_,Tryz.func211,rfl,rfl,by kernel_rfl,by kernel_rfl⟩
theorem QkW:QC Tryz.prog 160=true:=by kernel_rfl
instance:TFd Tryz.prog 189 1 1 124:=⟨by kernel_rfl⟩
theorem Qoy(w:World)(b:Nat)(v:Value)(hw:HS w (fps [.blk b 189 2 [.pointer none,v]]) [.blk b 189 2 [.pointer none,v]] w):CE 160 #[.pointer (some ⟨b,0,none⟩)] w (fps [.blk b 189 2 [.pointer none,v]]) (λg:Unit=>.tuple #[]) (λg=>True) λg=>[.blk b 189 2 [.pointer (some ⟨b,0,none⟩),v]]:=by
 refine eW1 Tryz.func160 Tryz.ntmps160 hw ?_
 refine aU6 ?_
 refine o_p (QeW rfl rfl rfl Qcj) rfl (aU ?_)
 refine sCd rfl (λh1=>?_) λh1=>?_
 ·refine aU3 ?_
  refine o_q (QgJ rfl rfl Qcj Tryz.underlying258 aPk (by decide)) rfl (o_q (Qhl rfl rfl Qm6) rfl (o_q (QeO rfl rfl Tryz.underlying258 Qcj aPk (by kernel_rfl)) rfl (aU4 ?_)))
  exact QcM rfl (λw' h'=>⟨(),rfl,trivial,h'.ent aEt⟩)
 exfalso;first|omega|(simp at h1;done)|(simp_all;done)
theorem Qoo(w:World)(b:Nat)(v:Value)(hw:HS w (fps [.blk b 189 2 [.pointer (some ⟨b,0,none⟩),v]]) [.blk b 189 2 [.pointer (some ⟨b,0,none⟩),v]] w):CE 160 #[.pointer (some ⟨b,0,none⟩)] w (fps [.blk b 189 2 [.pointer (some ⟨b,0,none⟩),v]]) (λg:Unit=>.tuple #[]) (λg=>True) λg=>[.blk b 189 2 [.pointer (some ⟨b,0,none⟩),v]]:=by
 refine eW1 Tryz.func160 Tryz.ntmps160 hw ?_
 refine aU6 ?_
 refine o_p (QeW rfl rfl rfl Qcj) rfl (aU ?_)
 refine sCd rfl (λh1=>?_) λh1=>?_
 ·exfalso;first|omega|(simp at h1;done)|(simp_all;done)
 refine aU7 ?_
 refine o_p (QdR rfl rfl rfl Qcj) rfl (aU ?_)
 refine sCd rfl (λh2=>?_) λh2=>?_
 ·exfalso;first|omega|(simp at h2;done)|(simp_all;done)
 refine aU ?_
 exact QcM rfl (λw' h'=>⟨(),rfl,trivial,h'.ent aEt⟩)
theorem Qov(w:World)(b:Nat)(a:Option Addr)(n cap:Nat)(xs:List Value)(s:List UInt8)(hw:HS w (fps [.blk b 189 2 [.pointer none,.slice a n cap],.own (.slice a n cap) 5 1 n xs]) [.blk b 189 2 [.pointer none,.slice a n cap],.own (.slice a n cap) 5 1 n xs] w)(hl:n+s.length<=1000000000):CE 122 #[.pointer (some ⟨b,0,none⟩),.string (bs s)] w (fps [.blk b 189 2 [.pointer none,.slice a n cap],.own (.slice a n cap) 5 1 n xs]) (λg:Option Addr×Nat=>.tuple #[.int .i64 (s.length:Int),.nilIface]) (λg=>True) λg=>[.blk b 189 2 [.pointer (some ⟨b,0,none⟩),.slice g.1 (n+s.length) g.2],.own (.slice g.1 (n+s.length) g.2) 5 1 (n+s.length) (xs++s.map bv)]:=by
 refine eW2 Tryz.func122 Tryz.ntmps122 hw ?_
 refine aU8 ?_
 refine o_h (Q1 (Cs:=[.blk b 189 2 [.pointer none,.slice a n cap]]) rfl QkW rfl aPs (λw1 h1 hf=>Qoy w1 b _ hf)) rfl (λ_ _=>aU9 ?_)
 refine o_h (QbB rfl rfl rfl QD Tryz.underlying9 QbR rfl aPk om (by simp only[maxLen];omega)) rfl (λb1 _=>aU7 ?_)
 refine o_p (Qr rfl rfl Tryz.underlying9) rfl (aU3 ?_)
 exact Qg (rs:=[.tmp 4,.tmp 5]) rfl (.tmp rfl (.tmp rfl (.nil))) (λw' h'=>⟨b1,rfl,trivial,h'.ent aEt⟩)
theorem QmN(w:World)(b:Nat)(a:Option Addr)(n cap:Nat)(xs:List Value)(s:List UInt8)(hw:HS w (fps [.blk b 189 2 [.pointer (some ⟨b,0,none⟩),.slice a n cap],.own (.slice a n cap) 5 1 n xs]) [.blk b 189 2 [.pointer (some ⟨b,0,none⟩),.slice a n cap],.own (.slice a n cap) 5 1 n xs] w)(hl:n+s.length<=1000000000):CE 122 #[.pointer (some ⟨b,0,none⟩),.string (bs s)] w (fps [.blk b 189 2 [.pointer (some ⟨b,0,none⟩),.slice a n cap],.own (.slice a n cap) 5 1 n xs]) (λg:Option Addr×Nat=>.tuple #[.int .i64 (s.length:Int),.nilIface]) (λg=>True) λg=>[.blk b 189 2 [.pointer (some ⟨b,0,none⟩),.slice g.1 (n+s.length) g.2],.own (.slice g.1 (n+s.length) g.2) 5 1 (n+s.length) (xs++s.map bv)]:=by
 refine eW2 Tryz.func122 Tryz.ntmps122 hw ?_
 refine aU8 ?_
 refine o_h (Q1 (Cs:=[.blk b 189 2 [.pointer (some ⟨b,0,none⟩),.slice a n cap]]) rfl QkW rfl aPs (λw1 h1 hf=>Qoo w1 b _ hf)) rfl (λ_ _=>aU9 ?_)
 refine o_h (QbB rfl rfl rfl QD Tryz.underlying9 QbR rfl aPk om (by simp only[maxLen];omega)) rfl (λb1 _=>aU7 ?_)
 refine o_p (Qr rfl rfl Tryz.underlying9) rfl (aU3 ?_)
 exact Qg (rs:=[.tmp 4,.tmp 5]) rfl (.tmp rfl (.tmp rfl (.nil))) (λw' h'=>⟨b1,rfl,trivial,h'.ent aEt⟩)
theorem d124(w:World)(b q cap:Nat)(l:List UInt8)(hw:HS w (fps [.blk b 189 2 [.pointer (some ⟨b,0,none⟩),.slice (some ⟨q,0,none⟩) l.length cap],.own (.slice (some ⟨q,0,none⟩) l.length cap) 5 1 l.length (l.map bv)]) [.blk b 189 2 [.pointer (some ⟨b,0,none⟩),.slice (some ⟨q,0,none⟩) l.length cap],.own (.slice (some ⟨q,0,none⟩) l.length cap) 5 1 l.length (l.map bv)] w)(h0:l≠[])(hcap:l.length<=cap):CE 124 #[.pointer (some ⟨b,0,none⟩)] w (fps [.blk b 189 2 [.pointer (some ⟨b,0,none⟩),.slice (some ⟨q,0,none⟩) l.length cap],.own (.slice (some ⟨q,0,none⟩) l.length cap) 5 1 l.length (l.map bv)]) (λg:Unit=>.string (bs l)) (λg=>True) λg=>[]:=by
 have hl0:0<l.length:=by cases l with|nil=>exact absurd rfl h0|cons=>simp
 refine eW1 Tryz.func124 Tryz.ntmps124 hw ?_
 refine aU5 ?_
 refine Qq [10] mixed ?_
 refine dP 0 ?_
 refine dP 1 ?_
 refine dFa 2 ?_
 refine dLd 3 [[4]] ?_
 refine dV 4 rfl (Qgu rfl rfl om) (dP 5 ?_)
 refine dP 6 ?_
 refine dFa 7 ?_
 refine dLd 8 [[9]] ?_
 refine dV 9 rfl (Qx rfl rfl Tryz.underlying124) (dH 10 rfl (Qd8 rfl rfl rfl Tryz.underlying228 (by kernel_rfl) h0 aPk) (λ_ _=>dTu [] ?_))
 refine dP 11 ?_
 refine dNi ?_
 exact rT rfl rfl (λw' h'=>⟨(),rfl,trivial,h'.nil⟩)
theorem c124(w:World)(b:Nat)(a:Option Addr)(cap:Nat)(l:List UInt8)(hw:HS w (fps [.blk b 189 2 [.pointer (some ⟨b,0,none⟩),.slice a l.length cap],.own (.slice a l.length cap) 5 1 l.length (l.map bv)]) [.blk b 189 2 [.pointer (some ⟨b,0,none⟩),.slice a l.length cap],.own (.slice a l.length cap) 5 1 l.length (l.map bv)] w)(h0:l≠[]):CE 124 #[.pointer (some ⟨b,0,none⟩)] w (fps [.blk b 189 2 [.pointer (some ⟨b,0,none⟩),.slice a l.length cap],.own (.slice a l.length cap) 5 1 l.length (l.map bv)]) (λg:Unit=>.string (bs l)) (λg=>True) λg=>[]:=by
  have hl:0<l.length:=by cases l with|nil=>exact absurd rfl h0|cons=>simp
  obtain⟨q,rfl,_,h1,_,_,hb⟩:=HS.own_blk hl (As':=[.blk b 189 2 [.pointer (some ⟨b,0,none⟩),.slice a l.length cap]]) aPk hw;exact d124 w b q cap l hw h0 h1
theorem c78(w:World)(c:Nat)(hc:c<=100000):CR 78 #[.string (bs [0]),.int .i64 (c:Int)] w (.string (bs (List.replicate c 0))):=by
  have h:=Tryz.strings_Repeat (bs [0]) c w om (by simp;omega)
  have e:Lib.repeatL (bs [0]).data.toList c=List.replicate c 0:=by
    have:=Lib.repeatL_replicate 0 1 c
    simpa using this
  rw[e]at h;exact h
end Go.Proofs
namespace Gx
open Go Go.RowKit
def nmB(u:List Int):List UInt8:=u.flatMap le4
theorem XZ(u:List Int):(nmB u).length=4*u.length:=by
 unfold nmB
 induction u with
 | nil=>rfl
 | cons x u ih=>rw[List.flatMap_cons,List.length_append,ih,List.length_cons];show 4+_=_;omega
theorem QjS{u:List Int}{k:Nat}(h:k<u.length):nmB (u.take (k+1))=nmB (u.take k)++le4 (u.getD k 0):=by
 unfold nmB;rw[QX (d:=0) h,List.flatMap_append];simp
def QmF:List UInt8:=[83,68,83,72]
def hd0(nx n:Int):List UInt8:=QmF++nmB [nx,n]
def Qgx(nx n:Int):List UInt8:=hd0 nx n++nmB [sumS (hd0 nx n)]
def Zn(m:Int):Nat:=(upT m-m).toNat
def XH(x:SItm):Int:=16+(x.by_.length:Int)
def Qky(l:List SItm)(k:Nat):List UInt8:=nmB [hashS (nth l k).by_,(nth l k).id,(plsI (l.take k)).2,XH (nth l k)]++(nth l k).by_++List.replicate (Zn (XH (nth l k))) 0
def halfK(nx:Int)(l:List SItm)(k:Nat):List UInt8:=Qgx nx (plsI l).2++(List.range k).flatMap (Qky l)
def halfS(nx:Int)(l:List SItm):List UInt8:=halfK nx l l.length
theorem Qjm(l:List SItm)(k:Nat):((Qky l k).length:Int)=upT (16+((nth l k).by_.length:Int)):=by
 unfold Qky Zn XH;rw[List.length_append,List.length_append,XZ,List.length_replicate];unfold upT;simp only[List.length_cons,List.length_nil];omega
theorem Qeh(nx:Int)(l:List SItm)(k:Nat):halfK nx l (k+1)=halfK nx l k++Qky l k:=by
 unfold halfK;rw[List.range_succ,List.flatMap_append,<-List.append_assoc];simp
theorem Qcw(nx:Int)(l:List SItm):∀k,k<=l.length->((halfK nx l k).length:Int)=(plsI (l.take k)).2
 | 0,_=>rfl
 | k+1,h=>by
  rw[Qeh,List.length_append,ZP om];have h1:=Qcw nx l k om;have h2:=Qjm l k;simp only[];omega
theorem Qcu(nx:Int)(l:List SItm):((halfS nx l).length:Int)=(plsI l).2:=by
 have:=Qcw nx l l.length (Nat.le_refl _)
 rwa[List.take_length]at this
theorem Qgr{l:List SItm}:∀n,n<=l.length->∀k,k<n->(plsI (l.take n)).1.getD k 0=(plsI (l.take k)).2
 | 0,_,k,hk=>absurd hk (Nat.not_lt_zero _)
 | n+1,hn,k,hk=>by
  rw[ZP om];have hl:=Qde n l om;rcases Nat.lt_or_ge k n with h|h
  ·rw[List.getD_eq_getElem?_getD,List.getElem?_append_left om,<-List.getD_eq_getElem?_getD];exact Qgr n om k h
  ·obtain rfl:k=n:=by omega
   rw[List.getD_eq_getElem?_getD,List.getElem?_append_right om,hl];simp
theorem Qly{l:List SItm}{k:Nat}(h:k<l.length):(plsI l).1.getD k 0=(plsI (l.take k)).2:=by
 have:=Qgr (l:=l) l.length (Nat.le_refl _) k h
 rwa[List.take_length]at this
def Qcf(nx:Int)(l:List SItm):List UInt8:=halfS nx l++List.replicate (8192-(halfS nx l).length) 0++halfS nx l
theorem Qgo{l:List SItm}(hb:∀x∈l,x.by_.length<=100000):∀n,n<=l.length->∀k,k<=n->(plsI (l.take k)).2<=(plsI (l.take n)).2
 | 0,_,k,hk=>by
  obtain rfl:k=0:=by omega
  exact Int.le_refl _
 | n+1,hn,k,hk=>by
  rcases Nat.lt_or_ge k (n+1)with h|h
  ·have h1:=Qgo hb n om k om;rw[ZP (show n<l.length by omega)];unfold upT;simp only[];omega
  ·obtain rfl:k=n+1:=by omega
   exact Int.le_refl _
end Gx
namespace Go.Proofs
open Go Go.RowKit Gx
attribute [local irreducible] Go.Calls Gx.S Gx.O Gx.D Gx.OpP Gx.OpQ Gx.OpH
set_option maxRecDepth 20000
theorem QoB:QC Tryz.prog 98=true:=by kernel_rfl
theorem Qe7:QC Tryz.prog 54=true:=by kernel_rfl
instance:TFn Tryz.prog 54:=⟨Qe7⟩
theorem Qn5:Q8 Tryz.prog 189=some [.pointer none,.slice none 0 0]:=by kernel_rfl
instance:TFn Tryz.prog 123:=⟨by kernel_rfl⟩
theorem Qhb:QC Tryz.prog 122=true:=by kernel_rfl
theorem Qle:QC Tryz.prog 46=true:=by kernel_rfl
instance:TFn Tryz.prog 78:=⟨by kernel_rfl⟩
theorem Qoc:QC Tryz.prog 124=true:=by kernel_rfl
theorem c54(w:World)(ua:Option Addr)(uc:Nat)(u:List Int)(hu:Vl w ua (u.map nv))(hum:u.length<=1000)(hur:∀x∈u,0<=x/\x<4294967296):CR 54 #[.slice ua u.length uc] w (.string (bs (nmB u))):=by
 refine eN1 Tryz.func54 Tryz.ntmps54 ?_
 refine Qmj ?_
 refine Qp (α:=Nat×Option Addr×Nat) [3,5,8,9,10,11,12,13,14,15,16] (λy=>[(8,.int .i64 (y.1:Int)),(3,.slice y.2.1 (nmB (u.take y.1)).length y.2.2)]) (λy=>HS w [] [.own (.slice y.2.1 (nmB (u.take y.1)).length y.2.2) 5 1 ((nmB (u.take y.1)).length) (((nmB (u.take y.1))).map bv)]) (λy=>y.1<=u.length) (λy=>u.length-y.1) (0,none,0) (Nat.zero_le _) aSx (λw h=>(h.own_nil 5 1).ent aEt) (λ⟨k,ga⟩hk1=>?_)
 dsimp only
 simp only[]at hk1
 refine aU5 ?_
 refine sCd rfl (λh1=>?_) λh1=>?_
 ·have hk:k<u.length:=by omega
  have hst:=QjS hk
  have hnl:=XZ (u.take k)
  rw[List.length_take]at hnl
  have hr9:=hur _ (Yb (d:=0) hk)
  refine aU5 ?_
  refine o_p (Qa rfl rfl rfl QU (k) om om (hu.some (by rw[List.length_map];omega))) rfl (o_q (Qb rfl rfl Q3 ((hu.rd (Qfr hk)))) rfl (aU5 ?_))
  refine o_p (Qm rfl rfl X2 Xt) rfl (Qn (show _=Value.int .u32 (u.getD k 0)from by rw[QcU,Int.emod_eq_of_lt om om]) (o_h (Q1 (Cs:=[.own (.slice ga.1 (nmB (u.take k)).length ga.2) 5 1 ((nmB (u.take k)).length) (((nmB (u.take k))).map bv)]) rfl QoB rfl aPs (λw1 h1 hf=>c98 w1 ga.1 ga.2 (nmB (u.take k)) (u.getD k 0) hf om om)) rfl (λgn _=>aT5 ?_)))
  refine aU2 ?_
  exact QH (k+1,gn) (by(try simp only[]);omega) (by(try simp only[]);omega) (by dsimp only;rw[hst];exact aSx) (λw h=>by dsimp only;rw[hst];exact h.ent aEt)
 obtain rfl:k=u.length:=om
 rw[List.take_length]
 refine Qk rfl ?_
 refine aU3 ?_
 refine o_q (Z0 rfl rfl Tryz.underlying124 Tryz.underlying9 Tryz.underlying5 aPk (Qdn _)) rfl (aU2 ?_)
 exact rV (h:=by rw[Qca];rfl)
set_option maxHeartbeats 2000000 in
theorem c77(w:World)(nx:Int)(a:Option Addr)(cap:Nat)(l:List SItm)(hs:Rw SItm.vals 2 w [] a l)(hm:l.length<=100000)(hb:∀x∈l,x.by_.length<=100000)(hst0:(stoE nx l).2=0):CR 77 #[.agg #[.int .i64 nx,.slice a l.length cap]] w (.string (bs (halfS nx l))):=by
 obtain⟨hnx,hl60,hit9,hpl9⟩:=Qfx hst0
 have hple:=Qmw hb
 have hsu:=Qmz (hd0 nx (plsI l).2)
 have hhl:=Qcu nx l
 have hd0l:(hd0 nx (plsI l).2).length=12:=rfl
 have hhsl:(Qgx nx (plsI l).2).length=16:=rfl
 refine eN1 Tryz.func77 Tryz.ntmps77 ?_
 refine aU2 ?_
 refine oBx λb1 _=>?_
 refine aU6 ?_
 refine oCh rfl (λw1 h1=>c70 w1 a cap l (hs.later h1) hm hb) (λgp _=>Y0 ?_)
 refine o_h (Qc (cs:=[_,_]) rfl rfl QU YX rfl rfl rfl) rfl (λb2 _=>?_)
 refine oCq rfl (λw1 h1=>c54 w1 _ _ [nx,(plsI l).2] (h1.vl_blk aPk) (by simp) (by intro x hx;simp only[List.mem_cons,List.mem_nil_iff,or_false]at hx;rcases hx with rfl|rfl<;>omega)) (o_p (Xf rfl rfl rfl (by(try simp only[List.length_append,List.length_cons,List.length_nil,List.length_replicate,List.length_take,List.length_drop,XZ,List.length_cons]);omega)) rfl (Qn (show _=Value.string (bs (hd0 nx (plsI l).2))from rfl) (aU4 ?_)))
 refine oAl (λb3 _=>?_) Qn5
 refine Yf (C':=HS w [] [.own (.slice none 0 0) 5 1 0 [],.blk b3 189 2 [.pointer none,.slice none 0 0],.own (.slice gp.1 l.length gp.2) 3 1 l.length ((plsI l).1.map nv),.blk b1 63 2 [.int .i64 nx,.slice a l.length cap]]) (λw h=>(h.own_nil 5 1).ent aEt) (aU5 ?_)
 refine oCq rfl (λw1 h1=>c123 w1 (hd0 nx (plsI l).2) om) (o_h (Qc (cs:=[_]) rfl rfl QU YX rfl rfl rfl) rfl (λb4 _=>?_))
 refine oCq rfl (λw1 h1=>c54 w1 _ _ [sumS (hd0 nx (plsI l).2)] (h1.vl_blk aPk) (by simp) (by intro x hx;simp only[List.mem_cons,List.mem_nil_iff,or_false]at hx;rcases hx with rfl<;>omega)) (o_p (Xf rfl rfl rfl (by(try simp only[List.length_append,List.length_cons,List.length_nil,List.length_replicate,List.length_take,List.length_drop,XZ,List.length_cons]);omega)) rfl (Qn (show _=Value.string (bs (Qgx nx (plsI l).2))from rfl) (o_h (Q1 (Cs:=[.blk b3 189 2 [.pointer none,.slice none 0 0],.own (.slice none 0 0) 5 1 0 []]) rfl Qhb rfl aPs (λw1 h1 hf=>Qov w1 b3 none 0 0 [] (Qgx nx (plsI l).2) hf om)) rfl (λg1 _=>YO ?_))))
 refine Qi (L':=[(2,_),(3,_),(6,_),(30,_),(31,_),(32,_)]) aSx (λ_ h=>h) ?_
 refine Qp (α:=Nat×Option Addr×Nat) [7,8,9,32,33,34,35,36,37,38,39,40,41,42,43,44,45,46,47,48,49,50,51,52,53,54,55,56,57,58,59,60,61,62,63] (λy=>[(32,.int .i64 (y.1:Int))]) (λy=>HS w [] [.blk b3 189 2 [.pointer (some ⟨b3,0,none⟩),.slice y.2.1 (halfK nx l y.1).length y.2.2],.own (.slice y.2.1 (halfK nx l y.1).length y.2.2) 5 1 (halfK nx l y.1).length ((halfK nx l y.1).map bv),.own (.slice gp.1 l.length gp.2) 3 1 l.length ((plsI l).1.map nv),.blk b1 63 2 [.int .i64 nx,.slice a l.length cap]]) (λy=>y.1<=l.length) (λy=>l.length-y.1) (0,g1.1,g1.2) (Nat.zero_le _) aSx (λw h=>by dsimp only;rw[show(halfK nx l 0)=Qgx nx (plsI l).2 from List.append_nil _];exact h.ent aEt) (λ⟨k,ga⟩hk1=>?_)
 dsimp only
 simp only[]at hk1
 refine aU5 ?_
 refine sCd rfl (λh5=>?_) λh5=>?_
 ·have hk:k<l.length:=by omega
  have hrg:=(Qfk (hit9 k hk)).1
  have hbk:(nth l k).by_.length<=100000:=hb _ (Yb hk)
  have hpk:=QfP hb k om
  have hpm:=Qgo hb l.length (Nat.le_refl _) k om
  rw[List.take_length]at hpm
  have hhk:=Qcw nx l k om
  have hha:=Qgv (nth l k).by_
  have hup:upT (XH (nth l k))-XH (nth l k)=((Zn (XH (nth l k)):Nat):Int)/\Zn (XH (nth l k))<=16:=by unfold Zn upT XH;omega
  have hil:XH (nth l k)=16+((nth l k).by_.length:Int):=rfl
  have hpl5:=QaL l
  have hsc:halfK nx l (k+1)=((halfK nx l k)++(nmB [hashS (nth l k).by_,(nth l k).id,(plsI (l.take k)).2,XH (nth l k)]++(nth l k).by_))++(List.replicate (Zn (XH (nth l k))) (0:UInt8)):=by rw[Qeh];unfold Qky;rw[<-List.append_assoc]
  refine ZD (λw h=>Vl.some (HS.vl_own (a:=gp.1) (t:=3) h aPk) (by rw[List.length_map];omega)) λhsm=>aU6 ?_
  refine o_p (Qa rfl rfl rfl Yd (k) om om (Rw.some hs om)) rfl (o_q (Qt _ rfl rfl YZ rfl (Rw.rd hs hk)) rfl (oAl (λb6 _=>?_) XJ))
  refine aU7 ?_
  refine o_p (Qr rfl rfl Tryz.underlying9) rfl (aT ?_)
  refine Qn (show _=Value.int .i64 (XH (nth l k))from rfl) (aU3 ?_)
  refine Qq [15] mixed ?_
  refine dFa 0 ?_
  refine dLd 1 [[11,2]] ?_
  refine dQ 2 [[11]] rfl (Qe rfl Qle rfl (λw1 h1=>c46 w1 (nth l k).by_ om)) (dFa 3 ?_)
  refine dLd 4 [[11,10]] ?_
  refine dP 5 ?_
  refine dP 6 ?_
  refine dV 7 rfl (Qa rfl rfl rfl QU (k) om om hsm) (dQ 8 [[11,10]] rfl (Qv rfl rfl Q3 (λw h=>(HS.vl_own (a:=gp.1) (t:=3) h aPk).rd (Qfr (k:=k) om))) (Qy (show _=Value.int .i64 (plsI (l.take k)).2 from by rw[Qly hk]) (dP 9 ?_)))
  refine dFa 12 ?_
  refine dLd 13 [[14]] ?_
  refine dH 10 rfl (Qc (cs:=[_,_,_,_]) rfl rfl QU YX rfl rfl rfl) (λb7 _=>dBa ?_)
  refine dQ 11 [[]] rfl (Qe rfl Qe7 rfl (λw1 h1=>c54 w1 _ _ [hashS (nth l k).by_,(nth l k).id,(plsI (l.take k)).2,XH (nth l k)] (h1.vl_blk aPk) (by simp) (by intro x hx;simp only[List.mem_cons,List.mem_nil_iff,or_false]at hx;rcases hx with rfl|rfl|rfl|rfl<;>omega))) (dV 14 rfl (Xf rfl rfl rfl (by(try simp only[List.length_append,List.length_cons,List.length_nil,List.length_replicate,List.length_take,List.length_drop,XZ,List.length_cons]);omega)) (Qy (show _=Value.string (bs (nmB [hashS (nth l k).by_,(nth l k).id,(plsI (l.take k)).2,XH (nth l k)]++(nth l k).by_))from rfl) (dH 15 rfl (Q1 (Cs:=[.blk b3 189 2 [.pointer (some ⟨b3,0,none⟩),.slice ga.1 (halfK nx l k).length ga.2],.own (.slice ga.1 (halfK nx l k).length ga.2) 5 1 (halfK nx l k).length ((halfK nx l k).map bv)]) rfl Qhb rfl aPs (λw1 h1 hf=>QmN w1 b3 ga.1 (halfK nx l k).length ga.2 ((halfK nx l k).map bv) (nmB [hashS (nth l k).by_,(nth l k).id,(plsI (l.take k)).2,XH (nth l k)]++(nth l k).by_) hf (by simp only[List.length_append,List.length_replicate,XZ,List.length_cons,List.length_nil];omega))) (λg2 _=>dTu [] ?_))))
  refine dNi ?_
  refine Qi (L':=[(2,_),(3,_),(6,_),(9,_),(30,_),(31,_),(32,_)]) aSx (λ_ h=>h) ?_
  refine aU2 ?_
  refine Yf (C':=HS w [] [.blk b3 189 2 [.pointer (some ⟨b3,0,none⟩),.slice g2.1 ((halfK nx l k)++(nmB [hashS (nth l k).by_,(nth l k).id,(plsI (l.take k)).2,XH (nth l k)]++(nth l k).by_)).length g2.2],.own (.slice g2.1 ((halfK nx l k)++(nmB [hashS (nth l k).by_,(nth l k).id,(plsI (l.take k)).2,XH (nth l k)]++(nth l k).by_)).length g2.2) 5 1 ((halfK nx l k)++(nmB [hashS (nth l k).by_,(nth l k).id,(plsI (l.take k)).2,XH (nth l k)]++(nth l k).by_)).length (((halfK nx l k)++(nmB [hashS (nth l k).by_,(nth l k).id,(plsI (l.take k)).2,XH (nth l k)]++(nth l k).by_)).map bv),.blk b6 72 2 [.int .i64 (nth l k).id,.string (bs (nth l k).by_)],.own (.slice gp.1 l.length gp.2) 3 1 l.length ((plsI l).1.map nv),.blk b1 63 2 [.int .i64 nx,.slice a l.length cap]]) (λw h=>by rw[List.map_append (l₁:=(halfK nx l k)),@List.length_append _ (halfK nx l k) (nmB [hashS (nth l k).by_,(nth l k).id,(plsI (l.take k)).2,XH (nth l k)]++(nth l k).by_)];exact h.ent aEt) (oCq rfl (λw1 h1=>QlP w1 (XH (nth l k)) om) (aT2 ?_))
  refine Qn (show _=Value.int .i64 ((Zn (XH (nth l k)):Nat):Int)from by rw[hup.1]) (oCq rfl (λw1 h1=>c78 w1 (Zn (XH (nth l k))) om) (o_h (Q1 (Cs:=[.blk b3 189 2 [.pointer (some ⟨b3,0,none⟩),.slice g2.1 ((halfK nx l k)++(nmB [hashS (nth l k).by_,(nth l k).id,(plsI (l.take k)).2,XH (nth l k)]++(nth l k).by_)).length g2.2],.own (.slice g2.1 ((halfK nx l k)++(nmB [hashS (nth l k).by_,(nth l k).id,(plsI (l.take k)).2,XH (nth l k)]++(nth l k).by_)).length g2.2) 5 1 ((halfK nx l k)++(nmB [hashS (nth l k).by_,(nth l k).id,(plsI (l.take k)).2,XH (nth l k)]++(nth l k).by_)).length (((halfK nx l k)++(nmB [hashS (nth l k).by_,(nth l k).id,(plsI (l.take k)).2,XH (nth l k)]++(nth l k).by_)).map bv)]) rfl Qhb rfl aPs (λw1 h1 hf=>QmN w1 b3 g2.1 ((halfK nx l k)++(nmB [hashS (nth l k).by_,(nth l k).id,(plsI (l.take k)).2,XH (nth l k)]++(nth l k).by_)).length g2.2 (((halfK nx l k)++(nmB [hashS (nth l k).by_,(nth l k).id,(plsI (l.take k)).2,XH (nth l k)]++(nth l k).by_)).map bv) (List.replicate (Zn (XH (nth l k))) (0:UInt8)) hf (by simp only[List.length_append,List.length_replicate,XZ,List.length_cons,List.length_nil];omega))) rfl (λg3 _=>Yf (C':=HS w [] [.blk b3 189 2 [.pointer (some ⟨b3,0,none⟩),.slice g3.1 (((halfK nx l k)++(nmB [hashS (nth l k).by_,(nth l k).id,(plsI (l.take k)).2,XH (nth l k)]++(nth l k).by_))++(List.replicate (Zn (XH (nth l k))) (0:UInt8))).length g3.2],.own (.slice g3.1 (((halfK nx l k)++(nmB [hashS (nth l k).by_,(nth l k).id,(plsI (l.take k)).2,XH (nth l k)]++(nth l k).by_))++(List.replicate (Zn (XH (nth l k))) (0:UInt8))).length g3.2) 5 1 (((halfK nx l k)++(nmB [hashS (nth l k).by_,(nth l k).id,(plsI (l.take k)).2,XH (nth l k)]++(nth l k).by_))++(List.replicate (Zn (XH (nth l k))) (0:UInt8))).length ((((halfK nx l k)++(nmB [hashS (nth l k).by_,(nth l k).id,(plsI (l.take k)).2,XH (nth l k)]++(nth l k).by_))++(List.replicate (Zn (XH (nth l k))) (0:UInt8))).map bv),.own (.slice gp.1 l.length gp.2) 3 1 l.length ((plsI l).1.map nv),.blk b1 63 2 [.int .i64 nx,.slice a l.length cap]]) (λw h=>by rw[List.map_append (l₁:=((halfK nx l k)++(nmB [hashS (nth l k).by_,(nth l k).id,(plsI (l.take k)).2,XH (nth l k)]++(nth l k).by_))),@List.length_append _ ((halfK nx l k)++(nmB [hashS (nth l k).by_,(nth l k).id,(plsI (l.take k)).2,XH (nth l k)]++(nth l k).by_)) (List.replicate (Zn (XH (nth l k))) (0:UInt8))];exact h.ent aEt) (aT4 ?_))))
  refine aU2 ?_
  exact QH (k+1,g3) (by(try simp only[]);omega) (by(try simp only[]);omega) aSx (λw h=>by dsimp only;rw[hsc];exact h.ent aEt)
 obtain rfl:k=l.length:=om
 refine Qk rfl ?_
 refine aU2 ?_
 refine o_h (Q1 (Cs:=[.blk b3 189 2 [.pointer (some ⟨b3,0,none⟩),.slice ga.1 (halfS nx l).length ga.2],.own (.slice ga.1 (halfS nx l).length ga.2) 5 1 (halfS nx l).length ((halfS nx l).map bv)]) rfl Qoc rfl aPs (λw1 h1 hf=>c124 w1 b3 ga.1 ga.2 (halfS nx l) hf (by intro e9;rw[e9]at hhl;simp at hhl;omega))) rfl (λ_ _=>aU2 ?_)
 exact rV
instance:TFn Tryz.prog 77:=⟨by kernel_rfl⟩
theorem c30(w:World)(nx:Int)(a:Option Addr)(cap:Nat)(l:List SItm)(hs:Rw SItm.vals 2 w [] a l)(hm:l.length<=100000)(hb:∀x∈l,x.by_.length<=100000):CR 30 #[.agg #[.int .i64 nx,.slice a l.length cap]] w (.tuple #[.string (bs (if(stoE nx l).2=0 then Qcf nx l else[])),.int .i64 (stoE nx l).2]):=by
 refine eN1 Tryz.func30 Tryz.ntmps30 ?_
 refine aU2 ?_
 refine oBx λb1 _=>?_
 refine aU7 ?_
 refine oCq rfl (λw1 h1=>c72 w1 nx a cap l (hs.later h1) hm hb) (aU7 ?_)
 refine sCd rfl (λh2=>?_) λh2=>?_
 ·have h0:¬(stoE nx l).2=0:=h2
  refine aU6 ?_
  exact Qg (rs:=[.tmp 2,.tmp 3]) rfl (.tmp rfl (.tmp rfl (.nil))) (λw' h'=>⟨by rw[if_neg h0];rfl,h'.below⟩)
 have h0:(stoE nx l).2=0:=h2
 obtain⟨hnx,hl60,hit9,hpl9⟩:=Qfx h0
 have hhl:=Qcu nx l
 refine aU4 ?_
 refine oCq rfl (λw1 h1=>c77 w1 nx a cap l (hs.later h1) hm hb h0) (aU6 ?_)
 refine o_p (Qr rfl rfl Tryz.underlying9) rfl (aT ?_)
 refine Qn (show _=Value.int .i64 ((8192-(halfS nx l).length:Nat):Int)from congrArg (Value.int .i64) om) (oCq rfl (λw1 h1=>c78 w1 (8192-(halfS nx l).length) om) (o_p (Xf rfl rfl rfl (by(try simp only[List.length_append,List.length_cons,List.length_nil,List.length_replicate,List.length_take,List.length_drop,List.length_append,List.length_replicate]);omega)) rfl (aU ?_)))
 refine o_p (Xf rfl rfl rfl (by(try simp only[List.length_append,List.length_cons,List.length_nil,List.length_replicate,List.length_take,List.length_drop,List.length_append,List.length_replicate]);omega)) rfl (Qn (show _=Value.string (bs (Qcf nx l))from by rw[Qcf]) (aU3 ?_))
 exact Qg (rs:=[.tmp 2,.tmp 3]) rfl (.tmp rfl (.tmp rfl (.nil))) (λw' h'=>⟨by rw[if_pos h0,h0];rfl,h'.below⟩)
end Go.Proofs
namespace Gx
open Go Go.RowKit
def dA:Dsc:=⟨10,10,false,false,[],[]⟩
def dB:Dsc:=⟨10,10,false,true,[⟨0,0,1,1⟩],[]⟩
def bA:List UInt8:=[1,0,0,0,10,0,0,0,10,0,0,0]
def bB:List UInt8:=[1,2,1,0,10,0,0,0,10,0,0,0,0,0,1,0,1,0,0,0]
def lA:List SItm:=[⟨256,bA⟩]
def lB:List SItm:=[⟨256,bA⟩,⟨257,bB⟩]
theorem aw_1:QaS 256 [] dA=⟨257,lA,256,0⟩:=by kernel_rfl
theorem QnF:QaS 257 lA dB=⟨258,lB,257,0⟩:=by kernel_rfl
theorem aw_3:(stoE 258 lB).2=0:=by kernel_rfl
theorem aw_4:plsI lB=([16,48],96):=by kernel_rfl
theorem aw_5:(stoE 257 lA).2=0:=by kernel_rfl
theorem aw_6:QeL 258 lB [257]=0:=by kernel_rfl
theorem aw_7:Qb7 258 lB [257]=⟨258,[⟨257,bB⟩],[256]⟩:=by kernel_rfl
theorem aw_8:(Qcf 257 lA).length=8240:=by
 have h:=Qcu 257 lA;rw[show(plsI lA).2=48 by kernel_rfl]at h;unfold Qcf;rw[List.length_append,List.length_append,List.length_replicate];omega
end Gx
namespace Go.Proofs
open Go Go.RowKit Gx
attribute [local irreducible] Go.Calls Gx.S Gx.O Gx.D Gx.OpP Gx.OpQ Gx.OpH
set_option maxRecDepth 20000
instance:TFn Tryz.prog 23:=⟨by kernel_rfl⟩
instance:TFn Tryz.prog 34:=⟨by kernel_rfl⟩
theorem Qin:QC Tryz.prog 24=true:=by kernel_rfl
instance:TFn Tryz.prog 24:=⟨Qin⟩
theorem QmD:QC Tryz.prog 35=true:=by kernel_rfl
instance:TFn Tryz.prog 36:=⟨by kernel_rfl⟩
instance:TFn Tryz.prog 30:=⟨by kernel_rfl⟩
instance:TFn Tryz.prog 28:=⟨by kernel_rfl⟩
instance:TFn Tryz.prog 29:=⟨by kernel_rfl⟩
theorem Xk{α:Type}[Inhabited α]{vals:α->List Value}{sz:Nat}{w:World}:Rw vals sz w [] none ([]:List α):=⟨λh=>absurd h (Nat.lt_irrefl 0)⟩
theorem c29V(w:World)(a:Option Addr)(cap:Nat)(a2:Option Addr)(cap2:Nat)(l:List Int)(hs:Vl w a (l.map nv))(hs2:Vl w a2 (l.map nv))(hm:l.length<=100000):CR 29 #[.slice a l.length cap,.slice a2 l.length cap2] w (.bool true):=by
  have h9:=c29 w a a2 cap cap2 l l hs.rwI hs2.rwI hm hm;rw[decide_eq_true rfl]at h9;exact h9
set_option maxHeartbeats 2000000 in
theorem c5(w:World):CR 5 #[] w (.bool true):=by
 refine eN0 Tryz.func5 Tryz.ntmps5 ?_
 refine aU6 ?_
 refine oCq rfl (λw1 h1=>c23 w1) (oCq rfl (λw1 h1=>c34 w1) (oCh rfl (λw1 h1=>by have h9:=c24 w1 256 none 0 [] dA none 0 none 0 Xk (by decide) (by intro x hx;cases hx) Xk Xk (by decide) (by decide);rw[aw_1]at h9;exact h9) (λgA _=>aU4 ?_)))
 refine oAl (λb1 _=>?_) YY
 refine aU5 ?_
 refine Q7 (α:=Nat×Option Addr×Nat) [4,5,6,22,23,24,25,26,27,28] (λx=>[(4,.pointer (some ⟨x.1,0,none⟩)),(5,.int .i64 257),(6,.int .i64 0)]) (λx=>HS w [] [.blk x.1 63 2 [.int .i64 258,.slice x.2.1 2 x.2.2],.own (.slice x.2.1 lB.length x.2.2) 72 2 lB.length (lB.flatMap SItm.vals),.blk b1 63 2 [.int .i64 257,.slice gA.1 1 gA.2],.own (.slice gA.1 lA.length gA.2) 72 2 lA.length (lA.flatMap SItm.vals)]) (λ_=>True) ?_ ?_
 ·skip
  refine Qq [8] mixed ?_
  refine dLn 0 [[]] ?_
  refine QeC 1 7 rfl rfl (Xy rfl QmD rfl (λw1 h1=>c35 w1)) (Xo rfl YY) (by kernel_rfl) (λw h=>h.ent aEt) rfl rfl (λgO _=>?_) (λb2 _=>?_)
  ·skip
   refine dBa ?_
   refine QeC 2 7 rfl rfl (Xy rfl Qin rfl (λw1 h1=>by have h9:=c24 w1 257 gA.1 gA.2 lA dB gO.1 gO.2 none 0 (HS.rw_own (l:=lA) sv2 h1 aPk rfl) (by decide) (by intro x hx;simp only[lA,lB,List.mem_cons,List.mem_nil_iff,or_false]at hx;subst hx<;>decide) (HS.rw_own (l:=dB.en) av4 h1 aPk rfl) Xk (by decide) (by decide);rw[QnF]at h9;exact h9)) (Xo rfl YY) (by kernel_rfl) (λw h=>h.ent aEt) rfl rfl (λgB _=>?_) (λb3 _=>?_)
   ·skip
    refine dBa ?_
    refine dP 3 ?_
    refine dP 4 ?_
    refine dP 5 ?_
    refine dP 6 ?_
    refine dH 7 rfl (Xo rfl YY) (λb4 _=>dBa ?_)
    refine dSt 8 ?_ (hl:=(by simp only[Qj,List.length_set,List.length_cons,List.length_nil,List.length_map];omega))
    refine dTu [] ?_
    refine dP 9 ?_
    refine dP 10 ?_
    refine dNi ?_
    exact Qf (b4,gB) trivial aSx (λw h=>h.ent aEt)
   skip
   refine dBa ?_
   refine dH 2 rfl (Xy rfl Qin rfl (λw1 h1=>by have h9:=c24 w1 257 gA.1 gA.2 lA dB gO.1 gO.2 none 0 (HS.rw_own (l:=lA) sv2 h1 aPk rfl) (by decide) (by intro x hx;simp only[lA,lB,List.mem_cons,List.mem_nil_iff,or_false]at hx;subst hx<;>decide) (HS.rw_own (l:=dB.en) av4 h1 aPk rfl) Xk (by decide) (by decide);rw[QnF]at h9;exact h9)) (λgB _=>dBa ?_)
   refine dP 3 ?_
   refine dP 4 ?_
   refine dP 5 ?_
   refine dP 6 ?_
   refine dSt 8 ?_ (hl:=(by simp only[Qj,List.length_set,List.length_cons,List.length_nil,List.length_map];omega))
   refine dTu [] ?_
   refine dP 9 ?_
   refine dP 10 ?_
   refine dNi ?_
   exact Qf (b3,gB) trivial aSx (λw h=>h.ent aEt)
  skip
  refine dBa ?_
  refine dH 1 rfl (Xy rfl QmD rfl (λw1 h1=>c35 w1)) (λgO _=>dBa ?_)
  refine dH 2 rfl (Xy rfl Qin rfl (λw1 h1=>by have h9:=c24 w1 257 gA.1 gA.2 lA dB gO.1 gO.2 none 0 (HS.rw_own (l:=lA) sv2 h1 aPk rfl) (by decide) (by intro x hx;simp only[lA,lB,List.mem_cons,List.mem_nil_iff,or_false]at hx;subst hx<;>decide) (HS.rw_own (l:=dB.en) av4 h1 aPk rfl) Xk (by decide) (by decide);rw[QnF]at h9;exact h9)) (λgB _=>dBa ?_)
  refine dP 3 ?_
  refine dP 4 ?_
  refine dP 5 ?_
  refine dP 6 ?_
  refine dSt 8 ?_ (hl:=(by simp only[Qj,List.length_set,List.length_cons,List.length_nil,List.length_map];omega))
  refine dTu [] ?_
  refine dP 9 ?_
  refine dP 10 ?_
  refine dNi ?_
  exact Qf (b2,gB) trivial aSx (λw h=>h.ent aEt)
 intro x hx
 refine aU3 ?_
 refine oCh rfl (λw1 h1=>by have h9:=c36 w1 258 x.2.1 x.2.2 lB (HS.rw_own (l:=lB) sv2 h1 aPk rfl) (by decide) (by intro x hx;simp only[lA,lB,List.mem_cons,List.mem_nil_iff,or_false]at hx;rcases hx with rfl|rfl<;>decide);rw[if_pos aw_3,aw_3,aw_4]at h9;exact h9) (λgP _=>Y0 ?_)
 refine oCq rfl (λw1 h1=>by have h9:=c30 w1 257 gA.1 gA.2 lA (HS.rw_own (l:=lA) sv2 h1 aPk rfl) (by decide) (by intro x hx;simp only[lA,lB,List.mem_cons,List.mem_nil_iff,or_false]at hx;subst hx<;>decide);rw[if_pos aw_5,aw_5]at h9;exact h9) (aU7 ?_)
 refine Qi (L':=[(0,_),(2,_),(3,_),(4,_),(5,_),(6,_),(7,_),(8,_),(9,_),(10,_),(11,_)]) aSx (λ_ h=>h) ?_
 refine aU2 ?_
 refine o_h (Qc (cs:=[_]) rfl rfl QU YX rfl rfl rfl) rfl (λb5 _=>?_)
 refine oCh rfl (λw1 h1=>by have h9:=c28 w1 258 x.2.1 x.2.2 lB (some ⟨b5,0,none⟩) 1 [257] (HS.rw_own (l:=lB) sv2 h1 aPk rfl) (by decide) (by intro x hx;simp only[lA,lB,List.mem_cons,List.mem_nil_iff,or_false]at hx;rcases hx with rfl|rfl<;>decide) (h1.vl_blk aPk) (by decide) (by intro x hx;simp only[List.mem_cons,List.mem_nil_iff,or_false]at hx;subst hx;decide);rw[aw_6,aw_7]at h9;exact h9) (λgC _=>aU4 ?_)
 refine oAl (λb6 _=>?_) YY
 refine aU9 ?_
 refine QJ 3 49 52 rfl
  (λhg7 _=>by
   refine aU4 ?_
   exact oJt 3 52)
  (λhg9 _=>by
   refine aU2 ?_
   exact oJf 3 52) ?_
 refine aU ?_
 refine QJ 3 53 56 rfl
  (λhg11 _=>by
   refine aU4 ?_
   exact oJt 3 56)
  (λhg13 _=>by
   refine aU2 ?_
   exact oJf 3 56) ?_
 refine aU ?_
 refine QJ 3 57 60 rfl
  (λhg15 _=>by
   refine aU4 ?_
   exact oJt 3 60)
  (λhg17 _=>by
   refine aU2 ?_
   exact oJf 3 60) ?_
 refine aU ?_
 refine QJ 3 61 64 rfl
  (λhg19 _=>by
   refine aU4 ?_
   exact oJt 3 64)
  (λhg21 _=>by
   refine aU2 ?_
   exact oJf 3 64) ?_
 refine aU ?_
 refine QJ 4 65 69 rfl
  (λhg23 _=>by
   refine aU3 ?_
   refine o_h (Qc (cs:=[_,_]) rfl rfl QU YX rfl rfl rfl) rfl (λb25 _=>aU ?_)
   refine oCq rfl (λw1 h1=>c29V w1 gP.1 gP.2 (some ⟨b25,0,none⟩) 2 [16,48] (HS.vl_own (cs:=[.int .i64 16,.int .i64 48]) h1 aPk) (h1.vl_blk aPk) (by decide)) ?_
   exact oJt 4 69)
  (λhg26 _=>by
   refine aU3 ?_
   exact oJf 4 69) ?_
 refine aU ?_
 refine QJ 3 70 73 rfl
  (λhg28 _=>by
   refine aU4 ?_
   exact oJt 3 73)
  (λhg30 _=>by
   refine aU2 ?_
   exact oJf 3 73) ?_
 refine aU ?_
 refine QJ 3 74 77 rfl
  (λhg32 _=>by
   refine aU4 ?_
   exact oJt 3 77)
  (λhg34 _=>by
   refine aU2 ?_
   exact oJf 3 77) ?_
 refine aU ?_
 refine QJ 4 78 82 rfl
  (λhg36 _=>by
   refine aU3 ?_
   refine o_p (Qr rfl rfl Tryz.underlying9) rfl (Qn (show _=Value.int .i64 8240 from by rw[aw_8];rfl) (aU2 ?_))
   exact oJt 4 82)
  (λhg38 _=>by
   refine aU3 ?_
   exact oJf 4 82) ?_
 refine aU ?_
 refine QJ 3 83 86 rfl
  (λhg40 _=>by
   refine aU4 ?_
   exact oJt 3 86)
  (λhg42 _=>by
   refine aU2 ?_
   exact oJf 3 86) ?_
 refine aU ?_
 refine QJ 4 87 91 rfl
  (λhg44 _=>by
   refine aU3 ?_
   refine o_h (Qc (cs:=[_]) rfl rfl QU YX rfl rfl rfl) rfl (λb46 _=>aU ?_)
   refine oCq rfl (λw1 h1=>c29V w1 gC.2.1 gC.2.2 (some ⟨b46,0,none⟩) 1 [256] (HS.vl_own (cs:=[.int .i64 256]) h1 aPk) (h1.vl_blk aPk) (by decide)) ?_
   exact oJt 4 91)
  (λhg47 _=>by
   refine aU3 ?_
   exact oJf 4 91) ?_
 refine aU ?_
 refine QJ 4 92 96 rfl
  (λhg49 _=>by
   refine aU6 ?_
   exact oJt 4 96)
  (λhg51 _=>by
   refine aU3 ?_
   exact oJf 4 96) ?_
 refine aU2 ?_
 exact rV
end Go.Proofs
namespace Gx
open Go Go.RowKit
theorem QoD(x:UInt8)(l:List UInt8):at1 (x::l) 0=(x.toNat:Int):=rfl
theorem QoX(x:UInt8)(l:List UInt8)(i:Nat):at1 (x::l) (i+1)=at1 l i:=rfl
theorem Qbn(s:List UInt8):(Xj s).en.length<=16/\(Xj s).au.length<=16:=by
 unfold Xj;split
 ·rename_i h;unfold QbT at h;split at h
  ·obtain⟨_,h2,_,_⟩:=Qeu h;exact h2
  ·rename_i h9;exact absurd h h9
 ·exact⟨Nat.zero_le _,Nat.zero_le _⟩
def Yt(s:List UInt8):List UInt8:=(s.reverse.dropWhile (· ==0)).reverse
def Y4(s:List UInt8):List UInt8:=s.dropWhile (· ==0)
theorem QeH{s:List UInt8}(h:0<s.length):s=s.take (s.length-1)++[s.getD (s.length-1) 0]:=by
 have:=QX (l:=s) (k:=s.length-1) (d:=0) om;rw[show s.length-1+1=s.length by omega,List.take_length]at this;exact this
theorem Qg9{s:List UInt8}(h:0<s.length)(hz:s.getD (s.length-1) 0=0):Yt s=Yt (s.take (s.length-1)):=by
 have e:=QeH h;rw[hz]at e
 conv=>lhs;rw[e]
 unfold Yt;rw[List.reverse_append];simp
theorem Qhf{s:List UInt8}(h:0<s.length)(hz:¬s.getD (s.length-1) 0=0):Yt s=s:=by
 have e:=QeH h
 conv=>lhs;rw[e]
 unfold Yt;rw[List.reverse_append,List.reverse_cons,List.reverse_nil,List.nil_append,List.singleton_append,List.dropWhile_cons_of_neg (by simpa using hz),List.reverse_cons,List.reverse_reverse,<-e]
theorem Qhe{s:List UInt8}(h:0<s.length)(hz:s.getD 0 0=0):Y4 s=Y4 (s.drop 1):=by
 cases s with
 | nil=>simp at h
 | cons a s=>
  have:a=0:=hz;subst this;rfl
theorem QhB{s:List UInt8}(h:0<s.length)(hz:¬s.getD 0 0=0):Y4 s=s:=by
 cases s with
 | nil=>simp at h
 | cons a s=>
  have:¬a=0:=hz;unfold Y4;rw[List.dropWhile_cons_of_neg (by simpa using this)]
def QbM(s:List UInt8):Bool:=s.all (· ==0)
theorem Qhi{p:UInt8->Bool}:∀{l:List UInt8},l.dropWhile p=[] ↔ ∀x∈l,p x=true
 | []=>by simp
 | a::l=>by
  rw[List.dropWhile_cons];split
  ·rename_i h;rw[Qhi];constructor
   ·intro h1 x hx;rcases List.mem_cons.1 hx with rfl|hx
    ·exact h
    ·exact h1 x hx
   ·exactλh1 x hx=>h1 x (List.mem_cons_of_mem _ hx)
  ·rename_i h;constructor
   ·intro h1;cases h1
   ·intro h1;exact absurd (h1 a (List.mem_cons_self ..)) h
theorem Qk8{p:UInt8->Bool}:∀{l:List UInt8}{x:UInt8},x∈l.takeWhile p->p x=true
 | [],x,h=>by cases h
 | a::l,x,h=>by
  rw[List.takeWhile_cons]at h;split at h
  ·rename_i h1;rcases List.mem_cons.1 h with rfl|h
   ·exact h1
   ·exact Qk8 h
  ·cases h
theorem Qgw(s:List UInt8):Y4 (Yt s)=[] ↔ QbM s=true:=by
 unfold Y4 Yt QbM;constructor
 ·intro h;rw[Qhi]at h;rw[List.all_eq_true];intro x hx
  by_cases hz:(x==0)=true
  ·exact hz
  ·have hm:x∈s.reverse.dropWhile (· ==0)\/(x==0)=true:=by
    have hx2:x∈s.reverse:=List.mem_reverse.2 hx;rw[<-List.takeWhile_append_dropWhile (p:=(· ==0)) (l:=s.reverse)]at hx2;rcases List.mem_append.1 hx2 with h1|h1
    ·exact .inr (Qk8 (p:=(· ==0)) h1)
    ·exact .inl h1
   rcases hm with hm|hm
   ·exact h x (List.mem_reverse.2 hm)
   ·exact hm
 ·intro h;rw[List.all_eq_true]at h
  have h1:s.reverse.dropWhile (· ==0)=[]:=by
   rw[Qhi];intro x hx;exact h x (List.mem_reverse.1 hx)
  rw[h1];rfl
def isHd(h:List UInt8):Bool:=decide (h.take 4=QmF)&&decide (sumS (h.take 12)=at4 h 12)
structure ItR where
 x:SItm
 n:Int
 ok:Bool
deriving Inhabited
def Qat(h:List UInt8)(p:Nat):Bool:=decide ((p:Int)+16<=h.length)&&(decide (at4 h (p+8)=p)&&(decide (16<=at4 h (p+12))&&decide ((p:Int)+upT (at4 h (p+12))<=h.length)))
def X3(h:List UInt8)(p:Nat):List UInt8:=(h.drop (p+16)).take ((at4 h (p+12)).toNat-16)
def ZF(h:List UInt8)(p:Nat):List UInt8:=(h.drop (p+(at4 h (p+12)).toNat)).take (Zn (at4 h (p+12)))
def itA(h:List UInt8)(p:Nat):ItR:=if Qat h p then⟨⟨at4 h (p+4),X3 h p⟩,at4 h (p+12),QbM (ZF h p)&&decide (at4 h p=hashS (X3 h p))⟩else⟨⟨0,[]⟩,0,false⟩
theorem Qa6{h:List UInt8}{p:Nat}(hs:Qat h p=true):p+16<=h.length/\at4 h (p+8)=p/\16<=at4 h (p+12)/\(p:Int)+upT (at4 h (p+12))<=h.length:=by
 unfold Qat at hs;simp only[Bool.and_eq_true,decide_eq_true_eq]at hs;exact⟨om,hs.2.1,hs.2.2.1,hs.2.2.2⟩
theorem QdH(n:Int):n<=upT n/\upT n<=n+15:=by unfold upT;omega
theorem Qkd{h:List UInt8}{p:Nat}(ho:(itA h p).ok=true):Qat h p=true:=by
 unfold itA at ho;split at ho
 ·assumption
 ·cases ho
theorem QmX{h:List UInt8}{p:Nat}(ho:(itA h p).ok=true):16<=(itA h p).n/\(p:Int)+upT (itA h p).n<=h.length/\(itA h p).x.by_.length<=h.length:=by
 have hs:=Qkd ho;obtain⟨h1,h2,h3,h4⟩:=Qa6 hs;unfold itA;rw[if_pos hs];refine⟨h3,h4,?_⟩;show(X3 h p).length<=_;unfold X3;rw[List.length_take,List.length_drop];omega
def strE(s:List UInt8):Int:=if(16<=(s.length:Int)-8192/\(s.length:Int)-8192<=8192)/\((s.length:Int)-8192)%16=0 then 0 else 10
def h1S(s:List UInt8):List UInt8:=s.take (s.length-8192)
def h2S(s:List UInt8):List UInt8:=s.drop 8192
def inL(g h:List UInt8):Nat->Nat->List SItm->List Int->Option (List SItm×List Int)
 | 0,_,l,dm=>some (l,dm)
 | f+1,p,l,dm=>
  if p<g.length then
   if(itA g p).ok then inL g h f (p+(upT (itA g p).n).toNat) (l++[(itA g p).x]) dm
   else if(itA h p).ok then inL g h f (p+(upT (itA h p).n).toNat) (l++[(itA h p).x]) (dm++[(l.length:Int)])
   else none
  else some (l,dm)
structure InR where
 nx:Int
 l:List SItm
 dm:List Int
 e:Int
def inE(e:Int):InR:=⟨0,[],[],e⟩
def inB(g h hd:List UInt8)(dm0:List Int):InR:=
 if at4 hd 8=g.length then
  match inL g h g.length 16 [] dm0 with
  | none=>inE 31
  | some (l,dm)=>if(stoE (at4 hd 4) l).2=0 then⟨at4 hd 4,l,dm,0⟩else inE (stoE (at4 hd 4) l).2
 else inE 3
def inS(s:List UInt8):InR:=
 if strE s=0 then
  if isHd (h1S s)then inB (h1S s) (h2S s) (h1S s) []
  else if isHd (h2S s)then inB (h1S s) (h2S s) (h2S s) [-1]
  else inE 31
 else inE (strE s)
theorem Zw{s:List UInt8}(h:strE s=0):8208<=s.length/\s.length<=16384/\((s.length:Int)-8192)%16=0:=by
 unfold strE at h;split at h
 ·omega
 ·simp at h
theorem Qdg{s:List UInt8}(h:8192<=s.length):(h1S s).length=s.length-8192:=by unfold h1S;rw[List.length_take];omega
theorem Qc6(s:List UInt8):(h2S s).length=s.length-8192:=by unfold h2S;rw[List.length_drop]
theorem Qgc{s:List UInt8}{m i:Nat}(h:i<m):at1 (s.take m) i=at1 s i:=by
 unfold at1;rw[List.getD_eq_getElem?_getD,List.getD_eq_getElem?_getD,List.getElem?_take,if_pos h]
theorem QgT{s:List UInt8}{m i:Nat}(h:i+1<m):at2 (s.take m) i=at2 s i:=by unfold at2;rw[Qgc om,Qgc h]
theorem Qki{s:List UInt8}{m i:Nat}(h:i+3<m):at4 (s.take m) i=at4 s i:=by unfold at4;rw[QgT om,QgT om]
structure SegOf(s hf:List UInt8)(a:Nat):Prop where
 le:a+hf.length<=s.length
 eq:(s.drop a).take hf.length=hf
theorem SegOf.at4{s hf:List UInt8}{a q:Nat}(h:SegOf s hf a)(hq:q+4<=hf.length):at4 s (a+q)=Gx.at4 hf q:=by
 conv=>rhs;rw[<-h.eq]
 rw[Qki om,YN]
theorem SegOf.cut{s hf:List UInt8}{a i j:Nat}(h:SegOf s hf a)(hj:j<=hf.length):(s.take (a+j)).drop (a+i)=(hf.take j).drop i:=by
 conv=>rhs;rw[<-h.eq]
 rw[List.take_take,Nat.min_eq_left hj,List.take_drop,List.drop_drop,Nat.add_comm a j]
theorem QoZ{s:List UInt8}(h:8192<=s.length):SegOf s (h1S s) 0:=⟨by rw[Qdg h];omega,by rw[Qdg h];rfl⟩
theorem QoA{s:List UInt8}(h:8192<=s.length):SegOf s (h2S s) 8192:=⟨by rw[Qc6];omega,by rw[Qc6];unfold h2S;rw[List.take_of_length_le (by rw[List.length_drop];omega)]⟩
def itR(hf:List UInt8)(p:Nat):ItR:=if(itA hf p).ok then⟨(itA hf p).x,upT (itA hf p).n,true⟩else⟨⟨0,[]⟩,0,false⟩
theorem Qlq{hf:List UInt8}{p:Nat}(h:Qat hf p=false):itR hf p=⟨⟨0,[]⟩,0,false⟩:=by
 unfold itR itA;rw[h];rfl
theorem Qma{hf:List UInt8}{p:Nat}(h:Qat hf p=true):itR hf p=if(QbM (ZF hf p)&&decide (at4 hf p=hashS (X3 hf p)))=true then⟨⟨at4 hf (p+4),X3 hf p⟩,upT (at4 hf (p+12)),true⟩else⟨⟨0,[]⟩,0,false⟩:=by
 unfold itR itA;rw[if_pos h]
theorem Qi5{s:List UInt8}{k:Nat}(h:k<s.length):QbM (s.take (k+1))=(QbM (s.take k)&&(s.getD k 0==0)):=by
 unfold QbM;rw[QX (d:=0) h,List.all_append];simp
theorem Ql5{s:List UInt8}{k:Nat}(h:k<s.length)(h2:¬s.getD k 0=0):QbM s=false:=by
 rw[<-Bool.not_eq_true];intro h3;exact h2 (by simpa using List.all_eq_true.1 h3 _ (Yb h))
theorem QdG(hf:List UInt8)(p:Nat):(itR hf p).ok=(itA hf p).ok:=by
 unfold itR
 by_cases h:(itA hf p).ok=true
 ·rw[if_pos h,h]
 ·rw[if_neg h];exact(Bool.eq_false_iff.2 h).symm
theorem QlH{hf:List UInt8}{p:Nat}(h:(itR hf p).ok=true):(itA hf p).ok=true/\itR hf p=⟨(itA hf p).x,upT (itA hf p).n,true⟩:=by
 rw[QdG]at h;exact⟨h,by unfold itR;rw[if_pos h]⟩
end Gx
namespace Go.Proofs
open Go Go.RowKit Gx
attribute [local irreducible] Go.Calls Gx.S Gx.O Gx.D Gx.OpP Gx.OpQ Gx.OpH
set_option maxRecDepth 20000
theorem QkV:QC Tryz.prog 142=true:=by kernel_rfl
instance:TFn Tryz.prog 90:=⟨by kernel_rfl⟩
theorem Qke:Q8 Tryz.prog 155=some [.string (bs []),.string (bs [])]:=by kernel_rfl
theorem QkP:tar Tryz.prog 155=some (2,9,1):=by kernel_rfl
theorem QjJ:tsz Tryz.prog 155=some (2,true):=by kernel_rfl
instance:TSz Tryz.prog 155 2 true:=⟨QjJ⟩
theorem Qnv:QC Tryz.prog 200=true:=by kernel_rfl
theorem QnU:QC Tryz.prog 199=true:=by kernel_rfl
theorem Qe9:QC Tryz.prog 45=true:=by kernel_rfl
instance:TFn Tryz.prog 45:=⟨Qe9⟩
instance:TFn Tryz.prog 145:=⟨by kernel_rfl⟩
theorem u8z{x:UInt8}:((x.toNat:Nat):Int)=0 ↔ x=0:=⟨λh=>UInt8.toNat_inj.1 (by show x.toNat=0;omega),λh=>by rw[h];rfl⟩
theorem QlL(h:List UInt8)(i j:Nat):(h.take j).drop i=(h.drop i).take (j-i):=by rw[List.drop_take]
theorem c142(w:World)(a:Option Addr)(m cap:Nat)(x:List UInt8)(hs:Vl w a (x.map bv))(hm:x.length=m)(h2:2<=m)(hc:m<=cap)(hc9:cap<=9223372036854775807):CR 142 #[.slice a m cap] w (.int .u16 (at2 x 0)):=by
 refine eN1 Tryz.func142 Tryz.ntmps142 ?_
 refine aU5 ?_
 refine Qq [] mixed ?_
 refine dP 0 ?_
 refine dV 1 rfl (Qa rfl rfl rfl QD 0 rfl om (hs.some (by rw[List.length_map];omega))) (dQ 2 [] rfl (Qb rfl rfl ZZ ((hs.rd (i:=0) (XR (l:=x) (k:=0) om)))) (dV 3 rfl (Qm rfl rfl Yx XE) (dP 4 ?_)))
 refine dV 5 rfl (Qa rfl rfl rfl QD 1 rfl om (hs.some (by rw[List.length_map];omega))) (dQ 6 [] rfl (Qb rfl rfl ZZ ((hs.rd (i:=1) (XR (l:=x) (k:=1) om)))) (dV 7 rfl (Qm rfl rfl Yx XE) (dV 8 rfl (Qem rfl rfl rfl (by decide) 8 rfl) (dP 9 ?_))))
 refine dP 10 ?_
 refine dNi ?_
 exact rV (h:=by rw[<-Qdo];rfl)
theorem c90(w:World)(a:Option Addr)(m cap:Nat)(x:List UInt8)(hs:Vl w a (x.map bv))(hm:x.length=m)(h2:4<=m)(hc:m<=cap)(hc9:cap<=9223372036854775807):CR 90 #[.slice a m cap] w (.int .u32 (at4 x 0)):=by
 have hx2:=Yi x 0
 have hx3:=Yi x 2
 refine eN1 Tryz.func90 Tryz.ntmps90 ?_
 refine aU5 ?_
 refine Qq [] mixed ?_
 refine dP 0 ?_
 refine dQ 1 [] rfl (Qe rfl QkV rfl (λw1 h1=>c142 w1 a m cap x (hs.later h1) hm om hc hc9)) (dV 2 rfl (Qm rfl rfl XE Xt) (dP 3 ?_))
 refine dV 4 rfl (XU _ _ 2 m rfl rfl QD ⟨_,_,rfl,rfl⟩ rfl om om) (dQ 5 [] rfl (Qe rfl QkV rfl (λw1 h1=>c142 w1 (YC a cap 2 1) (m-2) (cap-2) (x.drop 2) (by rw[List.map_drop];exact(hs.later h1).drop (by rw[List.length_map];omega) om) (by rw[List.length_drop];omega) om om om)) (dV 6 rfl (Qm rfl rfl XE Xt) (dV 7 rfl (Qem rfl rfl rfl (by decide) 16 rfl) (dP 8 ?_))))
 refine dP 9 ?_
 refine dNi ?_
 exact rV (h:=by have h9:=QdP (at2 x 0) (at2 (x.drop 2) 0) (Yi _ _) (Yi _ _);rw[ZK]at h9 ⊢;exact(congrArg Ending.returned h9))
theorem c45(w:World)(s:List UInt8)(p:Nat)(hm:s.length<=1000000)(hp:p+4<=s.length):CR 45 #[.string (bs s),.int .i64 (p:Int)] w (.int .i64 (at4 s p)):=by
 have h4:=X9 s p
 have hdl:(s.drop p).length=s.length-p:=List.length_drop
 refine eN2 Tryz.func45 Tryz.ntmps45 ?_
 refine aU8 ?_
 refine o_p (X1 p rfl rfl rfl Tryz.underlying9 rfl om) rfl (o_h (Qcb rfl rfl Tryz.underlying9 Tryz.underlying124 Tryz.underlying5 rfl (by simp only[maxLen];omega)) rfl (λ⟨b1,c2⟩⟨h3,k4⟩=>oCq rfl (λw1 h1=>by have h9:=c90 w1 (some ⟨b1,0,none⟩) (s.drop p).length c2 (s.drop p) (h1.vl_blk aPk) rfl om (by assumption) (by have hq9:c2<=maxLen:=(by assumption);simp only[maxLen]at hq9;omega);rw[YN,Nat.add_zero]at h9;exact h9) (o_p (Qm rfl rfl Xt X2) rfl ?_)))
 try refine oWr ?_
 refine aU2 ?_
 exact rV
theorem c39(w:World)(s:List UInt8)(hm:s.length<=1000000):CR 39 #[.string (bs s)] w (.int .i64 (strE s)):=by
 refine eN1 Tryz.func39 Tryz.ntmps39 ?_
 refine aU7 ?_
 refine o_p (Qr rfl rfl Tryz.underlying9) rfl (aT ?_)
 refine aU5 ?_
 refine oCq rfl (λw1 h1=>c52 w1 _ _ _) (aU ?_)
 refine QJ 4 9 13 rfl
  (λhg1 _=>by
   refine aU3 ?_
   refine o_p (Zm rfl rfl rfl om om) rfl (aU2 ?_)
   exact oJt 4 13)
  (λhg3 _=>by
   refine aU3 ?_
   exact oJf 4 13) ?_
 refine oCq rfl (λw1 h1=>c42 w1 _ _) (aU2 ?_)
 exact rV (h:=by simp only[Qw,strE,cond_eq_ite,Bool.and_eq_true,decide_eq_true_eq])
theorem c93(w:World)(s:List UInt8)(hm:s.length<=1000000)(h8:8192<=s.length):CR 93 #[.string (bs s)] w (.agg #[.string (bs (h1S s)),.string (bs (h2S s))]):=by
 refine eN1 Tryz.func93 Tryz.ntmps93 ?_
 refine aU2 ?_
 refine oAl (λb1 _=>?_) Qke
 refine aU2 ?_
 refine Qq [8] mixed ?_
 refine dP 0 ?_
 refine dP 1 ?_
 refine dV 2 rfl (Qr rfl rfl Tryz.underlying9) (dP 3 ?_)
 try refine dWr ?_
 refine dV 4 rfl (QaZ (s.length-8192) rfl rfl rfl Tryz.underlying9 om om) (dP 5 ?_)
 refine dV 6 rfl (X1 8192 rfl rfl rfl Tryz.underlying9 rfl om) (dV 7 rfl (Qc2 (cs:=[_,_]) rfl rfl QkP Qke rfl) (dSt 8 ?_ (hl:=(by simp only[Qj,List.length_set,List.length_cons,List.length_nil,List.length_map];omega))))
 refine dTu [] ?_
 refine dNi ?_
 exact Qg (rs:=[.cell 2 155]) rfl (.cell rfl QjJ aPk rfl (.nil)) (λw' h'=>⟨by rfl,h'.below⟩)
theorem c200(w:World)(s:List UInt8)(hm:s.length<=1000000):CR 200 #[.string (bs s),.int .u8 0] w (.string (bs (Yt s))):=by
 refine eN2 Tryz.func200 Tryz.ntmps200 ?_
 refine aU6 ?_
 refine Qp (α:=List UInt8) [0,5,6,7,8,9,10,11,12,13,14,15,16,17,18,19,20,21] (λt=>[(0,.string (bs t))]) (λ_=>_) (λt=>t.length<=1000000/\Yt s=Yt t) (λt=>t.length) s ⟨hm,rfl⟩ aSx (λw h=>h) (λt htt=>?_)
 obtain⟨ht1,ht2⟩:=htt
 refine aU4 ?_
 refine o_p (Qr rfl rfl Tryz.underlying9) rfl (aU2 ?_)
 refine QJ 8 8 16 rfl
  (λhg1 _=>by
   refine aU5 ?_
   refine o_p (Qr rfl rfl Tryz.underlying9) rfl (aT2 ?_)
   refine aU ?_
   refine o_p (Xm rfl rfl rfl Tryz.underlying9 (t.length-1) om om) rfl ?_
   refine aU4 ?_
   exact oJt 8 16)
  (λhg3 _=>by
   refine aU7 ?_
   exact oJf 8 16) ?_
 refine aU ?_
 refine sCd rfl (λh5=>?_) λh5=>?_
 ·have hq9:=h5
  have hz9:t.getD (t.length-1) 0=0:=u8z.1 hq9.2
  have hst:=Qg9 (s:=t) om hz9
  refine aU5 ?_
  refine o_p (Qr rfl rfl Tryz.underlying9) rfl (aT ?_)
  refine o_p (QaZ (t.length-1) rfl rfl rfl Tryz.underlying9 om om) rfl (aU3 ?_)
  exact QH (t.take (t.length-1)) (by simp only[List.length_take,List.length_drop];omega) ⟨by simp only[List.length_take,List.length_drop];omega,by rw[ht2,hst]⟩ aSx (λw h=>h)
 have hst:Yt t=t:=by rcases Nat.eq_zero_or_pos t.length with h9|h9;(rw[List.eq_nil_of_length_eq_zero h9];rfl);exact Qhf h9 (λh8=>by have hq:=h5;rcases hq with hq|hq;omega;exact hq (u8z.2 h8))
 refine Qk rfl ?_
 refine aU5 ?_
 exact rV (h:=by rw[ht2,hst];rfl)
theorem c199(w:World)(s:List UInt8)(hm:s.length<=1000000):CR 199 #[.string (bs s),.int .u8 0] w (.string (bs (Y4 s))):=by
 refine eN2 Tryz.func199 Tryz.ntmps199 ?_
 refine aU6 ?_
 refine Qp (α:=List UInt8) [0,5,6,7,8,9,10,11,12,13,14,15] (λt=>[(0,.string (bs t))]) (λ_=>_) (λt=>t.length<=1000000/\Y4 s=Y4 t) (λt=>t.length) s ⟨hm,rfl⟩ aSx (λw h=>h) (λt htt=>?_)
 obtain⟨ht1,ht2⟩:=htt
 refine aU4 ?_
 refine o_p (Qr rfl rfl Tryz.underlying9) rfl (aU2 ?_)
 refine QJ 5 8 13 rfl
  (λhg1 _=>by
   refine aU3 ?_
   refine o_p (Xm rfl rfl rfl Tryz.underlying9 (0) om om) rfl ?_
   refine aU4 ?_
   exact oJt 5 13)
  (λhg3 _=>by
   refine aU4 ?_
   exact oJf 5 13) ?_
 refine aU ?_
 refine sCd rfl (λh5=>?_) λh5=>?_
 ·have hq9:=h5
  have hz9:t.getD (0) 0=0:=u8z.1 hq9.2
  have hst:=Qhe (s:=t) om hz9
  refine aU4 ?_
  refine o_p (X1 1 rfl rfl rfl Tryz.underlying9 rfl om) rfl (aU3 ?_)
  exact QH (t.drop 1) (by simp only[List.length_take,List.length_drop];omega) ⟨by simp only[List.length_take,List.length_drop];omega,by rw[ht2,hst]⟩ aSx (λw h=>h)
 have hst:Y4 t=t:=by rcases Nat.eq_zero_or_pos t.length with h9|h9;(rw[List.eq_nil_of_length_eq_zero h9];rfl);exact QhB h9 (λh8=>by have hq:=h5;rcases hq with hq|hq;omega;exact hq (u8z.2 h8))
 refine Qk rfl ?_
 refine aU5 ?_
 exact rV (h:=by rw[ht2,hst];rfl)
theorem QiR(s:List UInt8):(Yt s).length<=s.length:=by
  unfold Yt;rw[List.length_reverse];refine Nat.le_trans ?_ (Nat.le_of_eq List.length_reverse);exact(List.dropWhile_sublist _).length_le
theorem c145(w:World)(s:List UInt8)(hm:s.length<=1000000):CR 145 #[.string (bs s),.string (bs [0])] w (.string (bs (Y4 (Yt s)))):=by
 refine eN2 Tryz.func145 Tryz.ntmps145 ?_
 refine YO ?_
 refine oOr 3 9 12 rfl
  (λhg1 _=>by
   refine aU4 ?_
   exact oJf 3 12)
  (λhg3 _=>by
   refine aU2 ?_
   exact oJt 3 12) ?_
 refine aU ?_
 refine sCd rfl (λh5=>?_) λh5=>?_
 ·have hs9:s=[]:=by have hq:=h5;simpa using hq
  subst hs9
  refine aU5 ?_
  exact rV
 refine aU5 ?_
 refine o_p (Qr rfl rfl Tryz.underlying9) rfl (aU2 ?_)
 refine QJ 4 17 21 rfl
  (λhg6 _=>by
   refine aU3 ?_
   refine o_p (Xm rfl rfl rfl Tryz.underlying9 (0) om om) rfl ?_
   refine aU2 ?_
   exact oJt 4 21)
  (λhg8 _=>by
   refine aU3 ?_
   exact oJf 4 21) ?_
 refine aU ?_
 refine sCd rfl (λh10=>?_) λh10=>?_
 ·refine aU ?_
  refine Qq [] mixed ?_
  refine dP 0 ?_
  refine dP 1 ?_
  refine dV 2 rfl (Xm rfl rfl rfl Tryz.underlying9 (0) om om) ?_
  refine dQ 3 [] rfl (Qe rfl Qnv rfl (λw1 h1=>c200 w1 s hm)) (dP 4 ?_)
  refine dV 5 rfl (Xm rfl rfl rfl Tryz.underlying9 (0) om om) ?_
  refine dQ 6 [] rfl (Qe rfl QnU rfl (λw1 h1=>c199 w1 (Yt s) (by have:=QiR s;omega))) (dP 7 ?_)
  refine dNi ?_
  exact rV
 exfalso;have hq:=h10;simp at hq
theorem c94(w:World)(h:List UInt8)(p:Nat)(hm:h.length<=100000)(hp:p<=1000000000000):CR 94 #[.string (bs h),.int .i64 (p:Int)] w (.tuple #[.agg #[.int .i64 (itA h p).x.id,.string (bs (itA h p).x.by_)],.int .i64 (itA h p).n,.bool (itA h p).ok]):=by
 have hz:=X9 h (p+12)
 have hu9:=QdH (at4 h (p+12))
 have hbl:(X3 h p).length<=200000:=by unfold X3;rw[List.length_take,List.length_drop];omega
 have hpl:(ZF h p).length<=1000000:=by unfold ZF;rw[List.length_take,List.length_drop];omega
 refine eN2 Tryz.func94 Tryz.ntmps94 ?_
 refine aU2 ?_
 refine oAl (λb1 _=>?_) XJ
 refine aU8 ?_
 refine o_p (Qr rfl rfl Tryz.underlying9) rfl (aT ?_)
 refine oCq rfl (λw1 h1=>c52 w1 _ _ _) (aU2 ?_)
 refine sCd rfl (λh2=>?_) λh2=>?_
 ·have hno:Qat h p=false:=by unfold Qat;rw[decide_eq_false (by have hq:=h2;omega)];rfl
  have hT:itA h p=⟨⟨0,[]⟩,0,false⟩:=by unfold itA;rw[hno];rfl
  refine aU2 ?_
  refine o_p (Qs (cs:=[_,_]) rfl rfl QcY XJ rfl) rfl (aU4 ?_)
  exact Qg (rs:=[.cell 4 72,.tmp 5,.tmp 6]) rfl (.cell rfl YZ aPk rfl (.tmp rfl (.tmp rfl (.nil)))) (λw' h'=>⟨by rw[hT];rfl,h'.below⟩)
 have hl16:p+16<=h.length:=by have hq:=h2;omega
 refine aT6 ?_
 refine Qn (show _=Value.int .i64 ((p+12:Nat):Int)from by first|rfl|(congr 1;omega)) (oCq rfl (λw1 h1=>c45 w1 h (p+12) om om) (aT8 ?_))
 refine Qn (show _=Value.int .i64 ((p+8:Nat):Int)from by first|rfl|(congr 1;omega)) (oCq rfl (λw1 h1=>c45 w1 h (p+8) om om) (aU3 ?_))
 refine oOr 8 27 35 rfl
  (λhg3 _=>by
   refine aU5 ?_
   refine o_p (Qr rfl rfl Tryz.underlying9) rfl (aT4 ?_)
   refine aU ?_
   refine oCq rfl (λw1 h1=>c52 w1 _ _ _) (aU2 ?_)
   exact oJf 8 35)
  (λhg5 _=>by
   refine aU7 ?_
   exact oJt 8 35) ?_
 refine aU ?_
 refine oOr 8 36 44 rfl
  (λhg7 _=>by
   refine aU5 ?_
   refine oCq rfl (λw1 h1=>QlP w1 (at4 h (p+12)) om) (aT2 ?_)
   refine aU3 ?_
   refine o_p (Qr rfl rfl Tryz.underlying9) rfl (aU2 ?_)
   exact oJf 8 44)
  (λhg9 _=>by
   refine aU7 ?_
   exact oJt 8 44) ?_
 refine aU ?_
 refine sCd rfl (λh11=>?_) λh11=>?_
 ·have hno:¬Qat h p=true:=by intro h9;obtain⟨_,k1,k2,k3⟩:=Qa6 h9;have hu:=QdH (at4 h (p+12));have hq:=h11;first|omega|(simp at hq;omega)|(rcases hq with(hq|hq)|hq<;>first|omega|exact hq k1)
  have hT:itA h p=⟨⟨0,[]⟩,0,false⟩:=by unfold itA;rw[if_neg hno]
  refine aU2 ?_
  refine o_p (Qs (cs:=[_,_]) rfl rfl QcY XJ rfl) rfl (aU4 ?_)
  exact Qg (rs:=[.cell 4 72,.tmp 5,.tmp 6]) rfl (.cell rfl YZ aPk rfl (.tmp rfl (.tmp rfl (.nil)))) (λw' h'=>⟨by rw[hT];rfl,h'.below⟩)
 have hyes:Qat h p=true:=by have hq:=h11;unfold Qat;simp only[Bool.and_eq_true,decide_eq_true_eq];first|omega|(simp at hq;omega)|(refine⟨om,?_,?_,?_⟩<;>first|omega|exact hq.1.1)
 obtain⟨_,k1,k2,k3⟩:=Qa6 hyes
 have hu:=QdH (at4 h (p+12))
 have hzn:(at4 h (p+12))=(((at4 h (p+12)).toNat:Nat):Int):=om
 have hT:itA h p=⟨⟨at4 h (p+4),X3 h p⟩,at4 h (p+12),QbM (ZF h p)&&decide (at4 h p=hashS (X3 h p))⟩:=by unfold itA;rw[if_pos hyes]
 have hpn:upT (at4 h (p+12))=(((at4 h (p+12)).toNat+Zn (at4 h (p+12)):Nat):Int):=by unfold Zn;omega
 refine aU2 ?_
 refine Qq [13] mixed ?_
 refine dP 0 ?_
 refine dP 1 ?_
 refine dP 2 ?_
 try refine dWr ?_
 refine Qy (show _=Value.int .i64 ((p+4:Nat):Int)from by first|rfl|(congr 1;omega)) (dQ 3 [[]] rfl (Qe rfl Qe9 rfl (λw1 h1=>c45 w1 h (p+4) om om)) (dP 4 ?_))
 refine dP 5 ?_
 refine dP 6 ?_
 try refine dWr ?_
 refine Qy (show _=Value.int .i64 ((p+16:Nat):Int)from by first|rfl|(congr 1;omega)) (dP 7 ?_)
 refine dP 8 ?_
 refine dP 9 ?_
 try refine dWr ?_
 refine dV 10 rfl (Yo _ _ (p+16) (p+(at4 h (p+12)).toNat) rfl rfl Tryz.underlying9 ⟨_,_,rfl,rfl⟩ ⟨_,_,rfl,om⟩ om om) (Qy (show _=Value.string (bs (X3 h p))from by rw[QlL];unfold X3;congr 3;omega) (dV 11 rfl (Qs (cs:=[_,_]) rfl rfl QcY XJ rfl) (dH 12 rfl (Xo rfl XJ) (λb12 _=>dBa ?_))))
 refine dSt 13 ?_ (hl:=(by simp only[Qj,List.length_set,List.length_cons,List.length_nil,List.length_map];omega))
 refine dTu [] ?_
 refine dNi ?_
 refine aU ?_
 refine Qi (L':=[(0,_),(1,_),(4,_),(5,_),(6,_),(7,_),(8,_)]) aSx (λ_ h=>h) ?_
 refine aT5 ?_
 refine aU2 ?_
 refine oCq rfl (λw1 h1=>QlP w1 (at4 h (p+12)) om) (aT ?_)
 refine o_p (Yo _ _ (p+(at4 h (p+12)).toNat) (p+((at4 h (p+12)).toNat+Zn (at4 h (p+12)))) rfl rfl Tryz.underlying9 ⟨_,_,rfl,om⟩ ⟨_,_,rfl,om⟩ om om) rfl (Qn (show _=Value.string (bs (ZF h p))from by rw[QlL];unfold ZF;congr 3;omega) (oCq rfl (λw1 h1=>c145 w1 (ZF h p) hpl) (aU3 ?_)))
 refine Qq [13] mixed ?_
 refine dLn 0 [[]] ?_
 refine dP 1 ?_
 refine dP 2 ?_
 refine dP 3 ?_
 refine dP 4 ?_
 apply Xg 72
 ·exact rfl
 ·intro hg13
  have hs14:=hg13;try simp only[dT]at hs14
  refine dPo 5 72 hg13 ?_
  refine dPo 6 72 hg13 ?_
  refine dQo 7 72 [[10]] hg13 rfl rfl rfl (Qe rfl Qe9 rfl (λw1 h1=>c45 w1 h p om om)) ?_
  refine dFo 8 72 hg13 ?_
  refine dQo 9 72 [[10]] hg13 rfl rfl rfl (XY rfl rfl X5 aPk rfl) ?_
  refine dQo 10 72 [[]] hg13 rfl rfl rfl (Qe rfl Qle rfl (λw1 h1=>c46 w1 (X3 h p) hbl)) ?_
  refine dPo 11 72 hg13 ?_
  refine dV 12 rfl (QZ rfl rfl hg13 rfl) (dSt 13 ?_ (hl:=(by simp only[Qj,List.length_set,List.length_cons,List.length_nil,List.length_map];omega)))
  refine dTu [] ?_
  refine dP 14 ?_
  refine dP 15 ?_
  refine dNi ?_
  exact Qg (rs:=[.cell 4 72,.tmp 5,.tmp 6]) rfl (.cell rfl YZ aPk rfl (.tmp rfl (.tmp rfl (.nil)))) (λw' h'=>⟨by rw[hT,<-show decide (Y4 (Yt (ZF h p))=[])=QbM (ZF h p)from by rw[Bool.eq_iff_iff,decide_eq_true_eq];exact Qgw _,show decide (Y4 (Yt (ZF h p))=[])=_ from hg13];rfl,h'.below⟩)
 intro hg15
 have hs16:=hg15;try simp only[dN]at hs16
 refine dOf 5 72 hg15 ?_
 refine dOf 6 72 hg15 ?_
 refine dOf 7 72 hg15 ?_
 refine dOf 8 72 hg15 ?_
 refine dOf 9 72 hg15 ?_
 refine dOf 10 72 hg15 ?_
 refine dOf 11 72 hg15 ?_
 refine dV 12 rfl (QN rfl rfl hg15 rfl) (dSt 13 ?_ (hl:=(by simp only[Qj,List.length_set,List.length_cons,List.length_nil,List.length_map];omega)))
 refine dTu [] ?_
 refine dP 14 ?_
 refine dP 15 ?_
 refine dNi ?_
 exact Qg (rs:=[.cell 4 72,.tmp 5,.tmp 6]) rfl (.cell rfl YZ aPk rfl (.tmp rfl (.tmp rfl (.nil)))) (λw' h'=>⟨by rw[hT,<-show decide (Y4 (Yt (ZF h p))=[])=QbM (ZF h p)from by rw[Bool.eq_iff_iff,decide_eq_true_eq];exact Qgw _,show decide (Y4 (Yt (ZF h p))=[])=_ from hg15];rfl,h'.below⟩)
instance:TFn Tryz.prog 155:=⟨by kernel_rfl⟩
instance:TFn Tryz.prog 61:=⟨by kernel_rfl⟩
attribute [local irreducible] Gx.h1S Gx.h2S Gx.inS Gx.inB Gx.inL Gx.itA Gx.isHd Gx.stoE Gx.upT Gx.at4 Gx.strE Gx.itR Gx.halfK Gx.halfS Gx.plsI Gx.hashS Gx.sumS
set_option maxRecDepth 20000
theorem c155(w:World)(s:List UInt8)(hm:s.length<=1000000000):CR 155 #[.string (bs s)] w (.bool (QbM s)):=by
 refine eN1 Tryz.func155 Tryz.ntmps155 ?_
 refine YO ?_
 refine Qp (α:=Nat) [2,3,4,5,6,7,8,9,10,11,12,13] (λk=>[(3,.int .i64 (k:Int))]) (λ_=>_) (λk=>k<=s.length/\QbM (s.take k)=true) (λk=>s.length-k) 0 ⟨Nat.zero_le _,rfl⟩ aSx (λw h=>h) (λk hkk=>?_)
 obtain⟨hk1,hk2⟩:=hkk
 refine aU5 ?_
 refine o_p (Qr rfl rfl Tryz.underlying9) rfl (aU2 ?_)
 refine sCd rfl (λh1=>?_) λh1=>?_
 ·have hk:k<s.length:=by omega
  have hst:=Qi5 hk
  refine aU7 ?_
  refine o_p (Xm rfl rfl rfl Tryz.underlying9 (k) om om) rfl ?_
  refine aU2 ?_
  refine sCd rfl (λh2=>?_) λh2=>?_
  ·have hz:¬s.getD k 0=0:=by have hq:=h2;intro h9;exact hq (u8z.2 h9)
   have hf:=Ql5 hk hz
   refine aU4 ?_
   exact rV (h:=by rw[hf];rfl)
  have hz:s.getD k 0=0:=u8z.1 (by have hq:=h2;simpa using hq)
  refine aT5 ?_
  refine aU2 ?_
  exact QH (k+1) om ⟨om,by rw[hst,hk2,hz];rfl⟩ aSx (λw h=>h)
 obtain rfl:k=s.length:=om
 rw[List.take_length]at hk2
 refine Qk rfl ?_
 refine aU4 ?_
 exact rV (h:=by rw[hk2];rfl)
theorem c12(w:World)(s:List UInt8)(hm:s.length<=1000000):CR 12 #[.string (bs s)] w (.int .i64 (strE s)):=by
 refine eN1 Tryz.func12 Tryz.ntmps12 ?_
 refine aU7 ?_
 refine o_p (Qr rfl rfl Tryz.underlying9) rfl (aT ?_)
 refine aU6 ?_
 refine oCq rfl (λw1 h1=>c56 w1 _ _ _) (aU2 ?_)
 refine oOr 4 10 14 rfl
  (λhg1 _=>by
   refine aU3 ?_
   refine o_p (Zm rfl rfl rfl om om) rfl (aU2 ?_)
   exact oJf 4 14)
  (λhg3 _=>by
   refine aU3 ?_
   exact oJt 4 14) ?_
 refine aU ?_
 refine sCd rfl (λh5=>?_) λh5=>?_
 ·have h9:strE s=10:=by unfold strE;rw[if_neg];intro h8;first|(have hq:=h5;simp at hq;omega)|(have hq:=h5;omega)|(have hg:=hg3;simp at hg;omega)
  refine aU4 ?_
  exact rV (h:=by rw[h9];rfl)
 have h9:strE s=0:=by unfold strE;rw[if_pos];first|(have hq:=h5;simp at hq;omega)|(have hq:=h5;omega)|(have hg:=hg3;have hq:=h5;simp at hg;omega)
 refine aU5 ?_
 exact rV (h:=by rw[h9];rfl)
theorem c112(w:World)(s hf:List UInt8)(a p:Nat)(hm:s.length<=100000)(hs:SegOf s hf a)(hp:p<=1000000):CR 112 #[.string (bs s),.int .i64 (a:Int),.int .i64 (p:Int),.int .i64 (hf.length:Int)] w (.tuple #[.agg #[.int .i64 (itR hf p).x.id,.string (bs (itR hf p).x.by_)],.int .i64 (itR hf p).n,.bool (itR hf p).ok]):=by
 have hle:=hs.le
 have hz:=X9 hf (p+12)
 have hu9:=QdH (at4 hf (p+12))
 have hbl:(X3 hf p).length<=200000:=by unfold X3;rw[List.length_take,List.length_drop];omega
 have hpl:(ZF hf p).length<=1000000:=by unfold ZF;rw[List.length_take,List.length_drop];omega
 refine eN4 Tryz.func112 Tryz.ntmps112 ?_
 refine aU2 ?_
 refine oAl (λb1 _=>?_) XJ
 refine aT8 ?_
 refine aU3 ?_
 refine sCd rfl (λh2=>?_) λh2=>?_
 ·have hno:Qat hf p=false:=by unfold Qat;rw[decide_eq_false (by have hq:=h2;omega)];rfl
  have hT:=Qlq hno
  refine aU2 ?_
  refine o_p (Qs (cs:=[_,_]) rfl rfl QcY XJ rfl) rfl (aU4 ?_)
  exact Qg (rs:=[.cell 8 72,.tmp 9,.tmp 10]) rfl (.cell rfl YZ aPk rfl (.tmp rfl (.tmp rfl (.nil)))) (λw' h'=>⟨by rw[hT];rfl,h'.below⟩)
 have hl16:p+16<=hf.length:=by have hq:=h2;omega
 refine aT6 ?_
 refine Qn (show _=Value.int .i64 ((a+p:Nat):Int)from by first|rfl|(exact congrArg (Value.int .i64) om)) (aT7 ?_)
 refine Qn (show _=Value.int .i64 ((a+p+12:Nat):Int)from by first|rfl|(exact congrArg (Value.int .i64) om)) (oCq rfl (λw1 h1=>by have h9:=c60 w1 s (a+p+12) 4 om om om;rw[XN,show(a+p+12)=a+(p+12)from om,hs.at4 (q:=p+12) om]at h9;exact h9) (aT8 ?_))
 refine Qn (show _=Value.int .i64 ((a+p+8:Nat):Int)from by first|rfl|(exact congrArg (Value.int .i64) om)) (oCq rfl (λw1 h1=>by have h9:=c60 w1 s (a+p+8) 4 om om om;rw[XN,show(a+p+8)=a+(p+8)from om,hs.at4 (q:=p+8) om]at h9;exact h9) (aU3 ?_))
 refine oOr 3 32 35 rfl
  (λhg3 _=>by
   refine aU4 ?_
   exact oJf 3 35)
  (λhg5 _=>by
   refine aU2 ?_
   exact oJt 3 35) ?_
 refine aU ?_
 refine oOr 4 36 40 rfl
  (λhg7 _=>by
   refine aU6 ?_
   exact oJf 4 40)
  (λhg9 _=>by
   refine aU3 ?_
   exact oJt 4 40) ?_
 refine aU ?_
 refine oOr 7 41 48 rfl
  (λhg11 _=>by
   refine aU5 ?_
   refine oCq rfl (λw1 h1=>Qni w1 (at4 hf (p+12)) om) (aT2 ?_)
   refine aU4 ?_
   exact oJf 7 48)
  (λhg13 _=>by
   refine aU6 ?_
   exact oJt 7 48) ?_
 refine aU ?_
 refine sCd rfl (λh15=>?_) λh15=>?_
 ·have hno:¬Qat hf p=true:=by intro h9;obtain⟨_,k1,k2,k3⟩:=Qa6 h9;have hq:=h15;first|omega|(simp at hq;omega)
  have hT:=Qlq (Bool.eq_false_iff.2 hno)
  refine aU ?_
  refine Qi (L':=[(0,_),(8,_),(9,_),(10,_),(11,_),(12,_)]) aSx (λ_ h=>h) ?_
  refine aU ?_
  refine o_p (Qs (cs:=[_,_]) rfl rfl QcY XJ rfl) rfl (aU4 ?_)
  exact Qg (rs:=[.cell 8 72,.tmp 9,.tmp 10]) rfl (.cell rfl YZ aPk rfl (.tmp rfl (.tmp rfl (.nil)))) (λw' h'=>⟨by rw[hT];rfl,h'.below⟩)
 have hyes:Qat hf p=true:=by have hq:=h15;unfold Qat;simp only[Bool.and_eq_true,decide_eq_true_eq];first|omega|(simp at hq;omega)
 obtain⟨_,k1,k2,k3⟩:=Qa6 hyes
 have hzn:(at4 hf (p+12))=(((at4 hf (p+12)).toNat:Nat):Int):=om
 have hpn:upT (at4 hf (p+12))=(((at4 hf (p+12)).toNat+Zn (at4 hf (p+12)):Nat):Int):=by unfold Zn;omega
 have hT:=Qma hyes
 refine aU2 ?_
 refine Qi (L':=[(0,_),(8,_),(9,_),(10,_),(11,_),(12,_)]) aSx (λ_ h=>h) ?_
 refine aT4 ?_
 refine Qn (show _=Value.int .i64 ((a+p+16:Nat):Int)from by first|rfl|(exact congrArg (Value.int .i64) om)) (aT3 ?_)
 refine o_p (Yo _ _ (a+p+16) (a+(p+(at4 hf (p+12)).toNat)) rfl rfl Tryz.underlying9 ⟨_,_,rfl,rfl⟩ ⟨_,_,rfl,om⟩ om om) rfl (Qn (show _=Value.string (bs (X3 hf p))from by rw[show a+p+16=a+(p+16)from om,hs.cut om,QlL];unfold X3;rw[show p+(at4 hf (p+12)).toNat-(p+16)=(at4 hf (p+12)).toNat-16 from om]) (aT9 ?_))
 refine aU2 ?_
 refine oCq rfl (λw1 h1=>Qni w1 (at4 hf (p+12)) om) (aT ?_)
 refine o_p (Yo _ _ (a+(p+(at4 hf (p+12)).toNat)) (a+(p+((at4 hf (p+12)).toNat+Zn (at4 hf (p+12))))) rfl rfl Tryz.underlying9 ⟨_,_,rfl,om⟩ ⟨_,_,rfl,om⟩ om om) rfl (Qn (show _=Value.string (bs (ZF hf p))from by rw[hs.cut om,QlL];unfold ZF;rw[show p+((at4 hf (p+12)).toNat+Zn (at4 hf (p+12)))-(p+(at4 hf (p+12)).toNat)=Zn (at4 hf (p+12))from om]) (oCq rfl (λw1 h1=>c155 w1 (ZF hf p) om) (aU2 ?_)))
 refine oOr 7 68 75 rfl
  (λhg16 _=>by
   refine aU5 ?_
   refine oCq rfl (λw1 h1=>by have h9:=c60 w1 s (a+p) 4 om om om;rw[XN,show(a+p)=a+(p+0)from om,hs.at4 (q:=p+0) om]at h9;exact h9) (aU3 ?_)
   refine oCq rfl (λw1 h1=>c61 w1 (X3 hf p) om) (aU2 ?_)
   exact oJf 7 75)
  (λhg18 _=>by
   refine aU6 ?_
   exact oJt 7 75) ?_
 refine aU ?_
 refine sCd rfl (λh20=>?_) λh20=>?_
 ·have hbad:¬(QbM (ZF hf p)&&decide (at4 hf p=hashS (X3 hf p)))=true:=by intro h9;simp only[Bool.and_eq_true,decide_eq_true_eq]at h9;have hq:=h20;first|(simp[h9.1,h9.2]at hq;done)|(simp at hq;simp[h9.1,h9.2]at hq;done)|(have hg:=hg18;simp[h9.1,h9.2]at hq hg;done)
  rw[if_neg hbad]at hT
  refine aU2 ?_
  refine o_p (Qs (cs:=[_,_]) rfl rfl QcY XJ rfl) rfl (aU4 ?_)
  exact Qg (rs:=[.cell 8 72,.tmp 9,.tmp 10]) rfl (.cell rfl YZ aPk rfl (.tmp rfl (.tmp rfl (.nil)))) (λw' h'=>⟨by rw[hT];rfl,h'.below⟩)
 have hgood:(QbM (ZF hf p)&&decide (at4 hf p=hashS (X3 hf p)))=true:=by have hq:=h20;first|(simpa using hq)|(simp only[Bool.and_eq_true,decide_eq_true_eq];simp at hq;exact hq)|(have hg:=hg18;simp at hq hg;simp[hq,hg])|(simp_all;done)
 rw[if_pos hgood]at hT
 refine aT6 ?_
 refine Qn (show _=Value.int .i64 ((a+p+4:Nat):Int)from by first|rfl|(exact congrArg (Value.int .i64) om)) (oCq rfl (λw1 h1=>by have h9:=c60 w1 s (a+p+4) 4 om om om;rw[XN,show(a+p+4)=a+(p+4)from om,hs.at4 (q:=p+4) om]at h9;exact h9) (aU ?_))
 refine o_p (Qs (cs:=[_,_]) rfl rfl QcY XJ rfl) rfl (aU ?_)
 refine oCq rfl (λw1 h1=>Qni w1 (at4 hf (p+12)) om) (aU4 ?_)
 exact Qg (rs:=[.cell 8 72,.tmp 9,.tmp 10]) rfl (.cell rfl YZ aPk rfl (.tmp rfl (.tmp rfl (.nil)))) (λw' h'=>⟨by rw[hT];rfl,h'.below⟩)
end Go.Proofs
namespace Gx
open Go Go.RowKit
theorem Qdf(u v:List UInt8)(i:Nat):at1 (u++v) (u.length+i)=at1 v i:=by
 unfold at1;rw[List.getD_eq_getElem?_getD,List.getD_eq_getElem?_getD,List.getElem?_append_right om,show u.length+i-u.length=i by omega]
theorem Qmb(u v:List UInt8)(i:Nat):at4 (u++v) (u.length+i)=at4 v i:=by
 unfold at4 at2;rw[show u.length+i+1=u.length+(i+1) by omega,show u.length+i+2=u.length+(i+2) by omega,show u.length+(i+2)+1=u.length+(i+2+1) by omega,Qdf,Qdf,Qdf,Qdf]
theorem Qfv{x:Int}(r:List UInt8)(h:0<=x/\x<4294967296):at4 (le4 x++r) 0=x:=by
 have e:le4 x++r=by8 x::by8 (x/256)::by8 (x/65536)::by8 (x/16777216)::r:=rfl;rw[e];unfold at4 at2;simp only[QoX,QoD,Qff,Nat.zero_add,show(2:Nat)=0+1+1 from rfl,show(3:Nat)=0+1+1+1 from rfl];omega
theorem Qop{u:List UInt8}{x:Int}(r:List UInt8)(h:0<=x/\x<4294967296):at4 (u++(le4 x++r)) u.length=x:=by
 have:=Qmb u (le4 x++r) 0;rw[Nat.add_zero]at this;rw[this,Qfv r h]
def Qjf(co:Nat)(x:SItm):List UInt8:=if co=3 then nmB [hashS x.by_,x.id]else nmB [x.id]
theorem Qkl(a b:Int):nmB [a,b]=le4 a++(le4 b++[]):=rfl
theorem QmZ(a:Int):nmB [a]=le4 a++[]:=rfl
theorem Qlo{x:SItm}(h:0<=x.id/\x.id<4294967296):at4 (Qjf 2 x) 0=x.id/\at4 (Qjf 3 x) 0=hashS x.by_/\at4 (Qjf 3 x) 4=x.id:=by
 have hh:=Qgv x.by_;refine⟨?_,?_,?_⟩
 ·show at4 (nmB [x.id]) 0=_;rw[QmZ,Qfv _ h]
 ·show at4 (nmB [hashS x.by_,x.id]) 0=_;rw[Qkl,Qfv _ om]
 ·show at4 (nmB [hashS x.by_,x.id]) 4=_;rw[Qkl];exact Qop (u:=le4 (hashS x.by_)) [] h
def Z9(h v:List UInt8):List SItm:=if(itA h (at4 v 0).toNat).ok=true/\(itA h (at4 v 0).toNat).n=at4 v 4 then[(itA h (at4 v 0).toNat).x]else[]
def QP(s v:List UInt8):List SItm:=if v.length=8 then Z9 (h1S s) v++Z9 (h2S s) v else[]
theorem QnA{h:List UInt8}{p:Nat}(ho:(itA h p).ok=true):16+((itA h p).x.by_.length:Int)=(itA h p).n:=by
 have hs:=Qkd ho;obtain⟨h1,h2,h3,h4⟩:=Qa6 hs;have hu:=QdH (at4 h (p+12));unfold itA;rw[if_pos hs];show 16+((X3 h p).length:Int)=at4 h (p+12);unfold X3;rw[List.length_take,List.length_drop];omega
theorem Qmm{h:List UInt8}{p:Nat}(hp:h.length<p+16):itA h p=⟨⟨0,[]⟩,0,false⟩:=by
 have hno:Qat h p=false:=by unfold Qat;rw[decide_eq_false om];rfl
 unfold itA;rw[hno];rfl
theorem Qld{h v:List UInt8}(hp:h.length<(at4 v 0).toNat+16):Z9 h v=[]:=by
 unfold Z9;rw[Qmm hp,if_neg (by simp)]
theorem Qkh{h v:List UInt8}:Z9 h v=if(itR h (at4 v 0).toNat).ok=true/\16+((itR h (at4 v 0).toNat).x.by_.length:Int)=at4 v 4 then[(itR h (at4 v 0).toNat).x]else[]:=by
 unfold Z9
 by_cases ho:(itA h (at4 v 0).toNat).ok=true
 ·have h1:(itR h (at4 v 0).toNat).ok=true:=by rw[QdG];exact ho
  have h2:=(QlH h1).2;have h3:=QnA ho;rw[h2];simp only[];rw[h3];simp[ho]
 ·have h1:¬(itR h (at4 v 0).toNat).ok=true:=by rw[QdG];exact ho
  rw[if_neg λh=>ho h.1,if_neg λh=>h1 h.1]
theorem Qdr(h v:List UInt8):(Z9 h v).length<=1:=by unfold Z9;split<;>simp
theorem Qgk(s v:List UInt8):(QP s v).length<=2:=by
 unfold QP;split
 ·rw[List.length_append];have h1:=Qdr (h1S s) v;have h2:=Qdr (h2S s) v;omega
 ·simp
theorem Qh2{h v:List UInt8}:∀x∈Z9 h v,x.by_.length<=h.length:=λx hx=>by
 unfold Z9 at hx;split at hx
 ·rename_i h9;rw[List.mem_singleton]at hx;subst hx;exact(QmX h9.1).2.2
 ·cases hx
theorem Qbg{s v:List UInt8}(h8:8192<=s.length):∀x∈QP s v,x.by_.length<=s.length:=λx hx=>by
 unfold QP at hx;split at hx
 ·have e1:=Qdg h8;have e2:=Qc6 (s:=s);rcases List.mem_append.1 hx with h|h
  ·have:=Qh2 x h;omega
  ·have:=Qh2 x h;omega
 ·cases hx
def QfI(l:List SItm)(own:List UInt8):Option Int:=(l.find? λx=>decide (x.by_=own)).map (·.id)
def XK(l:List SItm)(id:Int):Option (List UInt8):=(l.find? λx=>decide (x.id=id)).map (·.by_)
def fbE(s own:List UInt8)(e:TEnt):Option Int:=if at4 e.key 0=hashS own then QfI (QP s e.val) own else none
def fbH(s own:List UInt8)(E:List TEnt):Option Int:=E.findSome? (fbE s own)
theorem QjI{s own:List UInt8}{E:List TEnt}{k:Nat}(hk:k<E.length)(hb:fbH s own (E.take k)=none){r:Int}(h:fbE s own (nth E k)=some r):fbH s own E=some r:=by
 have e:E=E.take k++nth E k::E.drop (k+1):=by
  conv=>lhs;rw[<-List.take_append_drop k E,List.drop_eq_getElem_cons hk]
  congr 2;unfold nth;rw[List.getD_eq_getElem?_getD,List.getElem?_eq_getElem hk];rfl
 unfold fbH at hb ⊢;rw[e,List.findSome?_append,hb,List.findSome?_cons,h];rfl
theorem QfL{s own:List UInt8}{E:List TEnt}{k:Nat}(hk:k<E.length)(hb:fbH s own (E.take k)=none)(h:fbE s own (nth E k)=none):fbH s own (E.take (k+1))=none:=by
 unfold fbH at hb ⊢;rw[List.take_add_one,List.getElem?_eq_getElem hk,List.findSome?_append,hb]
 have e:nth E k=E[k]:=by
  unfold nth;rw[List.getD_eq_getElem?_getD,List.getElem?_eq_getElem hk];rfl
 rw[e]at h;simp[h]
theorem Qim{α:Type}[Inhabited α]{l:List α}{p:α->Bool}{k:Nat}(hk:k<l.length)(hb:∀i,i<k->p (nth l i)=false)(h:p (nth l k)=true):l.find? p=some (nth l k):=by
 have en:∀i(hi:i<l.length),nth l i=l[i]:=λi hi=>by
  unfold nth;rw[List.getD_eq_getElem?_getD,List.getElem?_eq_getElem hi];rfl
 rw[List.find?_eq_some_iff_getElem];refine⟨h,k,hk,(en k hk).symm,λj hj=>?_⟩;have h9:=hb j hj;rw[en j om]at h9;simp[h9]
theorem Qis{α:Type}[Inhabited α]{l:List α}{p:α->Bool}(hb:∀i,i<l.length->p (nth l i)=false):l.find? p=none:=by
 rw[List.find?_eq_none];intro x hx;obtain⟨i,hi,rfl⟩:=List.mem_iff_getElem.1 hx;have h9:=hb i hi
 have en:nth l i=l[i]:=by
  unfold nth;rw[List.getD_eq_getElem?_getD,List.getElem?_eq_getElem hi];rfl
 rw[en]at h9;simp[h9]
end Gx
namespace Gx
open Go Go.RowKit
def Ys(s:List UInt8)(m:Nat):List UInt8:=if m=0 then h1S s else h2S s
def YV(s v:List UInt8):Nat->List SItm
 | 0=>[]
 | m+1=>YV s v m++Z9 (Ys s m) v
theorem Qf1{s v:List UInt8}(h:v.length=8):YV s v 2=QP s v:=by
 unfold QP;rw[if_pos h,YV,YV,YV,List.nil_append,Ys,Ys,if_pos (by rfl),if_neg (by decide)]
theorem Qge(s v:List UInt8):∀m,(YV s v m).length<=m
 | 0=>Nat.le_refl _
 | m+1=>by
  rw[YV,List.length_append];have h1:=Qge s v m;have h2:=Qdr (Ys s m) v;omega
theorem QdE{s:List UInt8}(h:8192<=s.length)(m:Nat):(Ys s m).length=s.length-8192:=by
 unfold Ys;split
 ·exact Qdg h
 ·exact Qc6 _
theorem QkA{s:List UInt8}(h:8192<=s.length){m:Nat}(hm:m<2):SegOf s (Ys s m) (m*8192):=by
 unfold Ys
 by_cases h0:m=0
 ·rw[if_pos h0,h0];exact QoZ h
 ·rw[if_neg h0,show m=1 by omega];exact QoA h
theorem Qd9{s v:List UInt8}(h:8192<=s.length)(hp:s.length-8192<(at4 v 0).toNat):∀m,YV s v m=[]
 | 0=>rfl
 | m+1=>by
  rw[YV,Qd9 h hp m,Qld (by rw[QdE h];omega)];rfl
theorem QnB{hf:List UInt8}{p:Nat}:(itR hf p).x.by_.length<=hf.length:=by
 unfold itR;split
 ·rename_i h;exact(QmX h).2.2
 ·exact Nat.zero_le _
end Gx
namespace Go.Proofs
open Go Go.RowKit Gx
attribute [local irreducible] Go.Calls Gx.S Gx.O Gx.D Gx.OpP Gx.OpQ Gx.OpH
set_option maxRecDepth 20000
instance:TFn Tryz.prog 112:=⟨by kernel_rfl⟩
instance:TFn Tryz.prog 62:=⟨by kernel_rfl⟩
theorem c62(w:World)(s v:List UInt8)(hm:s.length<=16384)(h8:8192<=s.length)(hv:v.length<=100000):CE 62 #[.string (bs s),.string (bs v)] w [] (λg:Option Addr×Nat=>.slice g.1 (QP s v).length g.2) (λg=>True) λg=>[.own (.slice g.1 (QP s v).length g.2) 72 2 (QP s v).length ((QP s v).flatMap SItm.vals)]:=by
 have h4a:=X9 v 0
 have h4b:=X9 v 4
 refine eN2 Tryz.func62 Tryz.ntmps62 ?_
 refine Zr ?_
 refine o_p (Qr rfl rfl Tryz.underlying9) rfl (aU2 ?_)
 refine sCd rfl (λh1=>?_) λh1=>?_
 ·have hT:QP s v=[]:=by unfold QP;rw[if_neg (by have hq:=h1;omega)]
  refine aU5 ?_
  exact rT rfl rfl (λw' h'=>⟨(none,0),by rw[hT];rfl,trivial,by rw[hT];exact(h'.own_nil 72 2).ent aEt⟩)
 have hv8:v.length=8:=by have hq:=h1;omega
 refine aU4 ?_
 refine o_p (Qr rfl rfl Tryz.underlying9) rfl (aT ?_)
 refine Qn (show _=Value.int .i64 ((s.length-8192:Nat):Int)from congrArg (Value.int .i64) om) (aU5 ?_)
 refine oCq rfl (λw1 h1=>by have h9:=c60 w1 v 0 4 om om om;rw[XN]at h9;exact h9) (aU ?_)
 refine oCq rfl (λw1 h1=>by have h9:=c60 w1 v 4 4 om om om;rw[XN]at h9;exact h9) (aU9 ?_)
 refine Qi (L':=[(0,_),(4,_),(5,_),(6,_),(7,_),(8,_),(9,_)]) aSx (λ_ h=>h) ?_
 refine Qp (α:=Nat×Option Addr×Nat) [5,9,10,11,12,24,25,26,27,28,29,30,31,32,33,34,35,36,37,38,39,40,41,42,43,44,45,46,47,48,49,50,51,52,53,54] (λy=>[(9,.int .i64 ((y.1*8192:Nat):Int)),(5,.slice y.2.1 (YV s v y.1).length y.2.2)]) (λy=>HS w [] [.own (.slice y.2.1 (YV s v y.1).length y.2.2) 72 2 (YV s v y.1).length ((YV s v y.1).flatMap SItm.vals)]) (λy=>y.1<=2) (λy=>2-y.1) (0,none,0) (by decide) aSx (λw h=>(h.own_nil 72 2).ent aEt) (λ⟨k,ga⟩hk1=>?_)
 dsimp only
 simp only[]at hk1
 refine aU6 ?_
 refine QJ 4 26 30 rfl
  (λhg2 _=>by
   refine aU6 ?_
   exact oJt 4 30)
  (λhg4 _=>by
   refine aU3 ?_
   exact oJf 4 30) ?_
 refine aU ?_
 refine sCd rfl (λh6=>?_) λh6=>?_
 ·have hk2:k<2:=by have hq:=h6;omega
  have hfl:=QdE h8 k
  have hst:YV s v (k+1)=YV s v k++Z9 (Ys s k) v:=rfl
  have hln:=Qge s v k
  have hsg:=QkA h8 hk2
  have hby:(itR (Ys s k) (at4 v 0).toNat).x.by_.length<=16384:=Nat.le_trans QnB om
  refine aU8 ?_
  refine Qn (show _=Value.int .i64 (((at4 v 0).toNat:Nat):Int)from congrArg (Value.int .i64) om) (aU ?_)
  refine oCq rfl (λw1 h1=>by have h9:=c112 w1 s (Ys s k) (k*8192) (at4 v 0).toNat om hsg om;rw[hfl]at h9;exact h9) (aU4 ?_)
  refine oAl (λb7 _=>?_) XJ
  refine aU8 ?_
  refine QJ 7 43 50 rfl
   (λhg8 _=>by
    refine aU5 ?_
    refine o_p (Qr rfl rfl Tryz.underlying9) rfl (aT2 ?_)
    refine aU4 ?_
    exact oJt 7 50)
   (λhg10 _=>by
    refine aU6 ?_
    exact oJf 7 50) ?_
  refine aU ?_
  refine sCd rfl (λh12=>?_) λh12=>?_
  ·have hkk:Z9 (Ys s k) v=[(itR (Ys s k) (at4 v 0).toNat).x]:=by rw[Qkh,if_pos (by have hq:=h12;simpa using hq)]
   refine aU3 ?_
   refine o_h (Qc (cs:=[_,_]) rfl rfl Yd XJ rfl rfl rfl) rfl (λb13 _=>?_)
   refine o_h (Qz _ rfl rfl rfl Yd Tryz.underlying61 XJ rfl aPk (Q5 aPk) rfl (by intro u hu;simp only[List.mem_cons,List.mem_nil_iff,or_false]at hu;rcases hu with rfl|rfl<;>rfl) om (by simp only[maxLen];omega)) rfl (λb14 _=>aU3 ?_)
   refine Qi (L':=[(0,_),(4,_),(5,_),(6,_),(7,_),(8,_),(9,_)]) aSx (λ_ h=>h) ?_
   refine aT3 ?_
   refine Qn (show _=Value.int .i64 (((k+1)*8192:Nat):Int)from congrArg (Value.int .i64) om) (aU2 ?_)
   exact QH (k+1,b14.1,b14.2) (by(try simp only[]);omega) (by(try simp only[]);omega) (by dsimp only;rw[hst,hkk,List.length_append];exact aSx) (λw h=>by dsimp only;rw[hst,hkk,List.length_append,Xd];exact h.ent aEt)
  have hkk:Z9 (Ys s k) v=[]:=by rw[Qkh,if_neg (λh9=>by have hq:=h12;simp[h9.1,h9.2]at hq)]
  refine aT5 ?_
  refine Qn (show _=Value.int .i64 (((k+1)*8192:Nat):Int)from congrArg (Value.int .i64) om) (aU2 ?_)
  exact QH (k+1,ga) (by(try simp only[]);omega) (by(try simp only[]);omega) (by dsimp only;rw[hst,hkk,List.append_nil];exact aSx) (λw h=>by dsimp only;rw[hst,hkk,List.append_nil];exact h.ent aEt)
 have hT:QP s v=YV s v k:=by have hq:=h6;rcases Nat.lt_or_ge k 2 with h9|h9;(rw[<-Qf1 hv8,Qd9 h8 om 2,Qd9 h8 om k]);(rw[<-Qf1 hv8,show k=2 from om])
 refine Qk rfl ?_
 refine aU5 ?_
 exact rT rfl rfl (λw' h'=>⟨ga,by rw[hT];rfl,trivial,by rw[hT];exact h'.ent aEt⟩)
theorem QlV{l:List SItm}{id:Int}{k:Nat}(hk:k<l.length)(hb:∀i,i<k->¬(nth l i).id=id)(h:(nth l k).id=id):XK l id=some (nth l k).by_:=by
  unfold XK;rw[Qim hk (λi hi=>decide_eq_false (hb i hi)) (decide_eq_true h)];rfl
theorem QlN{l:List SItm}{id:Int}(hb:∀i,i<l.length->¬(nth l i).id=id):XK l id=none:=by
  unfold XK;rw[Qis (p:=λx=>decide (x.id=id)) λi hi=>decide_eq_false (hb i hi)];rfl
theorem Ql3{l:List SItm}{own:List UInt8}{k:Nat}(hk:k<l.length)(hb:∀i,i<k->¬(nth l i).by_=own)(h:(nth l k).by_=own):QfI l own=some (nth l k).id:=by
  unfold QfI;rw[Qim hk (λi hi=>decide_eq_false (hb i hi)) (decide_eq_true h)];rfl
theorem Qcm{w0 w:World}{M:List Nat}{As As':List HA}{a:Option Addr}{cap t k g:Nat}{l:List SItm}(hk:k<l.length)(hg:a=some ⟨g,0,none⟩)(h:HS w0 M As w)(hp:QG As (.own (.slice a l.length cap) t 2 l.length (l.flatMap SItm.vals)) As')(q:Nat)(v:Value)(hv:(SItm.vals (nth l k))[q]?=some v):Rd w [] g (0+k*2+q) v:=by
  have h1:=Rw.rd (h.rw_own sv2 hp rfl) (i:=k) hk q v hv;rw[hg]at h1;exact h1
theorem Qlu{l:List SItm}{own:List UInt8}(hb:∀i,i<l.length->¬(nth l i).by_=own):QfI l own=none:=by
  unfold QfI;rw[Qis (p:=λx=>decide (x.by_=own)) λi hi=>decide_eq_false (hb i hi)];rfl
theorem c21(w:World)(s v:List UInt8)(id:Int)(hm:s.length<=16384)(h8:8192<=s.length)(hv:v.length<=100000):CR 21 #[.string (bs s),.string (bs v),.int .i64 id] w (.tuple #[.string (bs ((XK (QP s v) id).getD [])),.bool (XK (QP s v) id).isSome]):=by
 have hln:=Qgk s v
 refine eN3 Tryz.func21 Tryz.ntmps21 ?_
 refine aU9 ?_
 refine oCh rfl (λw1 h1=>c62 w1 s v hm h8 hv) (λ⟨ta,tc⟩_=>aU8 ?_)
 refine Qp (α:=Nat) [6,7,9,13,14,15,16,17,18,19,20,21,22,23,24,25,26,27,28,29,30] (λk=>[(9,.int .i64 (k:Int))]) (λ_=>HS w [] [.own (.slice (ta,tc).1 (QP s v).length (ta,tc).2) 72 2 (QP s v).length ((QP s v).flatMap SItm.vals)]) (λk=>k<=(QP s v).length/\∀i,i<k->¬(nth (QP s v) i).id=id) (λk=>(QP s v).length-k) 0 ⟨Nat.zero_le _,λi h=>absurd h (Nat.not_lt_zero i)⟩ aSx (λw h=>h.ent aEt) (λk hk1=>?_)
 obtain⟨hk1,hk2⟩:=hk1
 refine aU8 ?_
 refine sCd rfl (λh1=>?_) λh1=>?_
 ·have hk:k<(QP s v).length:=by omega
  refine ZD (λw h=>QaP (a:=ta) (n:=(QP s v).length) om h aPk) λhga=>?_
  obtain⟨gb,hgb,_⟩:=hga
  refine aU7 ?_
  refine o_p (Qa rfl rfl rfl Yd _ rfl om hgb) rfl (aU ?_)
  refine o_q (Qv rfl rfl Q3 (λw h=>Qcm hk hgb h aPk 0 _ rfl)) rfl (aU3 ?_)
  refine sCd rfl (λh2=>?_) λh2=>?_
  ·have hR:(XK (QP s v) id)=some (nth (QP s v) k).by_:=QlV hk hk2 h2
   refine aU4 ?_
   refine o_p (Qa rfl rfl rfl Yd _ rfl om hgb) rfl (aU ?_)
   refine o_q (Qv rfl rfl X5 (λw h=>Qcm hk hgb h aPk 1 _ rfl)) rfl (aU3 ?_)
   exact Qg (rs:=[.tmp 6,.tmp 7]) rfl (.tmp rfl (.tmp rfl (.nil))) (λw' h'=>⟨by rw[hR];rfl,h'.below⟩)
  refine aT5 ?_
  refine aU2 ?_
  exact sBk (k+1) om ⟨om,λi hi=>(Nat.lt_or_ge i k).elim (hk2 i) (λh=>(by have e:i=k:=om;rw[e];exact h2))⟩
 obtain rfl:k=(QP s v).length:=om
 have hR:(XK (QP s v) id)=none:=QlN hk2
 refine Qk rfl ?_
 refine aU5 ?_
 exact Qg (rs:=[.tmp 6,.tmp 7]) rfl (.tmp rfl (.tmp rfl (.nil))) (λw' h'=>⟨by rw[hR];rfl,h'.below⟩)
instance:TFn Tryz.prog 59:=⟨by kernel_rfl⟩
theorem c15(w:World)(s own:List UInt8)(co mo rm:Int)(a:Option Addr)(cap:Nat)(L:List LNd)(T:BT)(d lo hi:Nat)(hm:s.length<=16384)(h8:8192<=s.length)(ho:own.length<=1000000)(hs:Nt w [] a L)(hl:L.length<=1000)(hB:Bel lo hi d T)(hN:NIn (pln L) T)(h0:T.idx=0)(hf:T.flat.length<=10000)(hE:∀x∈T.flat,4<=x.key.length/\x.key.length<=1000000/\x.val.length<=100000):CR 15 #[.string (bs s),.agg #[.int .i64 co,.int .i64 mo,.int .i64 rm,.slice a L.length cap],.string (bs own)] w (.tuple #[.int .i64 ((fbH s own T.flat).getD 0),.bool (fbH s own T.flat).isSome]):=by
 refine eN3 Tryz.func15 Tryz.ntmps15 ?_
 refine aU2 ?_
 refine oBx λb1 _=>?_
 refine aU6 ?_
 refine oCh rfl (λw1 h1=>c59 w1 co mo rm a cap L T d lo hi (hs.later h1.nil) hl hB hN h0 hf) (λ⟨xa,xc⟩_=>aU8 ?_)
 refine Qp (α:=Nat) [6,7,9,10,11,14,15,16,17,18,19,20,21,22,23,24,25,26,27,28,29,30,31,32,33,34,35,36,37,38,39,40,41,42,43,44,45,46,47,48,49,50,51,52,53] (λk=>[(9,.int .i64 (k:Int))]) (λ_=>HS w [] [.own (.slice (xa,xc).1 T.flat.length (xa,xc).2) 50 2 T.flat.length (T.flat.flatMap TEnt.vals),.blk b1 24 4 [.int .i64 co,.int .i64 mo,.int .i64 rm,.slice a L.length cap]]) (λk=>k<=T.flat.length/\fbH s own (T.flat.take k)=none) (λk=>T.flat.length-k) 0 ⟨Nat.zero_le _,rfl⟩ aSx (λw h=>h.ent aEt) (λk hk1=>?_)
 obtain⟨hk1,hk2⟩:=hk1
 refine aU8 ?_
 refine sCd rfl (λh2=>?_) λh2=>?_
 ·have hk:k<T.flat.length:=by omega
  obtain⟨hE1,hE2,hE3⟩:=hE _ (QA hk)
  have hE9:=hE _ (QA hk)
  refine ZD (λw h=>QaP (a:=xa) (n:=T.flat.length) om h aPk) λhga=>?_
  obtain⟨gx,hgx,_⟩:=hga
  refine aU8 ?_
  refine o_p (Qa rfl rfl rfl Xi (k) om om hgx) rfl (aU ?_)
  refine o_q (Qv rfl rfl X5 (λw h=>QfK hk hgx h aPk 0 _ rfl)) rfl (oCq rfl (λw1 h1=>by have h9:=c60 w1 (nth T.flat k).key 0 4 om om om;rw[XN]at h9;exact h9) (aU ?_))
  refine oCq rfl (λw1 h1=>c61 w1 own om) (aU2 ?_)
  refine sCd rfl (λh3=>?_) λh3=>?_
  ·have hst:=QfL hk hk2 (show fbE s own (nth T.flat k)=none from if_neg h3)
   refine Qk rfl ?_
   refine aT3 ?_
   refine aU2 ?_
   exact sBk (k+1) om ⟨om,hst⟩
  have hy:at4 (nth T.flat k).key 0=hashS own:=by have hq:=h3;simpa using hq
  have hln:=Qgk s (nth T.flat k).val
  refine aU6 ?_
  refine o_p (Qa rfl rfl rfl Xi (k) om om hgx) rfl (aU ?_)
  refine o_q (Qv rfl rfl X5 (λw h=>QfK hk hgx h aPk 1 _ rfl)) rfl (oCh rfl (λw1 h1=>c62 w1 s (nth T.flat k).val hm h8 hE9.2.2) (λ⟨ta,tc⟩_=>aU7 ?_))
  refine Qi (L':=[(0,_),(1,_),(2,_),(4,_),(8,_),(9,_),(10,_),(11,_),(12,_),(13,_)]) aSx (λ_ h=>h) ?_
  refine Qp (α:=Nat) [6,7,11,36,37,38,39,40,41,42,43,44,45,46,47,48,49,50,51,52,53] (λj=>[(11,.int .i64 (j:Int))]) (λ_=>HS w [] [.own (.slice (ta,tc).1 (QP s (nth T.flat k).val).length (ta,tc).2) 72 2 (QP s (nth T.flat k).val).length ((QP s (nth T.flat k).val).flatMap SItm.vals),.own (.slice (xa,xc).1 T.flat.length (xa,xc).2) 50 2 T.flat.length (T.flat.flatMap TEnt.vals),.blk b1 24 4 [.int .i64 co,.int .i64 mo,.int .i64 rm,.slice a L.length cap]]) (λj=>j<=(QP s (nth T.flat k).val).length/\∀i,i<j->¬(nth (QP s (nth T.flat k).val) i).by_=own) (λj=>(QP s (nth T.flat k).val).length-j) 0 ⟨Nat.zero_le _,λi h=>absurd h (Nat.not_lt_zero i)⟩ aSx (λw h=>h.ent aEt) (λj hj1=>?_)
  obtain⟨hj1,hj2⟩:=hj1
  refine aU8 ?_
  refine sCd rfl (λh4=>?_) λh4=>?_
  ·have hj:j<(QP s (nth T.flat k).val).length:=by omega
   refine ZD (λw h=>QaP (a:=ta) (n:=(QP s (nth T.flat k).val).length) om h aPk) λhgb=>?_
   obtain⟨gt,hgt,_⟩:=hgb
   refine aU7 ?_
   refine o_p (Qa rfl rfl rfl Yd (j) om om hgt) rfl (aU ?_)
   refine o_q (Qv rfl rfl X5 (λw h=>Qcm hj hgt h aPk 1 _ rfl)) rfl (aU3 ?_)
   refine sCd rfl (λh5=>?_) λh5=>?_
   ·have hR:(fbH s own T.flat)=some (nth (QP s (nth T.flat k).val) j).id:=QjI hk hk2 (by unfold fbE;rw[if_pos hy];exact Ql3 hj hj2 h5)
    refine aU4 ?_
    refine o_p (Qa rfl rfl rfl Yd (j) om om hgt) rfl (aU ?_)
    refine o_q (Qv rfl rfl Q3 (λw h=>Qcm hj hgt h aPk 0 _ rfl)) rfl (aU3 ?_)
    exact Qg (rs:=[.tmp 6,.tmp 7]) rfl (.tmp rfl (.tmp rfl (.nil))) (λw' h'=>⟨by rw[hR];rfl,h'.below⟩)
   refine aT5 ?_
   refine aU2 ?_
   exact sBk (j+1) om ⟨om,λi hi=>(Nat.lt_or_ge i j).elim (hj2 i) (λh=>(by have e:i=j:=om;rw[e];exact h5))⟩
  obtain rfl:j=(QP s (nth T.flat k).val).length:=om
  have hst:=QfL hk hk2 (show fbE s own (nth T.flat k)=none from by unfold fbE;rw[if_pos hy];exact Qlu hj2)
  refine Qk rfl ?_
  refine aT4 ?_
  refine aU2 ?_
  exact sBk (k+1) om ⟨om,hst⟩
 obtain rfl:k=T.flat.length:=om
 have hR:(fbH s own T.flat)=none:=by rw[List.take_length]at hk2;exact hk2
 refine Qk rfl ?_
 refine aU5 ?_
 exact Qg (rs:=[.tmp 6,.tmp 7]) rfl (.tmp rfl (.tmp rfl (.nil))) (λw' h'=>⟨by rw[hR];rfl,h'.below⟩)
instance:TFn Tryz.prog 93:=⟨by kernel_rfl⟩
instance:TFn Tryz.prog 94:=⟨by kernel_rfl⟩
theorem c47(w:World)(q v:List UInt8):CE 47 #[.string (bs q),.string (bs v)] w [] (λg:Nat×Nat=>.func (.func 92) #[] #[.pointer (some ⟨g.1,0,none⟩),.pointer (some ⟨g.2,0,none⟩)]) (λg=>True) λg=>[.blk g.1 9 1 [.string (bs v)],.blk g.2 9 1 [.string (bs q)]]:=by
 refine eN2 Tryz.func47 Tryz.ntmps47 ?_
 refine aU2 ?_
 refine oBx λb1 _=>?_
 refine oBx λb2 _=>?_
 refine aU7 ?_
 exact rT rfl rfl (λw' h'=>⟨(b2,b1),rfl,trivial,h'.ent aEt⟩)
theorem Qlz{q v:List UInt8}(h:v.length=8){m:Nat}(hm:m<=2):∃B,QP q v=YV q v m++B:=by
  rw[<-Qf1 h];rcases(show m=0\/m=1\/m=2 by omega)with rfl|rfl|rfl
  · exact⟨YV q v 2,by rw[YV,List.nil_append]⟩
  · exact⟨Z9 (Ys q 1) v,by rw[YV]⟩
  · exact⟨[],by rw[List.append_nil]⟩
theorem Qml{q:List UInt8}{k:Nat}(hk:k<2):[Value.string (bs (h1S q)),Value.string (bs (h2S q))][k*1]?=some (.string (bs (Ys q k))):=by
  unfold Ys;rcases(show k=0\/k=1 by omega)with rfl|rfl
  · rw[if_pos rfl];rfl
  · rw[if_neg (by decide)];rfl
theorem Ql9{q v:List UInt8}{k:Nat}{x:SItm}(h:v.length=8)(hk:k<2)(hx:Z9 (Ys q k) v=[x]):x∈QP q v:=by
  unfold QP;rw[if_pos h];rcases(show k=0\/k=1 by omega)with rfl|rfl
  · exact List.mem_append_left _ (by rw[show h1S q=Ys q 0 from by simp[Ys],hx];exact List.mem_singleton.2 rfl)
  · exact List.mem_append_right _ (by rw[show h2S q=Ys q 1 from by simp[Ys],hx];exact List.mem_singleton.2 rfl)
theorem c92(w:World)(S:Type)(J:S->Prop)(C:S->HA)(st:S->SItm->S->Prop)(co:S->Bool)(Q:SItm->Prop)(lr:Nat)(q v:List UInt8)(gv gs:Nat)(s:S)(hw:HS w (fps [C s]) [C s] w)(hv:(∀(s2:S)(x:SItm)(w1:World),HS w (fps [C s]) [C s2] w1->J s2->Q x->YM Tryz.prog lr [Value.agg (SItm.vals x).toArray].toArray w1 λe w2=>∃s3:S,e=.returned (.bool (co s3))/\(st s2 x s3/\(co s3=true->J s3))/\HS w1 (fps [C s2]) [C s3] w2))(hrv:Rd w (fps [C s]) gv 0 (.string (bs v)))(hrs:Rd w (fps [C s]) gs 0 (.string (bs q)))(hm:q.length<=16384)(h8:8192<=q.length)(hvl:v.length<=100000)(hQ:∀x∈QP q v,Q x)(hJ:J s):CE 92 #[.func (.yield lr) #[] #[],.pointer (some ⟨gv,0,none⟩),.pointer (some ⟨gs,0,none⟩)] w (fps [C s]) (λg:S×Bool=>.tuple #[]) (λg=>RunY st co s (QP q v) g.1 g.2) λg=>[C g.1]:=by
 have h4a:=X9 v 0
 have h4b:=X9 v 4
 refine eW3 Tryz.func92 Tryz.ntmps92 hw ?_
 refine aU3 ?_
 refine o_q (Qb rfl rfl X5 (hrv)) rfl (o_p (Qr rfl rfl Tryz.underlying9) rfl (aU2 ?_))
 refine sCd rfl (λh1=>?_) λh1=>?_
 ·have hT:QP q v=[]:=by unfold QP;rw[if_neg (by have hq:=h1;omega)]
  exact QkG rfl (λw' h'=>⟨(s,true),rfl,by rw[hT];exact .nil s,h'.ent aEt⟩)
 have hv8:v.length=8:=by have hq:=h1;omega
 refine aU2 ?_
 refine Qq [] mixed ?_
 refine dQ 0 [] rfl (Qb rfl rfl X5 (hrv)) (dQ 1 [] rfl (Qe rfl Qe9 rfl (λw1 h1=>c45 w1 v 0 om om)) (dQ 2 [] rfl (Qb rfl rfl X5 (hrv)) (dQ 3 [] rfl (Qe rfl Qe9 rfl (λw1 h1=>c45 w1 v 4 om om)) (dP 4 ?_))))
 refine dP 5 ?_
 refine dNi ?_
 refine aU2 ?_
 refine o_q (Qb rfl rfl X5 (hrs)) rfl (oCq rfl (λw1 h1=>c93 w1 q om h8) (aU3 ?_))
 refine Qi (L':=[(0,_),(4,_),(5,_),(19,_),(20,_)]) aSx (λ_ h=>h) ?_
 refine Qp (α:=Nat×S) [7,8,9,10,20,21,22,23,24,25,26,27,28,29,30,31,32,33,34,35,36,37,38,39,40,41,42] (λx=>[(20,.int .i64 (x.1:Int))]) (λx=>HS w (fps [C s]) [C x.2]) (λx=>x.1<=2/\RunY st co s (YV q v x.1) x.2 true/\J x.2) (λx=>2-x.1) (0,s) ⟨Nat.zero_le _,.nil s,hJ⟩ aSx (λw h=>h.ent aEt) (λ⟨k,sk⟩hx=>?_)
 dsimp only
 obtain⟨hk1,hk2,hk3⟩:=hx
 simp only[]at hk1 hk2 hk3
 refine aU5 ?_
 refine sCd rfl (λh2=>?_) λh2=>?_
 ·have hk0:k<2:=by have hq:=h2;omega
  have hfl:=QdE h8 k
  have hst:YV q v (k+1)=YV q v k++Z9 (Ys q k) v:=rfl
  refine aU5 ?_
  refine o_p (Qka rfl rfl rfl QkP X5 _ rfl om (Qml hk0)) rfl (aU6 ?_)
  refine Qn (show _=Value.int .i64 (((at4 v 0).toNat:Nat):Int)from congrArg (Value.int .i64) om) (oCq rfl (λw1 h1=>c94 w1 (Ys q k) (at4 v 0).toNat om om) (aU4 ?_))
  refine oAl (λb3 _=>?_) XJ
  refine aU8 ?_
  refine QJ 4 31 35 rfl
   (λhg4 _=>by
    refine aU6 ?_
    exact oJt 4 35)
   (λhg6 _=>by
    refine aU3 ?_
    exact oJf 4 35) ?_
  refine aU ?_
  refine Qhr (α:=S×Bool) 5 36 41 _ (λx=>!x.2) (λx=>HS w (fps [C s]) [.blk b3 72 2 [.int .i64 (itA (Ys q k) (at4 v 0).toNat).x.id,.string (bs (itA (Ys q k) (at4 v 0).toNat).x.by_)],C x.1]) (λx=>RunY st co s (YV q v (k+1)) x.1 x.2/\(x.2=true->J x.1)) rfl
   (by
    intro hg8
    have hs9:=hg8;try simp only[Bool.and_eq_true,decide_eq_true_eq]at hs9
    have hkk:Z9 (Ys q k) v=[(itA (Ys q k) (at4 v 0).toNat).x]:=if_pos (by have hq:=hg8;simpa using hq)
    refine aU5 ?_
    refine o_h (QgG (Cs:=[C sk]) rfl rfl rfl aPs (λw1 h1 hf9=>hv sk (itA (Ys q k) (at4 v 0).toNat).x w1 (h1.ent aEt) hk3 (hQ _ (Ql9 hv8 hk0 hkk)))) rfl (λsy hRy=>aU2 ?_)
    refine o_p (QZ rfl rfl hg8 rfl) rfl (aU ?_)
    exact Qf (sy,co sy) ⟨by rw[hst,hkk];exact hk2.app (RunY.one hRy.1),hRy.2⟩ aSx (λw h=>h.ent aEt))
   (by
    intro hg10
    have hs11:=hg10;try simp only[Bool.and_eq_false_iff,decide_eq_false_iff_not]at hs11
    have hkk:Z9 (Ys q k) v=[]:=if_neg (λh9=>by have hq:=hg10;simp[h9.1,h9.2]at hq)
    refine aU4 ?_
    refine o_p (QN rfl rfl hg10 rfl) rfl (aU ?_)
    exact Qf (sk,true) ⟨by rw[hst,hkk,List.append_nil];exact hk2,λ_=>hk3⟩ aSx (λw h=>h.ent aEt)) ?_
  intro⟨sy,by9⟩ hx
  dsimp only
  obtain⟨hR2,hI2⟩:=hx
  simp only[]at hR2 hI2
  refine aU ?_
  refine sCd rfl (λh12=>?_) λh12=>?_
  ·obtain rfl:by9=false:=by have hq:=h12;simpa using hq
   have hE9:∃B,QP q v=YV q v (k+1)++B:=Qlz hv8 om
   obtain⟨B9,hB9⟩:=hE9
   exact QkG rfl (λw' h'=>⟨(sy,false),rfl,by rw[hB9];exact hR2.off B9,h'.ent aEt⟩)
  obtain rfl:by9=true:=by have hq:=h12;simpa using hq
  refine aT4 ?_
  refine aU2 ?_
  exact sBk (k+1,sy) (by(try simp only[]);omega) ⟨by(try simp only[]);omega,hR2,hI2 rfl⟩
 obtain rfl:k=2:=by have hq:=h2;omega
 rw[Qf1 hv8]at hk2
 refine Qk rfl ?_
 exact QcM rfl (λw' h'=>⟨(sk,true),rfl,hk2,h'.ent aEt⟩)
theorem Qiy:Q8 Tryz.prog 96=some [.int .i64 0,.nilFunc]:=by kernel_rfl
theorem QmG:Yh Tryz.prog 96=some [(0,1),(1,1)]:=by kernel_rfl
theorem QkY:tsz Tryz.prog 96=some (2,true):=by kernel_rfl
instance:TSz Tryz.prog 96 2 true:=⟨QkY⟩
theorem c43(w:World):CR 43 #[] w (.agg #[.int .i64 3,.func (.func 86) #[] #[]]):=by
 refine eN0 Tryz.func43 Tryz.ntmps43 ?_
 refine aU2 ?_
 refine oAl (λb1 _=>?_) Qiy
 refine aU3 ?_
 refine o_p (Qs (cs:=[_,_]) rfl rfl QmG Qiy rfl) rfl (aU2 ?_)
 exact Qg (rs:=[.cell 0 96]) rfl (.cell rfl QkY aPk rfl (.nil)) (λw' h'=>⟨rfl,h'.below⟩)
theorem c51(w:World):CR 51 #[] w (.agg #[.int .i64 2,.func (.func 95) #[] #[]]):=by
 refine eN0 Tryz.func51 Tryz.ntmps51 ?_
 refine aU2 ?_
 refine oAl (λb1 _=>?_) Qiy
 refine aU3 ?_
 refine o_p (Qs (cs:=[_,_]) rfl rfl QmG Qiy rfl) rfl (aU2 ?_)
 exact Qg (rs:=[.cell 0 96]) rfl (.cell rfl QkY aPk rfl (.nil)) (λw' h'=>⟨rfl,h'.below⟩)
theorem c40(w:World)(co mo rm:Int)(a:Option Addr)(cap:Nat)(L:List LNd)(hs:Nt w [] a L)(hB:Bd (pln L))(hkl:∀i,i<L.length->∀x∈(nth L i).es,x.key.length<=1000000):CR 40 #[.agg #[.int .i64 co,.int .i64 mo,.int .i64 rm,.slice a L.length cap]] w (.int .i64 (Ql (⟨co,mo,rm,pln L⟩:Tre)).2):=by
 refine eN1 Tryz.func40 Tryz.ntmps40 ?_
 refine aU2 ?_
 refine oBx λb1 _=>?_
 refine aU5 ?_
 refine oCq rfl (λw1 h1=>c81 w1 co mo rm a cap L (hs.later h1.nil) hB hkl) (Y0 ?_)
 exact rV
end Go.Proofs
