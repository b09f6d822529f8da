/- Contracts of the program's functions, proved by walking them with the rules of the Gx texts; without conditions beyond those that each contract names. -/
import Derived.WalkKit
import Derived.Deep.Draws
import Derived.TacticsIn
import Derived.OrdersIn
import Derived.RangeFuncLeaves
import Derived.Lib.Strings
import Derived.Laws.BytesArg
import Derived.Laws.IdiomStrings
import Derived.Deep.Quiet
import Derived.Laws.StructEq
import Derived.ChangeKeysEq
import Derived.Laws.Externs
import Derived.Lib.Overlaps
import Derived.Carry
import Derived.Laws.Small
import Derived.Lib.Bytealg
import Derived.Lib.Builder
import Derived.Laws.Pointers
import Derived.RangeFuncRecord
import Derived.Test.YtldegbfcaelpdaaGreatProg
import Derived.KernelRfl
import Derived.ProofKit
import Derived.OpenShut
import Derived.Lib.UnsafeStr
import Derived.LaidEqlPtr
import Derived.Shelf.Strings.Builder1
import Derived.Shelf.Strings.Builder2
import Derived.Shelf.Small.Strs
import Derived.Shelf.Strings.BuilderF
import Derived.Shelf.Strings.Prefix
import Derived.Shelf.Bits.Mul64
import Derived.Shelf.Strings.Repeat
import Derived.Shelf.Slices.Reverse
import Derived.Ground.Names2Prog
import Derived.Shelf.Slices.Clone
import Derived.Shelf.Slices.Cells
import Derived.Ground.SlgnProg
import Derived.Shelf.SlicesE.Clone
import Derived.Test.YtldegbfcaelpdaaGreatP3
set_option linter.unusedSimpArgs false
set_option maxHeartbeats 1000000
set_option linter.unusedVariables false
set_option linter.unusedSectionVars false
set_option linter.unnecessarySimpa false
namespace Go.Proofs
open Go Go.RowKit Gx
attribute [local irreducible] Go.Calls Gx.S Gx.O Gx.D Gx.OpP Gx.OpQ Gx.OpH
set_option maxRecDepth 20000
theorem QcQ:Xy Tryz.prog 5=some [.int .u8 0]:=by kernel_rfl
theorem Qma:QH Tryz.prog 134=true:=by kernel_rfl
theorem Qq1:QH Tryz.prog 141=true:=by kernel_rfl
theorem QeS:tsl Tryz.prog 232=some (48,1,24):=by kernel_rfl
instance:TFn Tryz.prog 182:=⟨by kernel_rfl⟩
theorem c134(w:World)(a:Option Addr)(cap:Nat)(l:List UInt8)(n:Int)(hw:HS w (fps [.own (.slice a l.length cap) 5 1 (l.length) ((l).map bv)]) [.own (.slice a l.length cap) 5 1 (l.length) ((l).map bv)] w)(hn:0<=n/\n<65536)(hl:l.length<=1000000):CE 134 #[.slice a l.length cap,.int .u16 n] w (fps [.own (.slice a l.length cap) 5 1 (l.length) ((l).map bv)]) (λg:Option Addr×Nat=>.slice g.1 (l++le2 n).length g.2) (λg=>True) λg=>[.own (.slice g.1 (l++le2 n).length g.2) 5 1 ((l++le2 n).length) ((l++le2 n).map bv)]:=by
 refine eW2 Tryz.func134 Tryz.ntmps134 hw ?_
 refine aU8 ?_
 refine o_p (Qr rfl rfl YH Zh) rfl (Qm (Yp _) (aU ?_))
 refine o_p (Qdw rfl rfl rfl (by decide) 8 rfl) rfl (o_p (Qr rfl rfl YH Zh) rfl (Qm (show _=bv (by8 (n/256))from Yp _) (o_h (Qd (cs:=[_,_]) rfl rfl Q1 QcQ rfl rfl rfl) rfl (λb1 _=>?_))))
 refine o_h (Qy _ rfl rfl rfl Q1 Tryz.underlying155 QcQ rfl aPk (Q5 aPk) rfl (by intro u hu;simp only[List.mem_cons,List.mem_nil_iff,or_false]at hu;rcases hu with rfl|rfl<;>rfl) om (by simp only[maxLen];omega)) rfl (λb2 _=>aU2 ?_)
 exact rT rfl rfl (λw' h'=>⟨b2,by rw[List.length_append];rfl,trivial,by rw[List.length_append,List.map_append];exact h'.ent aEt⟩)
theorem QpS(w:World)(a:Option Addr)(cap:Nat)(l:List UInt8)(n:Int)(hw:HS w (fps [.own (.slice a l.length cap) 5 1 (l.length) ((l).map bv)]) [.own (.slice a l.length cap) 5 1 (l.length) ((l).map bv)] w)(hn:0<=n/\n<4294967296)(hl:l.length<=1000000):CE 132 #[.slice a l.length cap,.int .u32 n] w (fps [.own (.slice a l.length cap) 5 1 (l.length) ((l).map bv)]) (λg:Option Addr×Nat=>.slice g.1 (l++le4 n).length g.2) (λg=>True) λg=>[.own (.slice g.1 (l++le4 n).length g.2) 5 1 ((l++le4 n).length) ((l++le4 n).map bv)]:=by
 have he9:l++le4 n=(l++le2 (n%65536))++[by8 (n/65536),by8 (n/16777216)]:=by rw[QmD,QnD,List.append_assoc]
 have hl2:(l++le2 (n%65536)).length=l.length+2:=by rw[List.length_append];rfl
 refine eW2 Tryz.func132 Tryz.ntmps132 hw ?_
 refine aU8 ?_
 refine o_p (Qr rfl rfl Yl YH) rfl (Qm (show _=Value.int .u16 (n%65536)from by rw[QmC]) (o_h (QT (Cs:=[.own (.slice a l.length cap) 5 1 (l.length) ((l).map bv)]) rfl Qma rfl aPs (λw1 h1 hf=>c134 w1 a cap l (n%65536) hf om hl)) rfl (λga _=>aU ?_)))
 refine o_p (Qdw rfl rfl rfl (by decide) 16 rfl) rfl (o_p (Qr rfl rfl Yl Zh) rfl (Qm (show _=bv (by8 (n/65536))from Yp _) (aU ?_)))
 refine o_p (Qdw rfl rfl rfl (by decide) 24 rfl) rfl (o_p (Qr rfl rfl Yl Zh) rfl (Qm (show _=bv (by8 (n/16777216))from Yp _) (o_h (Qd (cs:=[_,_]) rfl rfl Q1 QcQ rfl rfl rfl) rfl (λb1 _=>?_))))
 refine o_h (Qy _ rfl rfl rfl Q1 Tryz.underlying155 QcQ rfl aPk (Q5 aPk) rfl (by intro u hu;simp only[List.mem_cons,List.mem_nil_iff,or_false]at hu;rcases hu with rfl|rfl<;>rfl) om (by simp only[maxLen];omega)) rfl (λb2 _=>aU2 ?_)
 exact rT rfl rfl (λw' h'=>⟨b2,by rw[he9,@List.length_append _ (l++le2 (n%65536)) _];rfl,trivial,by rw[he9,List.map_append (l₁:=l++le2 (n%65536)),@List.length_append _ (l++le2 (n%65536)) _];exact h'.ent aEt⟩)
theorem c141(w:World)(a:Option Addr)(cap:Nat)(l:List UInt8)(n:Int)(hw:HS w (fps [.own (.slice a l.length cap) 5 1 (l.length) ((l).map bv)]) [.own (.slice a l.length cap) 5 1 (l.length) ((l).map bv)] w)(hn:0<=n/\n<65536)(hl:l.length<=1000000):CE 141 #[.slice a l.length cap,.int .u16 n] w (fps [.own (.slice a l.length cap) 5 1 (l.length) ((l).map bv)]) (λg:Option Addr×Nat=>.slice g.1 (l++le2 n).length g.2) (λg=>True) λg=>[.own (.slice g.1 (l++le2 n).length g.2) 5 1 ((l++le2 n).length) ((l++le2 n).map bv)]:=by
 refine eW2 Tryz.func141 Tryz.ntmps141 hw ?_
 refine aU8 ?_
 refine o_p (Qr rfl rfl YH Zh) rfl (Qm (Yp _) (aU ?_))
 refine o_p (Qdw rfl rfl rfl (by decide) 8 rfl) rfl (o_p (Qr rfl rfl YH Zh) rfl (Qm (show _=bv (by8 (n/256))from Yp _) (o_h (Qd (cs:=[_,_]) rfl rfl Q1 QcQ rfl rfl rfl) rfl (λb1 _=>?_))))
 refine o_h (Qy _ rfl rfl rfl Q1 Tryz.underlying155 QcQ rfl aPk (Q5 aPk) rfl (by intro u hu;simp only[List.mem_cons,List.mem_nil_iff,or_false]at hu;rcases hu with rfl|rfl<;>rfl) om (by simp only[maxLen];omega)) rfl (λb2 _=>aU2 ?_)
 exact rT rfl rfl (λw' h'=>⟨b2,by rw[List.length_append];rfl,trivial,by rw[List.length_append,List.map_append];exact h'.ent aEt⟩)
theorem c103(w:World)(a:Option Addr)(cap:Nat)(l:List UInt8)(n:Int)(hw:HS w (fps [.own (.slice a l.length cap) 5 1 (l.length) ((l).map bv)]) [.own (.slice a l.length cap) 5 1 (l.length) ((l).map bv)] w)(hn:0<=n/\n<4294967296)(hl:l.length<=1000000):CE 103 #[.slice a l.length cap,.int .u32 n] w (fps [.own (.slice a l.length cap) 5 1 (l.length) ((l).map bv)]) (λg:Option Addr×Nat=>.slice g.1 (l++le4 n).length g.2) (λg=>True) λg=>[.own (.slice g.1 (l++le4 n).length g.2) 5 1 ((l++le4 n).length) ((l++le4 n).map bv)]:=by
 have he9:l++le4 n=(l++le2 (n%65536))++[by8 (n/65536),by8 (n/16777216)]:=by rw[QmD,QnD,List.append_assoc]
 have hl2:(l++le2 (n%65536)).length=l.length+2:=by rw[List.length_append];rfl
 refine eW2 Tryz.func103 Tryz.ntmps103 hw ?_
 refine aU8 ?_
 refine o_p (Qr rfl rfl Yl YH) rfl (Qm (show _=Value.int .u16 (n%65536)from by rw[QmC]) (o_h (QT (Cs:=[.own (.slice a l.length cap) 5 1 (l.length) ((l).map bv)]) rfl Qq1 rfl aPs (λw1 h1 hf=>c141 w1 a cap l (n%65536) hf om hl)) rfl (λga _=>aU ?_)))
 refine o_p (Qdw rfl rfl rfl (by decide) 16 rfl) rfl (o_p (Qr rfl rfl Yl Zh) rfl (Qm (show _=bv (by8 (n/65536))from Yp _) (aU ?_)))
 refine o_p (Qdw rfl rfl rfl (by decide) 24 rfl) rfl (o_p (Qr rfl rfl Yl Zh) rfl (Qm (show _=bv (by8 (n/16777216))from Yp _) (o_h (Qd (cs:=[_,_]) rfl rfl Q1 QcQ rfl rfl rfl) rfl (λb1 _=>?_))))
 refine o_h (Qy _ rfl rfl rfl Q1 Tryz.underlying155 QcQ rfl aPk (Q5 aPk) rfl (by intro u hu;simp only[List.mem_cons,List.mem_nil_iff,or_false]at hu;rcases hu with rfl|rfl<;>rfl) om (by simp only[maxLen];omega)) rfl (λb2 _=>aU2 ?_)
 exact rT rfl rfl (λw' h'=>⟨b2,by rw[he9,@List.length_append _ (l++le2 (n%65536)) _];rfl,trivial,by rw[he9,List.map_append (l₁:=l++le2 (n%65536)),@List.length_append _ (l++le2 (n%65536)) _];exact h'.ent aEt⟩)
theorem c182(w:World)(n:Nat)(hn:n<=1000000):CE 182 #[.slice none 0 0,.int .i64 (n:Int)] w [] (λg:Option Addr×Nat=>.slice g.1 0 g.2) (λg=>True) λg=>[.own (.slice g.1 0 g.2) 102 4 0 []]:=by
 refine eN2 Tryz.func182 Tryz.ntmps182 ?_
 refine YR ?_
 refine sCd rfl (λh1=>?_) λh1=>?_
 ·exfalso;first|omega|(simp at h1;done)|(simp_all;done)
 refine aU6 ?_
 refine o_p (Qko rfl rfl Tryz.underlying48) rfl (aT3 ?_)
 refine aT ?_
 refine Qm (show _=Value.int .i64 (n:Int)from by first|rfl|(congr 1;omega)) (aU7 ?_)
 refine sCd rfl (λh2=>?_) λh2=>?_
 ·refine aU3 ?_
  refine o_p (Qko rfl rfl Tryz.underlying48) rfl (o_p (QJ _ _ 0 0 rfl rfl YM rfl ⟨_,_,rfl,rfl⟩ om om) rfl (Qm (show _=Value.slice none 0 0 from rfl) (aU ?_)))
  refine o_h (ZO (m:=n) (olds:=[]) rfl rfl rfl YM Yw XS rfl (by decide) om om (λw h hne=>absurd rfl hne) rfl om (by simp only[maxLen];omega)) rfl (λ⟨b3,c4⟩⟨h5,k6⟩=>aU2 ?_)
  refine o_p (QJ _ _ 0 0 rfl rfl YM rfl ⟨_,_,rfl,rfl⟩ om om) rfl ?_
  refine Qm (show _=Value.slice (some ⟨b3,0,none⟩) 0 c4 from by rw[QaI]<;>rfl) (aU7 ?_)
  exact rT rfl rfl (λw' h'=>by first|exact⟨(some ⟨b3,0,none⟩,c4),rfl,trivial,(HS.to_own (n:=0) (xs:=[]) (ds:=QbA [.int .i64 0,.int .i64 0,.int .i64 0,.int .i64 0] (n*4)) aPk h' rfl rfl om om).ent aEt⟩|exact⟨(none,0),rfl,trivial,(h'.own_nil 102 4).ent aEt⟩)
 refine aU6 ?_
 exact rT rfl rfl (λw' h'=>by first|exact⟨(some ⟨b3,0,none⟩,c4),rfl,trivial,(HS.to_own (n:=0) (xs:=[]) (ds:=QbA [.int .i64 0,.int .i64 0,.int .i64 0,.int .i64 0] (n*4)) aPk h' rfl rfl om om).ent aEt⟩|exact⟨(none,0),rfl,trivial,(h'.own_nil 102 4).ent aEt⟩)
theorem c133(w:World)(a:Option Addr)(cap:Nat)(rs:List (RowV Ace))(hs:Vl w a (rs.map RowV.v))(hr:∀r∈rs,Rw Ace.vals 4 w [] r.a r.l)(hm:(rs.flatMap RowV.l).length<=1000000)(hn:rs.length<=1000):CE 133 #[.slice a rs.length cap] w [] (λg:Option Addr×Nat=>.slice g.1 (rs.flatMap RowV.l).length g.2) (λg=>True) λg=>[.own (.slice g.1 (rs.flatMap RowV.l).length g.2) 102 4 (rs.flatMap RowV.l).length ((rs.flatMap RowV.l).flatMap Ace.vals)]:=by
 refine eN1 Tryz.func133 Tryz.ntmps133 ?_
 refine Qq4 ?_
 refine Qt (α:=Nat) [3,5,11,12,13,14,15,16,17,18,19,20,21,22] (λk=>[(11,.int .i64 (k:Int)),(3,.int .i64 ((((rs.take k).flatMap RowV.l).length:Nat):Int))]) (λ_=>HS w [] []) (λk=>k<=rs.length) (λk=>rs.length-k) 0 (Nat.zero_le _) aSx (λw h=>h.ent aEt) (λk hk1=>?_)
 refine aU5 ?_
 refine sCd rfl (λh1=>?_) λh1=>?_
 ·have hk:k<rs.length:=by omega
  have hst:=congrArg List.length (QkK hk)
  rw[List.length_append]at hst
  have hle:=Qpx rs (k+1)
  refine aU5 ?_
  refine o_p (Qa rfl rfl rfl QeS (k) om om (hs.some (by rw[List.length_map];omega))) rfl (o_q (Qc rfl rfl QiJ ((hs.rd (Qm6 hk)))) rfl (aT8 ?_))
  refine Qm (show _=Value.int .i64 ((((rs.take k).flatMap RowV.l).length+(rs.getD k default).l.length:Nat):Int)from by congr 1) (aU7 ?_)
  refine sCd rfl (λh2=>?_) λh2=>?_
  ·exfalso;first|omega|(simp at h2;done)|(simp_all;done)
  refine aT4 ?_
  refine aU2 ?_
  exact sBk (k+1) om om (by rw[hst];exact aSx)
 obtain rfl:k=rs.length:=om
 rw[List.take_length]
 refine Qi rfl ?_
 refine aU3 ?_
 refine oCh rfl (λw1 h1=>c182 w1 (rs.flatMap RowV.l).length hm) (λgg _=>YR ?_)
 refine Qt (α:=Nat×Option Addr×Nat) [6,8,27,28,29,30,31,32,33,34] (λx=>[(27,.int .i64 (x.1:Int)),(6,.slice x.2.1 ((rs.take x.1).flatMap RowV.l).length x.2.2)]) (λx=>HS w [] [.own (.slice x.2.1 ((rs.take x.1).flatMap RowV.l).length x.2.2) 102 4 ((rs.take x.1).flatMap RowV.l).length (((rs.take x.1).flatMap RowV.l).flatMap Ace.vals)]) (λx=>x.1<=rs.length) (λx=>rs.length-x.1) (0,gg.1,gg.2) (Nat.zero_le _) aSx (λw h=>h.ent aEt) (λ⟨k,ga,gc⟩hk1=>?_)
 dsimp only
 simp only[]at hk1
 refine aU5 ?_
 refine sCd rfl (λh3=>?_) λh3=>?_
 ·have hk:k<rs.length:=by omega
  have hst:=QkK hk
  have hle:=Qpx rs (k+1)
  rw[hst,List.length_append]at hle
  have hmem:rs.getD k default∈rs:=XH hk
  refine aU5 ?_
  refine o_p (Qa rfl rfl rfl QeS (k) om om (hs.some (by rw[List.length_map];omega))) rfl (o_q (Qc rfl rfl QiJ ((hs.rd (Qm6 hk)))) rfl (aU5 ?_))
  refine o_h (Qy ((rs.getD k default).l.flatMap Ace.vals) rfl rfl rfl YM Tryz.underlying48 XS rfl aPk (λw h=>Rw.src av4 (hr _ hmem) h) (Qj av4 _) (Xu av1 _) om (by simp only[maxLen];omega)) rfl (λb4 _=>aT5 ?_)
  refine aU2 ?_
  exact QR (k+1,b4.1,b4.2) (by(try simp only[]);omega) (by(try simp only[]);omega) (by dsimp only;rw[hst,List.length_append];exact aSx) (λw h=>by dsimp only;rw[hst,List.length_append,XG];exact h.ent aEt)
 obtain rfl:k=rs.length:=om
 rw[List.take_length]
 refine Qi rfl ?_
 refine aU5 ?_
 exact rT rfl rfl (λw' h'=>⟨(ga,gc),rfl,trivial,h'.ent aEt⟩)
theorem QnI:QH Tryz.prog 203=true:=by kernel_rfl
instance:TFd Tryz.prog 50 0 0 3:=⟨by kernel_rfl⟩
instance:TFd Tryz.prog 50 1 1 3:=⟨by kernel_rfl⟩
theorem Qra:QH Tryz.prog 201=true:=by kernel_rfl
instance:TFd Tryz.prog 50 5 5 48:=⟨by kernel_rfl⟩
instance:TFd Tryz.prog 50 3 3 4:=⟨by kernel_rfl⟩
theorem QlZ:Xy Tryz.prog 48=some [.slice none 0 0]:=by kernel_rfl
instance:TFn Tryz.prog 133:=⟨by kernel_rfl⟩
instance:TFn Tryz.prog 202:=⟨by kernel_rfl⟩
theorem ZA:tsz Tryz.prog 50=some (6,true):=by kernel_rfl
instance:TSz Tryz.prog 50 6 true:=⟨ZA⟩
instance:TFn Tryz.prog 181:=⟨by kernel_rfl⟩
instance:TFn Tryz.prog 197:=⟨by kernel_rfl⟩
theorem QhB:YA Tryz.prog 102=some [(0,1),(1,1),(2,1),(3,1)]:=by kernel_rfl
instance:TFn Tryz.prog 198:=⟨by kernel_rfl⟩
instance:TFn Tryz.prog 176:=⟨by kernel_rfl⟩
def Qfr(d:Dsc):Int:=if Za d.ow d.gr=0 then if d.en.length<=16/\d.au.length<=16 then if d.he||decide (d.en.length=0)then 0 else 3 else 8 else Za d.ow d.gr
theorem Qch(d:Dsc){mx:Int}{b:Bool}(hm:mx<=16 ↔ ((d.en.length:Int)<=16/\(d.au.length:Int)<=16))(hb:b=(d.he||decide (d.en.length=0))):Xm [.int .i64 (Za d.ow d.gr),.int .i64 (cond (decide (mx<=16)) 0 8),.int .i64 (cond b 0 3)]=Qfr d:=by
  subst hb;unfold Qfr;simp only[Xm,cond_eq_ite,decide_eq_true_eq,hm];have:((d.en.length:Int)<=16/\(d.au.length:Int)<=16) ↔ (d.en.length<=16/\d.au.length<=16):=om
  simp only[this]
  grind
theorem Qen(d:Dsc):Yd d=if Qfr d=0 then QU (Z7 d.en.length (d.en++d.au)) 0 else(0,Qfr d):=by
  unfold Yd Qfr;split
  · split
    · split
      · simp
      · simp
    · simp
  · rename_i h;simp[h]
theorem cat2(w:World){b t tot:Nat}{w0:World}{M:List Nat}{As As':List HA}(ea aa:Option Addr)(ec ac:Nat)(l m:List Ace)(hw:HS w0 M As w)(hp:QC As (.blk b t tot [.slice ea l.length ec,.slice aa m.length ac]) As')(hl:Rw Ace.vals 4 w [] ea l)(hm:Rw Ace.vals 4 w [] aa m)(h1:l.length<=100000)(h2:m.length<=100000) :
    Calls Tryz.prog 133 #[.slice (some ⟨b,0,none⟩) 2 2] w λen w'=>∃g:Option Addr×Nat,en=.returned (.slice g.1 (l++m).length g.2)/\True/\HS w [] [.own (.slice g.1 (l++m).length g.2) 102 4 (l++m).length ((l++m).flatMap Ace.vals)] w':=by
  have h9:=c133 w (some ⟨b,0,none⟩) 2 [⟨ea,ec,l⟩,⟨aa,ac,m⟩] (hw.vl_blk hp) (by intro r hr;simp only[List.mem_cons,List.mem_nil_iff,or_false]at hr;rcases hr with rfl|rfl;exact hl;exact hm) (by simp;omega) (by simp);rw[show([⟨ea,ec,l⟩,⟨aa,ac,m⟩]:List (RowV Ace)).flatMap RowV.l=l++m from by simp]at h9;exact h9
theorem c181(w:World)(d:Dsc)(ea:Option Addr)(eac:Nat)(aa:Option Addr)(aac:Nat)(hse:Rw Ace.vals 4 w [] ea d.en)(hsa:Rw Ace.vals 4 w [] aa d.au)(hme:d.en.length<=100000)(hma:d.au.length<=100000):CR 181 #[.agg #[.int .i64 d.ow,.int .i64 d.gr,.bool d.pr,.bool d.he,.slice ea d.en.length eac,.slice aa d.au.length aac]] w (.tuple #[.int .i64 (Yd d).1,.int .i64 (Yd d).2]):=by
 refine eN1 Tryz.func181 Tryz.ntmps181 ?_
 refine aU2 ?_
 refine oBx λb1 _=>?_
 refine aU4 ?_
 refine Qq [] Qx ?_
 refine dFa 0 ?_
 refine dLd 1 [] ?_
 refine dFa 2 ?_
 refine dLd 3 [] ?_
 refine dQ 4 [] rfl (Ql rfl Qra rfl (λw1 h1=>c201 w1 _ _)) (dFa 5 ?_)
 refine dLd 6 [] ?_
 refine dV 7 rfl (Qz rfl rfl Tryz.underlying48) (dFa 8 ?_)
 refine dLd 9 [] ?_
 refine dV 10 rfl (Qz rfl rfl Tryz.underlying48) (dV 11 rfl (QcS rfl rfl rfl ) (dP 12 ?_))
 refine dQ 13 [] rfl (Ql rfl QaO rfl (λw1 h1=>QfM w1 _ _)) (dFa 14 ?_)
 refine dLd 15 [] ?_
 refine dP 16 ?_
 apply Q7 21
 ·exact rfl
 ·intro hg2
  have hs3:=hg2;skip
  refine dOf 17 21 hg2 ?_
  refine dOf 18 21 hg2 ?_
  refine dOf 19 21 hg2 ?_
  refine dOf 20 21 hg2 ?_
  refine dV 21 rfl (Xk rfl rfl hg2 rfl) (dQ 22 [] rfl (Ql rfl QaO rfl (λw1 h1=>QfM w1 _ _)) (dH 23 rfl (Qd (cs:=[_,_,_]) rfl rfl XI Yv rfl rfl rfl) (λb4 _=>dBa ?_)))
  refine dQ 24 [] rfl (Ql rfl QdS rfl (λw1 h1=>QkP h1 aPk (by rfl) (by rfl) (by decide))) (dP 25 ?_)
  refine dNi ?_
  refine aU2 ?_
  refine Qg (L':=[(1,_),(2,_),(3,_),(4,_)]) aSx (λ_ h=>h) ?_
  refine aU4 ?_
  refine sCd rfl (λh5=>?_) λh5=>?_
  ·have hp9:=Qch d (mx:=if(d.au.length:Int)>d.en.length then(d.au.length:Int)else d.en.length) (b:=d.he||decide ((d.en.length:Int)=0)) (by split<;>omega) (by congr 1;exact decide_eq_decide.2 om)
   rw[show d.he=_ from hg2]at hp9
   have h0:¬Qfr d=0:=by rw[<-hp9];exact h5
   have hse9:Yd d=(0,Qfr d):=by rw[Qen,if_neg h0]
   refine aU6 ?_
   exact Qf (rs:=[.tmp 2,.tmp 3]) rfl (.tmp rfl (.tmp rfl (.nil))) (λw' h'=>⟨by rw[hse9,<-hp9];rfl,h'.below⟩)
  have hp9:=Qch d (mx:=if(d.au.length:Int)>d.en.length then(d.au.length:Int)else d.en.length) (b:=d.he||decide ((d.en.length:Int)=0)) (by split<;>omega) (by congr 1;exact decide_eq_decide.2 om)
  rw[show d.he=_ from hg2]at hp9
  have h0:Qfr d=0:=by rw[<-hp9];exact h5
  have hse9:Yd d=QU (Z7 d.en.length (d.en++d.au)) 0:=by rw[Qen,if_pos h0]
  refine aU7 ?_
  refine o_h (Qd (cs:=[_,_]) rfl rfl QeS QlZ rfl rfl rfl) rfl (λb6 _=>oCh rfl (λw1 h1=>cat2 w1 ea aa eac aac d.en d.au h1 aPk (hse.later h1) (hsa.later h1) hme hma) (λgl _=>aU ?_))
  refine oCq rfl (λw1 h1=>c202 w1 gl.1 gl.2 (d.en++d.au) 203 _ (Z7 d.en.length (d.en++d.au)) (h1.rw_own av4 aPk rfl) (by simp;omega) QnI (Qar _ _) (λk w2 hk _ h2=>by have h9:=c203 w2 b1 d.en.length k ea eac (nth (d.en++d.au) k) ((h1.rd_blk (i:=4) aPk rfl (by simp)).later h2 (by simp));rw[Zp hk];exact h9)) (aU5 ?_)
  exact Qf (rs:=[.tmp 2,.tmp 3]) rfl (.tmp rfl (.tmp rfl (.nil))) (λw' h'=>⟨by rw[hse9];rfl,h'.below⟩)
 intro hg7
 have hs8:=hg7;skip
 refine dFo 17 21 hg7 ?_
 refine dQo 18 21 [] hg7 rfl rfl rfl (XO rfl rfl QiJ aPk rfl) ?_
 refine dVo 19 21 hg7 rfl rfl rfl (Qz rfl rfl Tryz.underlying48) ?_
 refine dPo 20 21 hg7 ?_
 refine dV 21 rfl (QW rfl rfl hg7 rfl) (dQ 22 [] rfl (Ql rfl QaO rfl (λw1 h1=>QfM w1 _ _)) (dH 23 rfl (Qd (cs:=[_,_,_]) rfl rfl XI Yv rfl rfl rfl) (λb9 _=>dBa ?_)))
 refine dQ 24 [] rfl (Ql rfl QdS rfl (λw1 h1=>QkP h1 aPk (by rfl) (by rfl) (by decide))) (dP 25 ?_)
 refine dNi ?_
 refine aU2 ?_
 refine Qg (L':=[(1,_),(2,_),(3,_),(4,_)]) aSx (λ_ h=>h) ?_
 refine aU4 ?_
 refine sCd rfl (λh10=>?_) λh10=>?_
 ·have hp9:=Qch d (mx:=if(d.au.length:Int)>d.en.length then(d.au.length:Int)else d.en.length) (b:=d.he||decide ((d.en.length:Int)=0)) (by split<;>omega) (by congr 1;exact decide_eq_decide.2 om)
  rw[show d.he=_ from hg7]at hp9
  have h0:¬Qfr d=0:=by rw[<-hp9];exact h10
  have hse9:Yd d=(0,Qfr d):=by rw[Qen,if_neg h0]
  refine aU6 ?_
  exact Qf (rs:=[.tmp 2,.tmp 3]) rfl (.tmp rfl (.tmp rfl (.nil))) (λw' h'=>⟨by rw[hse9,<-hp9];rfl,h'.below⟩)
 have hp9:=Qch d (mx:=if(d.au.length:Int)>d.en.length then(d.au.length:Int)else d.en.length) (b:=d.he||decide ((d.en.length:Int)=0)) (by split<;>omega) (by congr 1;exact decide_eq_decide.2 om)
 rw[show d.he=_ from hg7]at hp9
 have h0:Qfr d=0:=by rw[<-hp9];exact h10
 have hse9:Yd d=QU (Z7 d.en.length (d.en++d.au)) 0:=by rw[Qen,if_pos h0]
 refine aU7 ?_
 refine o_h (Qd (cs:=[_,_]) rfl rfl QeS QlZ rfl rfl rfl) rfl (λb11 _=>oCh rfl (λw1 h1=>cat2 w1 ea aa eac aac d.en d.au h1 aPk (hse.later h1) (hsa.later h1) hme hma) (λgl _=>aU ?_))
 refine oCq rfl (λw1 h1=>c202 w1 gl.1 gl.2 (d.en++d.au) 203 _ (Z7 d.en.length (d.en++d.au)) (h1.rw_own av4 aPk rfl) (by simp;omega) QnI (Qar _ _) (λk w2 hk _ h2=>by have h9:=c203 w2 b1 d.en.length k ea eac (nth (d.en++d.au) k) ((h1.rd_blk (i:=4) aPk rfl (by simp)).later h2 (by simp));rw[Zp hk];exact h9)) (aU5 ?_)
 exact Qf (rs:=[.tmp 2,.tmp 3]) rfl (.tmp rfl (.tmp rfl (.nil))) (λw' h'=>⟨by rw[hse9];rfl,h'.below⟩)
theorem Qqk(w:World)(d:Dsc)(ea:Option Addr)(eac:Nat)(aa:Option Addr)(aac:Nat)(hse:Rw Ace.vals 4 w [] ea d.en)(hsa:Rw Ace.vals 4 w [] aa d.au)(hme:d.en.length<=100000)(hma:d.au.length<=100000):CR 131 #[.agg #[.int .i64 d.ow,.int .i64 d.gr,.bool d.pr,.bool d.he,.slice ea d.en.length eac,.slice aa d.au.length aac]] w (.int .i64 (Yd d).2):=by
 refine eN1 Tryz.func131 Tryz.ntmps131 ?_
 refine aU2 ?_
 refine oBx λb1 _=>?_
 refine aU5 ?_
 refine oCq rfl (λw1 h1=>c181 w1 d ea eac aa aac (hse.later h1) (hsa.later h1) hme hma) (YZ ?_)
 exact rV
theorem eachF_at{es:List Int}{k:Nat}(hk:k<es.length)(h:∀j,j<k->es.getD j 0=0)(h2:es.getD k 0≠0):QU es 0=((k:Int),es.getD k 0):=by
  have key:∀i,i<=k->QU es 0=QU (es.drop i) i:=by
    intro i
    induction i with
    | zero=>intro _;rfl
    | succ i ih=>
      intro hi;rw[ih om,Xp om,if_pos (h i om)]
  rw[key k (Nat.le_refl _),Xp hk,if_neg h2]
theorem eachF_all{es:List Int}(h:∀j,j<es.length->es.getD j 0=0):QU es 0=(0,0):=by
  have key:∀i,i<=es.length->QU es 0=QU (es.drop i) i:=by
    intro i
    induction i with
    | zero=>intro _;rfl
    | succ i ih=>
      intro hi;rw[ih om,Xp om,if_pos (h i om)]
  rw[key _ (Nat.le_refl _),List.drop_length];rfl
theorem Qmz{α:Type}[Inhabited α]{l m:List α}{k:Nat}(h:k<l.length):nth (l++m) k=nth l k:=by
  unfold nth;rw[List.getD_eq_getElem?_getD,List.getElem?_append_left h,<-List.getD_eq_getElem?_getD]
theorem Qlb{α:Type}[Inhabited α]{l m:List α}{k:Nat}(h:l.length<=k):nth (l++m) k=nth m (k-l.length):=by
  unfold nth;rw[List.getD_eq_getElem?_getD,List.getElem?_append_right h,<-List.getD_eq_getElem?_getD]
theorem c176(w:World)(d:Dsc)(ea:Option Addr)(eac:Nat)(aa:Option Addr)(aac:Nat)(hse:Rw Ace.vals 4 w [] ea d.en)(hsa:Rw Ace.vals 4 w [] aa d.au)(hme:d.en.length<=100000)(hma:d.au.length<=100000):CR 176 #[.agg #[.int .i64 d.ow,.int .i64 d.gr,.bool d.pr,.bool d.he,.slice ea d.en.length eac,.slice aa d.au.length aac]] w (.tuple #[.int .i64 (Yd d).1,.int .i64 (Yd d).2]):=by
 refine eN1 Tryz.func176 Tryz.ntmps176 ?_
 refine aU2 ?_
 refine oBx λb1 _=>?_
 refine YR ?_
 refine oCq rfl (λw1 h1=>c197 w1 _ _) (aU7 ?_)
 refine sCd rfl (λh2=>?_) λh2=>?_
 ·have h0:¬Za d.ow d.gr=0:=h2
  have h9:Yd d=(0,Za d.ow d.gr):=by unfold Yd;rw[if_neg h0]
  refine aU6 ?_
  exact Qf (rs:=[.tmp 2,.tmp 3]) rfl (.tmp rfl (.tmp rfl (.nil))) (λw' h'=>⟨by rw[h9];rfl,h'.below⟩)
 have h0:Za d.ow d.gr=0:=h2
 refine aU9 ?_
 refine oOr 5 21 26 rfl
  (λhg3 _=>by
   refine aU8 ?_
   exact oJf 5 26)
  (λhg5 _=>by
   refine aU4 ?_
   exact oJt 5 26) ?_
 refine aU ?_
 refine sCd rfl (λh7=>?_) λh7=>?_
 ·have h1:¬(d.en.length<=16/\d.au.length<=16):=by have hq:=h7;omega
  have h9:Yd d=(0,8):=by unfold Yd;rw[if_pos h0,if_neg h1]
  refine aU5 ?_
  exact Qf (rs:=[.tmp 2,.tmp 3]) rfl (.tmp rfl (.tmp rfl (.nil))) (λw' h'=>⟨by rw[h9];rfl,h'.below⟩)
 have h1:d.en.length<=16/\d.au.length<=16:=by have hq:=h7;omega
 refine aU9 ?_
 refine XJ 4 31 35 rfl
  (λhg8 _=>by
   refine aU6 ?_
   exact oJt 4 35)
  (λhg10 _=>by
   refine aU3 ?_
   exact oJf 4 35) ?_
 refine aU ?_
 refine sCd rfl (λh12=>?_) λh12=>?_
 ·have h2:¬(d.he||decide (d.en.length=0))=true:=by have hq:=h12;simp;exact⟨hq.2,by have:=hq.1;intro h;rw[h]at this;simp at this⟩
  have h9:Yd d=(0,3):=by unfold Yd;rw[if_pos h0,if_pos h1,if_neg h2]
  refine aU5 ?_
  exact Qf (rs:=[.tmp 2,.tmp 3]) rfl (.tmp rfl (.tmp rfl (.nil))) (λw' h'=>⟨by rw[h9];rfl,h'.below⟩)
 have h2:(d.he||decide (d.en.length=0))=true:=by have hq:=h12;rcases hq with hq|hq<;>simp at hq ⊢ <;>first|exact .inl hq|exact .inr om|exact .inr hq
 have h9:Yd d=QU (Z7 d.en.length (d.en++d.au)) 0:=by unfold Yd;rw[if_pos h0,if_pos h1,if_pos h2]
 refine aU7 ?_
 refine Qg (L':=[(1,_),(2,_),(3,_),(5,_)]) aSx (λ_ h=>h) ?_
 refine Qt (α:=Nat) [2,3,5,6,7,8,36,37,38,39,40,41,42,43,44,45,46,47,48,49,50,51,52,53,54,55,56,57,58,59,60,61,62,63,64,65,66,67,68,69,70,71,72,73,74,75,76,77,78,79] (λk=>[(5,.int .i64 (k:Int))]) (λ_=>HS w [] [.blk b1 50 6 [.int .i64 d.ow,.int .i64 d.gr,.bool d.pr,.bool d.he,.slice ea d.en.length eac,.slice aa d.au.length aac]]) (λk=>k<=(d.en++d.au).length/\∀j,j<k->(Z7 d.en.length (d.en++d.au)).getD j 0=0) (λk=>(d.en++d.au).length-k) 0 ⟨Nat.zero_le _,λj h=>absurd h (Nat.not_lt_zero j)⟩ aSx (λw h=>h.ent aEt) (λk hk1=>?_)
 obtain⟨hk1,hk2⟩:=hk1
 rw[List.length_append]at hk1
 refine aT11 ?_
 refine aU2 ?_
 refine sCd rfl (λh13=>?_) λh13=>?_
 ·have hk:k<(d.en++d.au).length:=by rw[List.length_append];omega
  refine Qc0 ?_
  refine o_p (QD (cs:=[_,_,_,_]) rfl rfl QhB XS rfl) rfl (oAl (λb14 _=>?_) XS)
  refine aU7 ?_
  refine Qg (L':=[(1,_),(5,_),(6,_),(7,_),(53,_)]) aSx (λ_ h=>h) ?_
  refine Xe (α:=Unit) [54,55,56,57,58,59,60,61,62,63,64,65,66,67] (λ_=>[]) (λ_=>HS w [] [.blk b14 102 4 (Ace.vals (nth (d.en++d.au) k)),.blk b1 50 6 [.int .i64 d.ow,.int .i64 d.gr,.bool d.pr,.bool d.he,.slice ea d.en.length eac,.slice aa d.au.length aac]]) (λ_=>True) ?_ ?_
  ·skip
   refine sCd rfl (λh15=>?_) λh15=>?_
   ·have ha4:d.en.length<=k:=by have hq:=h15;omega
    have hn4:nth (d.en++d.au) k=nth d.au (k-d.en.length):=Qlb ha4
    refine aT8 ?_
    refine o_p (Qa rfl rfl rfl YM (k-d.en.length) om om (Rw.some hsa om)) rfl (o_q (Qu _ rfl rfl QdO rfl (Rw.rd hsa (i:=k-d.en.length) om)) rfl (aU2 ?_))
    exact Qo () trivial aSx (λw h=>by rw[hn4];exact h.ent aEt)
   have ha4:k<d.en.length:=by have hq:=h15;omega
   have hn4:nth (d.en++d.au) k=nth d.en k:=Qmz ha4
   refine aU4 ?_
   refine o_p (Qa rfl rfl rfl YM (k) om om (Rw.some hse om)) rfl (o_q (Qu _ rfl rfl QdO rfl (Rw.rd hse (i:=k) om)) rfl (aU2 ?_))
   exact Qo () trivial aSx (λw h=>by rw[hn4];exact h.ent aEt)
  intro _ _
  refine aU4 ?_
  refine oCq rfl (λw1 h1=>c198 w1 _) (aU7 ?_)
  refine sCd rfl (λh16=>?_) λh16=>?_
  ·have ha5:¬Qct (nth (d.en++d.au) k)=0:=h16
   have he5:=eachF_at (es:=(Z7 d.en.length (d.en++d.au))) (by rw[Qar];exact hk) hk2 (by rw[Zp hk,Qbh,if_neg ha5];exact ha5)
   rw[Zp hk,Qbh,if_neg ha5]at he5
   refine aU7 ?_
   exact Qf (rs:=[.tmp 2,.tmp 3]) rfl (.tmp rfl (.tmp rfl (.nil))) (λw' h'=>⟨by rw[h9,he5];rfl,h'.below⟩)
  have ha5:Qct (nth (d.en++d.au) k)=0:=h16
  refine aU7 ?_
  refine o_p (Qjj rfl rfl rfl Tryz.underlying4) rfl (aU ?_)
  refine sCd rfl (λh17=>?_) λh17=>?_
  ·have ha6:¬(decide ((nth (d.en++d.au) k).kd=2)=decide (d.en.length<=k)):=by have hq:=beq_eq_false_iff_ne.1 h17;intro h;exact hq (by rw[h];exact decide_eq_decide.2 om)
   have he5:=eachF_at (es:=(Z7 d.en.length (d.en++d.au))) (by rw[Qar];exact hk) hk2 (by rw[Zp hk,Qbh,if_pos ha5,if_neg ha6];decide)
   rw[Zp hk,Qbh,if_pos ha5,if_neg ha6]at he5
   refine aU6 ?_
   exact Qf (rs:=[.tmp 2,.tmp 3]) rfl (.tmp rfl (.tmp rfl (.nil))) (λw' h'=>⟨by rw[h9,he5];rfl,h'.below⟩)
  have ha6:decide ((nth (d.en++d.au) k).kd=2)=decide (d.en.length<=k):=by have hq:=eq_of_beq h17;rw[hq];exact decide_eq_decide.2 om
  refine aT5 ?_
  refine aU2 ?_
  exact sBk (k+1) om ⟨om,λj hj=>(Nat.lt_or_ge j k).elim (hk2 j) (λh=>by obtain rfl:j=k:=om;rw[Zp hk,Qbh,if_pos ha5,if_pos ha6])⟩
 obtain rfl:k=(d.en++d.au).length:=by rw[List.length_append];omega
 refine Qi rfl ?_
 refine aU5 ?_
 exact Qf (rs:=[.tmp 2,.tmp 3]) rfl (.tmp rfl (.tmp rfl (.nil))) (λw' h'=>⟨by rw[h9,eachF_all (by rw[Qar];exact hk2)];rfl,h'.below⟩)
theorem c124(w:World)(d:Dsc)(ea:Option Addr)(eac:Nat)(aa:Option Addr)(aac:Nat)(hse:Rw Ace.vals 4 w [] ea d.en)(hsa:Rw Ace.vals 4 w [] aa d.au)(hme:d.en.length<=100000)(hma:d.au.length<=100000):CR 124 #[.agg #[.int .i64 d.ow,.int .i64 d.gr,.bool d.pr,.bool d.he,.slice ea d.en.length eac,.slice aa d.au.length aac]] w (.int .i64 (Yd d).2):=by
 refine eN1 Tryz.func124 Tryz.ntmps124 ?_
 refine aU2 ?_
 refine oBx λb1 _=>?_
 refine aU5 ?_
 refine oCq rfl (λw1 h1=>c176 w1 d ea eac aa aac (hse.later h1) (hsa.later h1) hme hma) (YZ ?_)
 exact rV
theorem c80(w:World)(n:Int)(c:Nat)(hn:0<=n/\n<=9223372036854775807)(hc:c<=1000):CR 80 #[.int .i64 n,.int .i64 (c:Int)] w (.string (bs (Qgg c n))):=by
 refine eN2 Tryz.func80 Tryz.ntmps80 ?_
 refine Qc0 ?_
 refine Qt (α:=Nat×Int×List UInt8×Option Addr×Nat) [0,5,6,7,8,9,10,11,12,13,14,15,16,17,18,19] (λx=>[(6,.int .i64 (x.1:Int)),(0,.int .i64 x.2.1),(5,.slice x.2.2.2.1 x.2.2.1.length x.2.2.2.2)]) (λx=>HS w [] [.own (.slice x.2.2.2.1 x.2.2.1.length x.2.2.2.2) 5 1 (x.2.2.1.length) ((x.2.2.1).map bv)]) (λx=>x.1<=c/\x.2.2.1.length=x.1/\(0<=x.2.1/\x.2.1<=9223372036854775807)/\Qgg c n=x.2.2.1++Qgg (c-x.1) x.2.1) (λx=>c-x.1) (0,n,[],none,0) ⟨Nat.zero_le _,rfl,hn,rfl⟩ aSx (λw h=>(h.own_nil 5 1).ent aEt) (λ⟨k,m,p,ga,gc⟩hx=>?_)
 dsimp only
 obtain⟨hk1,hpl,hm,hst⟩:=hx
 simp only[]at hk1 hpl hm hst
 refine aU7 ?_
 refine sCd rfl (λh1=>?_) λh1=>?_
 ·have hk:k<c:=by omega
  refine aU7 ?_
  refine o_p (Qbr rfl rfl rfl om om) rfl (o_p (Qr rfl rfl Yw Zh) rfl (Qm (show _=bv (by8 m)from(Yp _).trans (by rw[QnQ (show m%256%256=m%256 by omega)])) (o_h (Qd (cs:=[_]) rfl rfl Q1 QcQ rfl rfl rfl) rfl (λb2 _=>o_h (Qy _ rfl rfl rfl Q1 Tryz.underlying155 QcQ rfl aPk (Q5 aPk) rfl (by intro u hu;simp only[List.mem_cons,List.mem_nil_iff,or_false]at hu;subst hu;rfl) om (by simp only[maxLen];omega)) rfl (λb3 _=>aU4 ?_)))))
  refine o_p (Y6 rfl rfl rfl om om om) rfl (aT6 ?_)
  refine aU2 ?_
  exact QR (k+1,m/256,p++[by8 m],b3.1,b3.2) (by(try simp only[]);omega) ⟨by(try simp only[]);omega,by simp[hpl],by(try simp only[]);omega,by simp only[];rw[hst,show c-k=(c-(k+1))+1 by omega,Qgg,List.append_assoc];rfl⟩ (by dsimp only;rw[List.length_append];exact aSx) (λw h=>by dsimp only;rw[List.length_append,List.map_append];exact h.ent aEt)
 obtain rfl:k=c:=om
 rw[Nat.sub_self,Qgg,List.append_nil]at hst
 refine Qi rfl ?_
 refine aU3 ?_
 refine o_q (Qa4 rfl rfl Tryz.underlying155 Tryz.underlying9 Tryz.underlying5 aPk (QeE _)) rfl (aU2 ?_)
 exact rV (h:=by rw[Qdj,hst];rfl)
theorem Qqw:QH Tryz.prog 143=true:=by kernel_rfl
theorem QqM:QH Tryz.prog 184=true:=by kernel_rfl
theorem Qjo:QH Tryz.prog 192=true:=by kernel_rfl
theorem Qfq:QH Tryz.prog 151=true:=by kernel_rfl
instance:TFn Tryz.prog 205:=⟨by kernel_rfl⟩
instance:TFn Tryz.prog 186:=⟨by kernel_rfl⟩
instance:TFn Tryz.prog 142:=⟨by kernel_rfl⟩
instance:TFn Tryz.prog 104:=⟨by kernel_rfl⟩
instance:TFn Tryz.prog 136:=⟨by kernel_rfl⟩
theorem QqO(w:World)(a:Option Addr)(m cap:Nat)(x:List UInt8)(hs:Vl w a (x.map bv))(hm:x.length=m)(h2:2<=m)(hc:m<=cap)(hc9:cap<=9223372036854775807):CR 192 #[.slice a m cap] w (.int .u16 (at2 x 0)):=by
 refine eN1 Tryz.func192 Tryz.ntmps192 ?_
 refine aU5 ?_
 refine Qq [] Qx ?_
 refine dP 0 ?_
 refine dV 1 rfl (Qa rfl rfl rfl Q1 0 rfl om (hs.some (by rw[List.length_map];omega))) (dQ 2 [] rfl (Qc rfl rfl QbQ ((hs.rd (i:=0) (YG (l:=x) (k:=0) om)))) (dV 3 rfl (Qr rfl rfl Zh YH) (dP 4 ?_)))
 refine dV 5 rfl (Qa rfl rfl rfl Q1 1 rfl om (hs.some (by rw[List.length_map];omega))) (dQ 6 [] rfl (Qc rfl rfl QbQ ((hs.rd (i:=1) (YG (l:=x) (k:=1) om)))) (dV 7 rfl (Qr rfl rfl Zh YH) (dV 8 rfl (Qh6 rfl rfl rfl (by decide) 8 rfl) (dP 9 ?_))))
 refine dP 10 ?_
 refine dNi ?_
 exact rV (h:=by rw[<-Qix];rfl)
theorem QnL(w:World)(a:Option Addr)(m cap:Nat)(x:List UInt8)(hs:Vl w a (x.map bv))(hm:x.length=m)(h2:4<=m)(hc:m<=cap)(hc9:cap<=9223372036854775807):CR 151 #[.slice a m cap] w (.int .u32 (at4 x 0)):=by
 have hx2:=ZN x 0
 have hx3:=ZN x 2
 refine eN1 Tryz.func151 Tryz.ntmps151 ?_
 refine aU5 ?_
 refine Qq [] Qx ?_
 refine dP 0 ?_
 refine dQ 1 [] rfl (Ql rfl Qjo rfl (λw1 h1=>QqO w1 a m cap x (hs.later h1) hm om hc hc9)) (dV 2 rfl (Qr rfl rfl YH Yl) (dP 3 ?_))
 refine dV 4 rfl (QJ _ _ 2 m rfl rfl Q1 ⟨_,_,rfl,rfl⟩ rfl om om) (dQ 5 [] rfl (Ql rfl Qjo rfl (λw1 h1=>QqO w1 (Yh a cap 2 1) (m-2) (cap-2) (x.drop 2) (by rw[List.map_drop];exact(hs.later h1).drop (by rw[List.length_map];omega) om) (by rw[List.length_drop];omega) om om om)) (dV 6 rfl (Qr rfl rfl YH Yl) (dV 7 rfl (Qh6 rfl rfl rfl (by decide) 16 rfl) (dP 8 ?_))))
 refine dP 9 ?_
 refine dNi ?_
 exact rV (h:=by have h9:=QiB (at2 x 0) (at2 (x.drop 2) 0) (ZN _ _) (ZN _ _);rw[QbV]at h9 ⊢;exact(congrArg Ending.returned h9))
theorem QoY(w:World)(a:Option Addr)(m cap:Nat)(x:List UInt8)(hs:Vl w a (x.map bv))(hm:x.length=m)(h2:8<=m)(hc:m<=cap)(hc9:cap<=9223372036854775807):CR 153 #[.slice a m cap] w (.agg #[.int .i64 (Z0 x 0).kd,.int .i64 (Z0 x 0).fl,.int .i64 (Z0 x 0).ms,.int .i64 (Z0 x 0).wh]):=by
 have hx2:=ZN x 2
 have hx4:=QaY x 4
 have hb0:=(x.getD 0 0).toNat_lt
 have hb1:=(x.getD 1 0).toNat_lt
 refine eN1 Tryz.func153 Tryz.ntmps153 ?_
 refine aU2 ?_
 refine oAl (λb1 _=>?_) XS
 refine aU2 ?_
 refine Qq [17] Qx ?_
 refine dP 0 ?_
 refine dV 1 rfl (Qa rfl rfl rfl Q1 0 rfl om (hs.some (by rw[List.length_map];omega))) (dQ 2 [[]] rfl (Qc rfl rfl QbQ ((hs.rd (i:=0) (YG (l:=x) (k:=0) om)))) (dV 3 rfl (Qr rfl rfl Zh Yw) (Qs (show _=Value.int .i64 (at1 x 0)from Qi2 om om) (dP 4 ?_))))
 refine dV 5 rfl (Qa rfl rfl rfl Q1 1 rfl om (hs.some (by rw[List.length_map];omega))) (dQ 6 [[]] rfl (Qc rfl rfl QbQ ((hs.rd (i:=1) (YG (l:=x) (k:=1) om)))) (dV 7 rfl (Qr rfl rfl Zh Yw) (Qs (show _=Value.int .i64 (at1 x 1)from Qi2 om om) (dP 8 ?_))))
 refine dV 9 rfl (QJ _ _ 2 m rfl rfl Q1 ⟨_,_,rfl,rfl⟩ rfl om om) (dQ 10 [[]] rfl (Ql rfl Qjo rfl (λw1 h1=>QqO w1 (Yh a cap 2 1) (m-2) (cap-2) (x.drop 2) (by rw[List.map_drop];exact(hs.later h1).drop (by rw[List.length_map];omega) om) (by rw[List.length_drop];omega) om om om)) (dV 11 rfl (Qr rfl rfl YH Yw) (Qs (show _=Value.int .i64 (at2 x 2)from by rw[QbV,Nat.add_zero];exact Qi2 om om) (dP 12 ?_))))
 refine dV 13 rfl (QJ _ _ 4 m rfl rfl Q1 ⟨_,_,rfl,rfl⟩ rfl om om) (dQ 14 [[]] rfl (Ql rfl Qfq rfl (λw1 h1=>QnL w1 (Yh a cap 4 1) (m-4) (cap-4) (x.drop 4) (by rw[List.map_drop];exact(hs.later h1).drop (by rw[List.length_map];omega) om) (by rw[List.length_drop];omega) om om om)) (dV 15 rfl (Qr rfl rfl Yl Yw) (Qs (show _=Value.int .i64 (at4 x 4)from by rw[Qas,Nat.add_zero];exact Qi2 om om) (dV 16 rfl (QD (cs:=[_,_,_,_]) rfl rfl QhB XS rfl) (dSt 17 ?_ (hl:=(by simp only[Qe,List.length_set,List.length_cons,List.length_nil,List.length_map];omega)))))))
 refine dTu [] ?_
 refine dNi ?_
 exact Qf (rs:=[.cell 2 102]) rfl (.cell rfl QdO aPk rfl (.nil)) (λw' h'=>⟨by rfl,h'.below⟩)
theorem c186(w:World)(s:List UInt8)(hm:s.length<=200000):CR 186 #[.string (bs s)] w (.int .i64 0):=by
 refine eN1 Tryz.func186 Tryz.ntmps186 ?_
 refine aU7 ?_
 refine o_p (QN rfl rfl Tryz.underlying9) rfl (aU ?_)
 refine oCq rfl (λw1 h1=>c205 w1 _ _) (aU2 ?_)
 exact rV (h:=by rw[show decide ((s.length:Int)<=200000)=true from decide_eq_true om];rfl)
theorem c142(w:World)(s:List UInt8)(n0:Int)(q:Nat)(cv:Array Value)(st:Int->UInt8->Int)(hm:s.length<=200000)(hn:0<=n0/\n0<2147483648)(hst:∀n c,0<=st n c/\st n c<2147483648)(hq:QH Tryz.prog q=true)(hc:∀n c w1,0<=n/\n<2147483648->Calls Tryz.prog q (#[]++[.int .i64 n,.int .i64 ((c:UInt8).toNat:Int)].toArray++cv) w1 λen w2=>en=.returned (.int .i64 (st n c))/\Below w1.heap.size w1 w2):CR 142 #[.string (bs s),.int .i64 n0,.func (.func q) #[] cv] w (.tuple #[.int .i64 (s.foldl st n0),.int .i64 0]):=by
 refine eN3 Tryz.func142 Tryz.ntmps142 ?_
 refine aU9 ?_
 refine oCq rfl (λw1 h1=>c186 w1 s hm) (aU7 ?_)
 refine sCd rfl (λh1=>?_) λh1=>?_
 ·exfalso;first|omega|(simp at h1;done)|(simp_all;done)
 refine aU5 ?_
 refine o_h (Qer rfl rfl Tryz.underlying9 Tryz.underlying155 Tryz.underlying5 rfl (by simp only[maxLen];omega)) rfl (λ⟨b2,c3⟩⟨h4,k5⟩=>aU4 ?_)
 refine Qt (α:=Nat) [1,10,19,20,21,22,23,24,25,26,27,28] (λk=>[(19,.int .i64 (k:Int)),(1,.int .i64 ((s.take k).foldl st n0))]) (λ_=>_) (λk=>k<=s.length) (λk=>s.length-k) 0 (Nat.zero_le _) aSx (λw h=>h) (λk hk1=>?_)
 refine aU5 ?_
 refine sCd rfl (λh6=>?_) λh6=>?_
 ·have hk:k<s.length:=by omega
  have hs9:=Qff (f:=st) (a:=n0) hk
  have hle:=QbP hst (s.take k) n0 hn
  have hb9:=(s.getD k 0).toNat_lt
  refine aU5 ?_
  refine o_p (Qa rfl rfl rfl Q1 (k) om om rfl) rfl (o_q (Qn rfl rfl QbQ (λw h=>by rw[Nat.zero_add];exact h.rd_blk (Mc:=[]) aPk (by rw[Nat.mul_one];exact YG hk) (by simp))) rfl (aU6 ?_))
  refine o_p (Qr rfl rfl Zh Yw) rfl ?_
  try refine oWr ?_
  refine o_q (X3 rfl rfl hq rfl (λw1 h1=>hc ((s.take k).foldl st n0) (s.getD k 0) w1 hle)) rfl (aT5 ?_)
  refine aU2 ?_
  exact QR (k+1) om om (by rw[hs9];exact aSx) (λw h=>h)
 obtain rfl:k=s.length:=om
 rw[List.take_length]
 refine Qi rfl ?_
 refine aU6 ?_
 exact Qf (rs:=[.tmp 6,.tmp 7]) rfl (.tmp rfl (.tmp rfl (.nil))) (λw' h'=>⟨by rfl,h'.below⟩)
theorem c143(w:World)(n:Int)(c:UInt8)(hn:0<=n/\n<2147483648):CR 143 #[.int .i64 n,.int .i64 (c.toNat:Int)] w (.int .i64 (QcK n c)):=by
 have hb:=c.toNat_lt
 refine eN2 Tryz.func143 Tryz.ntmps143 ?_
 refine aT8 ?_
 refine aT2 ?_
 refine o_p (Qbr rfl rfl rfl om om) rfl (aU2 ?_)
 exact rV
theorem c184(w:World)(n:Int)(c:UInt8)(hn:0<=n/\n<2147483648):CR 184 #[.int .i64 n,.int .i64 (c.toNat:Int)] w (.int .i64 (QfA n c)):=by
 have hb:=c.toNat_lt
 obtain⟨m,rfl⟩:=Int.eq_ofNat_of_zero_le hn.1
 refine eN2 Tryz.func184 Tryz.ntmps184 ?_
 refine aU7 ?_
 refine o_p (Qh6 rfl rfl rfl (by decide) 1 rfl) rfl (aU2 ?_)
 refine o_p (Qdw rfl rfl rfl (by decide) 30 rfl) rfl (aU ?_)
 refine Qm (show _=Value.int .i64 ((2*m%2147483648+m/1073741824:Nat):Int)from QrG m om) (aU7 ?_)
 refine Qm (Qi2 om om) (o_p (Qbr rfl rfl rfl om om) rfl (aU2 ?_))
 exact rV (h:=by unfold QfA;rw[show(2*(m:Int)%2147483648+(m:Int)/1073741824)=((2*m%2147483648+m/1073741824:Nat):Int) by omega];rfl)
theorem c104(w:World)(s:List UInt8)(hm:s.length<=200000):CR 104 #[.string (bs s)] w (.tuple #[.int .i64 (XD s),.int .i64 0]):=by
 refine eN1 Tryz.func104 Tryz.ntmps104 ?_
 refine aU8 ?_
 refine oCq rfl (λw1 h1=>c142 w1 s 17 143 #[] QcK hm om Qd4 Qqw (λn c w2 hn=>c143 w2 n c hn)) (aU5 ?_)
 exact Qf (rs:=[.tmp 2,.tmp 3]) rfl (.tmp rfl (.tmp rfl (.nil))) (λw' h'=>⟨by rfl,h'.below⟩)
theorem c62(w:World)(s:List UInt8)(hm:s.length<=200000):CR 62 #[.string (bs s)] w (.int .i64 (XD s)):=by
 refine eN1 Tryz.func62 Tryz.ntmps62 ?_
 refine aU7 ?_
 refine oCq rfl (λw1 h1=>c104 w1 s hm) (YZ ?_)
 exact rV
theorem c136(w:World)(s:List UInt8)(hm:s.length<=200000):CR 136 #[.string (bs s)] w (.tuple #[.int .i64 (Qk3 s),.int .i64 0]):=by
 refine eN1 Tryz.func136 Tryz.ntmps136 ?_
 refine aU8 ?_
 refine oCq rfl (λw1 h1=>c142 w1 s 0 184 #[] QfA hm om QhX QqM (λn c w2 hn=>c184 w2 n c hn)) (aU5 ?_)
 exact Qf (rs:=[.tmp 2,.tmp 3]) rfl (.tmp rfl (.tmp rfl (.nil))) (λw' h'=>⟨by rfl,h'.below⟩)
theorem c94(w:World)(s:List UInt8)(hm:s.length<=200000):CR 94 #[.string (bs s)] w (.int .i64 (Qk3 s)):=by
 refine eN1 Tryz.func94 Tryz.ntmps94 ?_
 refine aU7 ?_
 refine oCq rfl (λw1 h1=>c136 w1 s hm) (YZ ?_)
 exact rV
theorem c81(w:World)(s:List UInt8)(hm:s.length<=1000000000):CR 81 #[.string (bs s)] w (.int .i64 (XD s)):=by
 refine eN1 Tryz.func81 Tryz.ntmps81 ?_
 refine Qc0 ?_
 refine Qt (α:=Nat) [3,4,5,6,7,8,9,10,11,12,13,14,15,16,17,18] (λk=>[(4,.int .i64 (k:Int)),(3,.int .i64 ((s.take k).foldl QcK 17))]) (λ_=>_) (λk=>k<=s.length) (λk=>s.length-k) 0 (Nat.zero_le _) aSx (λw h=>h) (λk hk1=>?_)
 refine aU5 ?_
 refine o_p (QN rfl rfl Tryz.underlying9) rfl (aU2 ?_)
 refine sCd rfl (λh1=>?_) λh1=>?_
 ·have hk:k<s.length:=by omega
  have hs9:=Qff (f:=QcK) (a:=(17:Int)) hk
  have hle:=QbP Qd4 (s.take k) 17 om
  have hb9:=(s.getD k 0).toNat_lt
  refine aT6 ?_
  refine aU2 ?_
  refine o_p (Z6 rfl rfl rfl Tryz.underlying9 (k) om om) rfl ?_
  refine o_p (Qr rfl rfl Zh Yw) rfl ?_
  try refine oWr ?_
  refine aT ?_
  refine o_p (Qbr rfl rfl rfl om om) rfl (aT6 ?_)
  refine aU2 ?_
  exact QR (k+1) om om (by rw[hs9];exact aSx) (λw h=>h)
 obtain rfl:k=s.length:=om
 rw[List.take_length]
 refine Qi rfl ?_
 refine aU5 ?_
 exact rV
instance:TFn Tryz.prog 131:=⟨by kernel_rfl⟩
instance:TFd Tryz.prog 50 2 2 4:=⟨by kernel_rfl⟩
theorem Qjc:QH Tryz.prog 132=true:=by kernel_rfl
def h4B(d:Dsc):List UInt8:=[1,by8 (QgD d),by8 d.en.length,by8 d.au.length]
theorem Qny(d:Dsc):Yq d=h4B d++le4 d.ow++le4 d.gr:=rfl
theorem QoB(h x:List UInt8)(a:Ace):h++(x++Ze a)=h++x++[by8 a.kd,by8 a.fl]++le2 a.ms++le4 a.wh:=by
  simp only[Ze,List.append_assoc,List.cons_append,List.nil_append]
theorem c89(w:World)(d:Dsc)(ea:Option Addr)(eac:Nat)(aa:Option Addr)(aac:Nat)(hse:Rw Ace.vals 4 w [] ea d.en)(hsa:Rw Ace.vals 4 w [] aa d.au)(hme:d.en.length<=100000)(hma:d.au.length<=100000):CR 89 #[.agg #[.int .i64 d.ow,.int .i64 d.gr,.bool d.pr,.bool d.he,.slice ea d.en.length eac,.slice aa d.au.length aac]] w (.tuple #[.string (bs (if(Yd d).2=0 then Zz d else[])),.int .i64 (Yd d).2]):=by
 refine eN1 Tryz.func89 Tryz.ntmps89 ?_
 refine aU2 ?_
 refine oBx λb1 _=>?_
 refine aU7 ?_
 refine oCq rfl (λw1 h1=>Qqk w1 d ea eac aa aac (hse.later h1) (hsa.later h1) hme hma) (aU7 ?_)
 refine sCd rfl (λh2=>?_) λh2=>?_
 ·have h0:¬(Yd d).2=0:=h2
  refine aU6 ?_
  exact Qf (rs:=[.tmp 2,.tmp 3]) rfl (.tmp rfl (.tmp rfl (.nil))) (λw' h'=>⟨by rw[if_neg h0];rfl,h'.below⟩)
 have h0:(Yd d).2=0:=h2
 obtain⟨hok1,hok2,hok3,hok4⟩:=Qnx h0
 have hokp:=QlK hok1
 have hll:(d.en++d.au).length<=32:=by rw[List.length_append];omega
 refine YZ ?_
 refine Xe (α:=Unit) [5,16,17] (λ_=>[(5,.int .i64 (if d.pr then 1 else 0))]) (λ_=>HS w [] [.blk b1 50 6 [.int .i64 d.ow,.int .i64 d.gr,.bool d.pr,.bool d.he,.slice ea d.en.length eac,.slice aa d.au.length aac]]) (λ_=>True) ?_ ?_
 ·skip
  refine sCd rfl (λh3=>?_) λh3=>?_
  ·have hp9:d.pr=true:=h3
   refine aU5 ?_
   exact Qo () trivial (by(try dsimp only);rw[hp9];exact aSx) (λw h=>h.ent aEt)
  have hp9:d.pr=false:=by simpa using h3
  refine aU ?_
  exact Qo () trivial (by(try dsimp only);rw[hp9];exact aSx) (λw h=>h.ent aEt)
 intro _ _
 refine aU6 ?_
 refine Xe (α:=Unit) [5,20,21] (λ_=>[(5,.int .i64 (QgD d))]) (λ_=>HS w [] [.blk b1 50 6 [.int .i64 d.ow,.int .i64 d.gr,.bool d.pr,.bool d.he,.slice ea d.en.length eac,.slice aa d.au.length aac]]) (λ_=>True) ?_ ?_
 ·skip
  refine sCd rfl (λh4=>?_) λh4=>?_
  ·have hh9:d.he=true:=h4
   refine aU5 ?_
   exact Qo () trivial (by unfold QgD;rw[hh9];cases d.pr<;>exact aSx) (λw h=>h.ent aEt)
  have hh9:d.he=false:=by simpa using h4
  refine aU ?_
  exact Qo () trivial (by unfold QgD;rw[hh9];cases d.pr<;>exact aSx) (λw h=>h.ent aEt)
 intro _ _
 refine aU3 ?_
 refine o_p (Qr rfl rfl Yw Zh) rfl (Qm (Yp _) (aU3 ?_))
 refine o_p (Qr rfl rfl Yw Zh) rfl (Qm (Yp _) (aU3 ?_))
 refine o_p (Qr rfl rfl Yw Zh) rfl (Qm (Yp _) (o_h (Qd (cs:=[_,_,_,_]) rfl rfl Q1 QcQ rfl rfl rfl) rfl (λb5 _=>Q6 (C':=HS w [] [.own (.slice (some ⟨b5,0,none⟩) 4 4) 5 1 (4) ((h4B d).map bv),.blk b1 50 6 [.int .i64 d.ow,.int .i64 d.gr,.bool d.pr,.bool d.he,.slice ea d.en.length eac,.slice aa d.au.length aac]]) (λw h=>HS.own_shut (cap:=4) (n:=4) (sz:=1) (h.ent aEt) rfl om (by decide)) (aU7 ?_))))
 refine o_p (Qr rfl rfl Yw Yl) rfl (Qm (show _=Value.int .u32 d.ow from by rw[Qeb,Int.emod_eq_of_lt om om]) (o_h (QT (Cs:=[.own (.slice (some ⟨b5,0,none⟩) (h4B d).length 4) 5 1 ((h4B d).length) ((h4B d).map bv)]) rfl Qjc rfl aPs (λw1 h1 hf=>QpS w1 (some ⟨b5,0,none⟩) 4 (h4B d) d.ow hf om (by simp only[List.length_append,h4B,List.length_cons,List.length_nil,le4,le2];omega))) rfl (λg8 _=>aU3 ?_)))
 refine Qg (L':=[(1,_),(2,_),(3,_),(6,_)]) aSx (λ_ h=>h) ?_
 refine aU4 ?_
 refine o_p (Qr rfl rfl Yw Yl) rfl (Qm (show _=Value.int .u32 d.gr from by rw[Qeb,Int.emod_eq_of_lt om om]) (o_h (QT (Cs:=[.own (.slice g8.1 (h4B d++le4 d.ow).length g8.2) 5 1 ((h4B d++le4 d.ow).length) ((h4B d++le4 d.ow).map bv)]) rfl Qjc rfl aPs (λw1 h1 hf=>QpS w1 g8.1 g8.2 (h4B d++le4 d.ow) d.gr hf om (by simp only[List.length_append,h4B,List.length_cons,List.length_nil,le4,le2];omega))) rfl (λg12 _=>aU9 ?_)))
 refine o_h (Qd (cs:=[_,_]) rfl rfl QeS QlZ rfl rfl rfl) rfl (λb6 _=>oCh rfl (λw1 h1=>cat2 w1 ea aa eac aac d.en d.au h1 aPk (hse.later h1) (hsa.later h1) om om) (λgw _=>aU4 ?_))
 refine Qg (L':=[(2,_),(3,_),(6,_),(48,_),(49,_),(50,_)]) aSx (λ_ h=>h) ?_
 refine Qt (α:=Nat×Option Addr×Nat) [6,8,50,51,52,53,54,55,56,57,58,59,60,61,62,63,64,65,66,67,68,69,70,71,72,73] (λx=>[(50,.int .i64 (x.1:Int)),(6,.slice x.2.1 (Yq d++((d.en++d.au).take x.1).flatMap Ze).length x.2.2)]) (λx=>HS w [] [.own (.slice x.2.1 ((Yq d++((d.en++d.au).take x.1).flatMap Ze)).length x.2.2) 5 1 (((Yq d++((d.en++d.au).take x.1).flatMap Ze)).length) (((Yq d++((d.en++d.au).take x.1).flatMap Ze)).map bv),.own (.slice gw.1 (d.en++d.au).length gw.2) 102 4 (d.en++d.au).length ((d.en++d.au).flatMap Ace.vals),.blk b1 50 6 [.int .i64 d.ow,.int .i64 d.gr,.bool d.pr,.bool d.he,.slice ea d.en.length eac,.slice aa d.au.length aac]]) (λx=>x.1<=(d.en++d.au).length) (λx=>(d.en++d.au).length-x.1) (0,g12.1,g12.2) (Nat.zero_le _) (by rw[List.take_zero,List.flatMap_nil,List.append_nil];exact aSx) (λw h=>by dsimp only;rw[List.take_zero,List.flatMap_nil,List.append_nil,Qny];exact h.ent aEt) (λ⟨k,ga,gc⟩hk1=>?_)
 dsimp only
 simp only[]at hk1
 refine aU5 ?_
 refine sCd rfl (λh7=>?_) λh7=>?_
 ·have hk:k<(d.en++d.au).length:=by omega
  have hae:=Qoy (QmI (hok4 k hk))
  have hst:(Yq d++((d.en++d.au).take (k+1)).flatMap Ze)=_:=(congrArg (Yq d++ ·) (Qn4 (f:=Ze) hk)).trans (QoB _ _ _)
  have hln:=Qgv ((d.en++d.au).take k)
  have hhl:=QgL d
  rw[List.length_take]at hln
  refine X0 (λw h=>Rw.some (h.rw_own av4 aPk rfl) om) λhsm=>aU5 ?_
  refine o_p (Qa rfl rfl rfl YM (k) om om hsm) rfl (o_q (Yi _ rfl rfl QdO rfl (λw h=>Rw.rd (h.rw_own av4 aPk rfl) hk)) rfl (oAl (λb8 _=>?_) XS))
  refine aU7 ?_
  refine o_p (Qr rfl rfl Yw Zh) rfl (Qm (Yp _) (aU2 ?_))
  refine o_p (Qr rfl rfl Yw Zh) rfl (Qm (Yp _) (o_h (Qd (cs:=[_,_]) rfl rfl Q1 QcQ rfl rfl rfl) rfl (λb9 _=>?_)))
  refine o_h (Qy _ rfl rfl rfl Q1 Tryz.underlying155 QcQ rfl aPk (Q5 aPk) rfl (by intro u hu;simp only[List.mem_cons,List.mem_nil_iff,or_false]at hu;rcases hu with rfl|rfl<;>rfl) (by simp only[List.length_append];omega) (by simp only[maxLen,List.length_append];omega)) rfl (λb10 _=>Qm (show _=Value.slice b10.1 ((Yq d++((d.en++d.au).take k).flatMap Ze)++[by8 (nth (d.en++d.au) k).kd,by8 (nth (d.en++d.au) k).fl]).length b10.2 from by rw[@List.length_append _ (Yq d++((d.en++d.au).take k).flatMap Ze) _];rfl) (Q6 (C':=HS w [] [.own (.slice b10.1 ((Yq d++((d.en++d.au).take k).flatMap Ze)++[by8 (nth (d.en++d.au) k).kd,by8 (nth (d.en++d.au) k).fl]).length b10.2) 5 1 (((Yq d++((d.en++d.au).take k).flatMap Ze)++[by8 (nth (d.en++d.au) k).kd,by8 (nth (d.en++d.au) k).fl]).length) (((Yq d++((d.en++d.au).take k).flatMap Ze)++[by8 (nth (d.en++d.au) k).kd,by8 (nth (d.en++d.au) k).fl]).map bv),.blk b8 102 4 (Ace.vals (nth (d.en++d.au) k)),.own (.slice gw.1 (d.en++d.au).length gw.2) 102 4 (d.en++d.au).length ((d.en++d.au).flatMap Ace.vals),.blk b1 50 6 [.int .i64 d.ow,.int .i64 d.gr,.bool d.pr,.bool d.he,.slice ea d.en.length eac,.slice aa d.au.length aac]]) (λw h=>by rw[List.map_append (l₁:=(Yq d++((d.en++d.au).take k).flatMap Ze)),@List.length_append _ (Yq d++((d.en++d.au).take k).flatMap Ze) _];exact h.ent aEt) (aU7 ?_)))
  refine o_p (Qr rfl rfl Yw YH) rfl (Qm (show _=Value.int .u16 (nth (d.en++d.au) k).ms from by rw[QmC,Int.emod_eq_of_lt om om]) (o_h (QT (Cs:=[.own (.slice b10.1 ((Yq d++((d.en++d.au).take k).flatMap Ze)++[by8 (nth (d.en++d.au) k).kd,by8 (nth (d.en++d.au) k).fl]).length b10.2) 5 1 (((Yq d++((d.en++d.au).take k).flatMap Ze)++[by8 (nth (d.en++d.au) k).kd,by8 (nth (d.en++d.au) k).fl]).length) (((Yq d++((d.en++d.au).take k).flatMap Ze)++[by8 (nth (d.en++d.au) k).kd,by8 (nth (d.en++d.au) k).fl]).map bv)]) rfl Qma rfl aPs (λw1 h1 hf=>c134 w1 b10.1 b10.2 ((Yq d++((d.en++d.au).take k).flatMap Ze)++[by8 (nth (d.en++d.au) k).kd,by8 (nth (d.en++d.au) k).fl]) (nth (d.en++d.au) k).ms hf om (by simp only[List.length_append,h4B,List.length_cons,List.length_nil,le4,le2];omega))) rfl (λg16 _=>aU6 ?_)))
  refine o_p (Qr rfl rfl Yw Yl) rfl (Qm (show _=Value.int .u32 (nth (d.en++d.au) k).wh from by rw[Qeb,Int.emod_eq_of_lt om om]) (o_h (QT (Cs:=[.own (.slice g16.1 ((Yq d++((d.en++d.au).take k).flatMap Ze)++[by8 (nth (d.en++d.au) k).kd,by8 (nth (d.en++d.au) k).fl]++le2 (nth (d.en++d.au) k).ms).length g16.2) 5 1 (((Yq d++((d.en++d.au).take k).flatMap Ze)++[by8 (nth (d.en++d.au) k).kd,by8 (nth (d.en++d.au) k).fl]++le2 (nth (d.en++d.au) k).ms).length) (((Yq d++((d.en++d.au).take k).flatMap Ze)++[by8 (nth (d.en++d.au) k).kd,by8 (nth (d.en++d.au) k).fl]++le2 (nth (d.en++d.au) k).ms).map bv)]) rfl Qjc rfl aPs (λw1 h1 hf=>QpS w1 g16.1 g16.2 ((Yq d++((d.en++d.au).take k).flatMap Ze)++[by8 (nth (d.en++d.au) k).kd,by8 (nth (d.en++d.au) k).fl]++le2 (nth (d.en++d.au) k).ms) (nth (d.en++d.au) k).wh hf om (by simp only[List.length_append,h4B,List.length_cons,List.length_nil,le4,le2];omega))) rfl (λg32 _=>aT5 ?_)))
  refine aU2 ?_
  exact QR (k+1,g32.1,g32.2) (by(try simp only[]);omega) (by(try simp only[]);omega) (by dsimp only;rw[hst];exact aSx) (λw h=>by dsimp only;rw[hst];exact h.ent aEt)
 obtain rfl:k=(d.en++d.au).length:=om
 rw[List.take_length,<-QkG]
 refine Qi rfl ?_
 refine aU3 ?_
 refine o_q (Qa4 rfl rfl Tryz.underlying155 Tryz.underlying9 Tryz.underlying5 aPk (QeE _)) rfl (aU3 ?_)
 exact Qf (rs:=[.tmp 2,.tmp 3]) rfl (.tmp rfl (.tmp rfl (.nil))) (λw' h'=>⟨by rw[if_pos h0,h0,Qdj];rfl,h'.below⟩)
theorem QhE:tsz Tryz.prog 155=some (1,false):=by kernel_rfl
instance:TSz Tryz.prog 155 1 false:=⟨QhE⟩
theorem c193(w:World){G:Type}(w0:World)(M:List Nat)(Cs:Nat->G->List HA)(g0:G)(l b1 b2 K:Nat)(a:Option Addr)(m cap:Nat)(hm:m=8*K)(hmc:m<=cap)(hcap:cap<=9223372036854775807)(hw:HS w0 M (Cs 0 g0) w)(hr:∀k g w,HS w0 M (Cs k g) w->Rd w [] b1 0 (.slice a m cap)/\Rd w [] b2 0 (.int .i64 8))(hy:∀k g w,k<K->HS w0 M (Cs k g) w->QeB Tryz.prog l #[.slice (Yh a (8*k+8) (8*k) 1) 8 8] w λe w'=>∃g',e=.returned (.bool true)/\True/\HS w0 M (Cs (k+1) g') w'):Calls Tryz.prog 193 #[.func (.yield l) #[] #[],.pointer (some ⟨b1,0,none⟩),.pointer (some ⟨b2,0,none⟩)] w λen w'=>(∃v,en=.returned v)/\∃x:G,HS w0 M (Cs K x) w':=by
 refine eW3 Tryz.func193 Tryz.ntmps193 hw ?_
 refine aU5 ?_
 refine Qt (α:=Nat×G) [4,5,6,7,8,9,10,11,12,13,14,15,16,17,18,19,20,21,22,23,24,25,26,27,28,29,30] (λx=>[(4,.int .i64 ((8*x.1:Nat):Int))]) (λx=>HS w0 M (Cs x.1 x.2)) (λx=>x.1<=K) (λx=>K-x.1) (0,g0) (Nat.zero_le _) aSx (λw h=>h) (λ⟨k,gg⟩hk1=>?_)
 dsimp only
 simp only[]at hk1
 refine aU4 ?_
 refine o_q (Qn rfl rfl QhE (λw h=>(hr _ _ w h).1)) rfl (aU3 ?_)
 refine sCd rfl (λh1=>?_) λh1=>?_
 ·have hk:k<K:=by omega
  refine aU4 ?_
  refine Qq [] Qx ?_
  refine dQ 0 [] rfl (Qn rfl rfl Xq (λw h=>(hr _ _ w h).2)) (dQ 1 [] rfl (Qn rfl rfl QhE (λw h=>(hr _ _ w h).1)) (dP 2 ?_))
  refine dV 3 rfl (QJ _ _ (8*k) m rfl rfl Q1 ⟨_,_,rfl,rfl⟩ rfl om om) (dV 4 rfl (Qz rfl rfl Tryz.underlying155) (dV 5 rfl (Qq0 rfl rfl rfl ) ?_))
  refine Qs (show _=Value.int .i64 8 from by congr 1;split<;>omega) (dP 6 ?_)
  refine dNi ?_
  refine aU3 ?_
  refine o_q (Qn rfl rfl QhE (λw h=>(hr _ _ w h).1)) rfl (aT4 ?_)
  refine aT3 ?_
  refine o_p (QnH (8*k) (8*k+8) (8*k+8) rfl rfl rfl rfl rfl Q1 rfl om om om om om) rfl ?_
  refine Qm (show _=Value.slice (Yh a (8*k+8) (8*k) 1) 8 8 from by congr 1<;>omega) (o_h (QjY rfl rfl rfl (λw1 h1=>hy k gg w1 hk h1)) rfl (λgy _=>aU2 ?_))
  refine sCd rfl (λh2=>?_) λh2=>?_
  ·exfalso;first|omega|(simp at h2;done)|(simp_all;done)
  refine aU4 ?_
  refine o_q (Qn rfl rfl Xq (λw h=>(hr _ _ w h).2)) rfl (aT ?_)
  refine aU2 ?_
  exact QR (k+1,gy) (by(try simp only[]);omega) (by(try simp only[]);omega) aSx (λw h=>h)
 obtain rfl:k=K:=om
 refine Qi rfl ?_
 exact QcM rfl (λw' h'=>⟨⟨_,rfl⟩,gg,h'⟩)
theorem YJ:Xy Tryz.prog 50=some [.int .i64 0,.int .i64 0,.bool false,.bool false,.slice none 0 0,.slice none 0 0]:=by kernel_rfl
theorem Qbm:YA Tryz.prog 50=some [(0,1),(1,1),(2,1),(3,1),(4,1),(5,1)]:=by kernel_rfl
instance:TFn Tryz.prog 152:=⟨by kernel_rfl⟩
theorem QmB:QH Tryz.prog 193=true:=by kernel_rfl
theorem Qhv:QH Tryz.prog 153=true:=by kernel_rfl
theorem c152(w:World)(a:Option Addr)(m cap:Nat):CE 152 #[.slice a m cap,.int .i64 8] w [] (λg:Nat×Nat=>.func (.func 193) #[] #[.pointer (some ⟨g.1,0,none⟩),.pointer (some ⟨g.2,0,none⟩)]) (λg=>True) λg=>[.blk g.1 155 1 [.slice a m cap],.blk g.2 3 1 [.int .i64 8]]:=by
 refine eN2 Tryz.func152 Tryz.ntmps152 ?_
 refine aU2 ?_
 refine oBx λb1 _=>?_
 refine oBx λb2 _=>?_
 refine aU8 ?_
 refine sCd rfl (λh3=>?_) λh3=>?_
 ·exfalso;first|omega|(simp at h3;done)|(simp_all;done)
 refine aU6 ?_
 exact rT rfl rfl (λw' h'=>⟨(b1,b2),rfl,trivial,h'.ent aEt⟩)
set_option maxHeartbeats 4000000 in
theorem c116(w:World)(s:List UInt8)(hm:s.length<=1000000):CE 116 #[.string (bs s)] w [] (λg:(Option Addr×Nat)×(Option Addr×Nat)=>.tuple #[.agg #[.int .i64 (Y0 s).ow,.int .i64 (Y0 s).gr,.bool (Y0 s).pr,.bool (Y0 s).he,.slice g.1.1 (Y0 s).en.length g.1.2,.slice g.2.1 (Y0 s).au.length g.2.2],.int .i64 (ZG s)]) (λg=>True) λg=>[.own (.slice g.1.1 (Y0 s).en.length g.1.2) 102 4 (Y0 s).en.length ((Y0 s).en.flatMap Ace.vals),.own (.slice g.2.1 (Y0 s).au.length g.2.2) 102 4 (Y0 s).au.length ((Y0 s).au.flatMap Ace.vals)]:=by
 have hc2:=(s.getD 2 0).toNat_lt
 have hc3:=(s.getD 3 0).toNat_lt
 have hb0:=Zy s 0
 have hb1:=Zy s 1
 have hb2:=Zy s 2
 have hb3:=Zy s 3
 have hx4:=QaY s 4
 have hx8:=QaY s 8
 refine eN1 Tryz.func116 Tryz.ntmps116 ?_
 refine aU2 ?_
 refine oAl (λb1 _=>?_) YJ
 refine aU5 ?_
 refine o_h (Qer rfl rfl Tryz.underlying9 Tryz.underlying155 Tryz.underlying5 rfl (by simp only[maxLen];omega)) rfl (λ⟨b2,c3⟩⟨h4,k5⟩=>aU9 ?_)
 refine sCd rfl (λh6=>?_) λh6=>?_
 ·have hl12:s.length<12:=by omega
  have hz9:Zi s=10:=by unfold Zi;rw[if_pos hl12]
  obtain⟨hE9,hD9⟩:=QaW (s:=s) (by rw[hz9];decide)
  refine aU2 ?_
  refine o_p (QD (cs:=[_,_,_,_,_,_]) rfl rfl Qbm YJ rfl) rfl (aU3 ?_)
  exact Qf (rs:=[.cell 2 50,.tmp 3]) rfl (.cell rfl ZA aPk rfl (.tmp rfl (.nil))) (λw' h'=>⟨((none,0),(none,0)),by rw[hE9,hD9,hz9];rfl,trivial,by rw[hD9];exact((h'.own_nil 102 4).own_nil 102 4).ent aEt⟩)
 have hl12:¬s.length<12:=om
 refine aU2 ?_
 refine Qaa [.blk b2 5 c3 (s.map bv)] [] Qx ?_
 refine dP 0 ?_
 refine dV 1 rfl (Qa rfl rfl rfl Q1 (2) om om rfl) (dQ 2 [] rfl (Qn rfl rfl QbQ (λw h=>h.rd_blk (Mc:=[]) (b:=b2) (i:=2) aPk (YG (l:=s) (k:=2) om) (by simp))) (dV 3 rfl (Qr rfl rfl Zh Yw) ?_))
 try refine dWr ?_
 refine Qs (show _=Value.int .i64 (at1 s 2)from rfl) (dP 4 ?_)
 refine dV 5 rfl (Qa rfl rfl rfl Q1 (3) om om rfl) (dQ 6 [] rfl (Qn rfl rfl QbQ (λw h=>h.rd_blk (Mc:=[]) (b:=b2) (i:=3) aPk (YG (l:=s) (k:=3) om) (by simp))) (dV 7 rfl (Qr rfl rfl Zh Yw) ?_))
 try refine dWr ?_
 refine Qs (show _=Value.int .i64 (at1 s 3)from rfl) (dH 8 rfl (X9 rfl Yo) (λb7 _=>dSt 9 ?_ (hl:=(by simp only[Qe,List.length_set,List.length_cons,List.length_nil,List.length_map];omega))))
 refine dP 10 ?_
 refine dNi ?_
 refine aU ?_
 refine Qq [] Qx ?_
 refine dLd 0 [] ?_
 refine dP 1 ?_
 refine dV 2 rfl (QcS rfl rfl rfl ) (dP 3 ?_)
 refine dQ 4 [] rfl (Ql rfl QaO rfl (λw1 h1=>QfM w1 _ _)) (dP 5 ?_)
 refine dV 6 rfl (Qz rfl rfl Tryz.underlying155) (dLd 7 [] ?_)
 refine dP 8 ?_
 refine dP 9 ?_
 try refine dWr ?_
 refine dP 10 ?_
 try refine dWr ?_
 refine dP 11 ?_
 try refine dWr ?_
 refine dP 12 ?_
 refine dQ 13 [] rfl (Ql rfl QaO rfl (λw1 h1=>QfM w1 _ _)) (dP 14 ?_)
 refine dV 15 rfl (Qa rfl rfl rfl Q1 (0) om om rfl) (dQ 16 [] rfl (Qn rfl rfl QbQ (λw h=>h.rd_blk (Mc:=[]) (b:=b2) (i:=0) aPk (YG (l:=s) (k:=0) om) (by simp))) (dP 17 ?_))
 refine dP 18 ?_
 apply Q7 43
 ·exact rfl
 ·intro hg8
  have hs9:=hg8;try simp only[dT]at hs9
  refine dPo 19 43 hg8 ?_
  refine dVo 20 43 hg8 rfl rfl rfl (Qa rfl rfl rfl Q1 (1) om om rfl) ?_
  refine dQo 21 43 [] hg8 rfl rfl rfl (Qn rfl rfl QbQ (λw h=>h.rd_blk (Mc:=[]) (b:=b2) (i:=1) aPk (YG (l:=s) (k:=1) om) (by simp))) ?_
  refine dPo 22 43 hg8 ?_
  refine dV 23 rfl (Xk rfl rfl hg8 rfl) (dQ 24 [] rfl (Ql rfl QaO rfl (λw1 h1=>QfM w1 _ _)) (dH 25 rfl (Qd (cs:=[_,_,_]) rfl rfl XI Yv rfl rfl rfl) (λb10 _=>dBa ?_)))
  refine dQ 26 [] rfl (Ql rfl QdS rfl (λw1 h1=>QkP h1 aPk (by rfl) (by rfl) (by decide))) (dP 27 ?_)
  refine dNi ?_
  refine aU2 ?_
  refine Qg (L':=[(2,_),(3,_),(4,_),(5,_),(7,_)]) aSx (λ_ h=>h) ?_
  refine aU4 ?_
  refine sCd rfl (λh11=>?_) λh11=>?_
  ·have hp9:=Qck (s:=s) (mx:=(if at1 s 3>at1 s 2 then at1 s 3 else at1 s 2)) (c:=decide ((s.length:Int)=12+(at1 s 2+at1 s 3)*8)) (b:=decide (at1 s 0=1)&&decide (at1 s 1<=3)) hl12 (by split<;>omega) rfl rfl
   rw[show decide (at1 s 0=1)=_ from hg8]at hp9
   have hz9:¬Zi s=0:=by rw[<-hp9];exact h11
   obtain⟨hE9,hD9⟩:=QaW hz9
   refine aU2 ?_
   refine o_p (QD (cs:=[_,_,_,_,_,_]) rfl rfl Qbm YJ rfl) rfl (aU4 ?_)
   exact Qf (rs:=[.cell 2 50,.tmp 3]) rfl (.cell rfl ZA aPk rfl (.tmp rfl (.nil))) (λw' h'=>⟨((none,0),(none,0)),by rw[hE9,hD9,<-hp9];rfl,trivial,by rw[hD9];exact((h'.own_nil 102 4).own_nil 102 4).ent aEt⟩)
  have hp9:=Qck (s:=s) (mx:=(if at1 s 3>at1 s 2 then at1 s 3 else at1 s 2)) (c:=decide ((s.length:Int)=12+(at1 s 2+at1 s 3)*8)) (b:=decide (at1 s 0=1)&&decide (at1 s 1<=3)) hl12 (by split<;>omega) rfl rfl
  rw[show decide (at1 s 0=1)=_ from hg8]at hp9
  have hz9:Zi s=0:=by rw[<-hp9];exact h11
  obtain⟨hs1,⟨hs2,hs3⟩,hs4,hs5,hs6⟩:=Qnm hz9
  have hraw:=@Xd
  refine aU2 ?_
  refine Qq [12] Qx ?_
  refine dP 0 ?_
  refine dV 1 rfl (Qa rfl rfl rfl Q1 (1) om om rfl) (dQ 2 [[]] rfl (Qn rfl rfl QbQ (λw h=>h.rd_blk (Mc:=[]) (b:=b2) (i:=1) aPk (YG (l:=s) (k:=1) om) (by simp))) (dP 3 ?_))
  refine dP 4 ?_
  refine Qs (show _=Value.bool (Xd s).pr from by rw[show Gx.bits .and .u8 ((s.getD 1 0).toNat:Int) 1=Gx.bits .and .u8 (at1 s 1) 1 from rfl,bit0 om,Bool.not_not];rfl) (dP 5 ?_)
  refine dV 6 rfl (Qa rfl rfl rfl Q1 (1) om om rfl) (dQ 7 [[]] rfl (Qn rfl rfl QbQ (λw h=>h.rd_blk (Mc:=[]) (b:=b2) (i:=1) aPk (YG (l:=s) (k:=1) om) (by simp))) (dP 8 ?_))
  refine dP 9 ?_
  refine Qs (show _=Value.bool (Xd s).he from by rw[show Gx.bits .and .u8 ((s.getD 1 0).toNat:Int) 2=Gx.bits .and .u8 (at1 s 1) 2 from rfl,bit1 om,Bool.not_not];rfl) (dV 10 rfl (QD (cs:=[_,_,_,_,_,_]) rfl rfl Qbm YJ rfl) (dH 11 rfl (X9 rfl YJ) (λb12 _=>dBa ?_)))
  refine dSt 12 ?_ (hl:=(by simp only[Qe,List.length_set,List.length_cons,List.length_nil,List.length_map];omega))
  refine dTu [] ?_
  refine dNi ?_
  refine aU ?_
  refine Qq [9,11] Qx ?_
  refine dP 0 ?_
  refine dV 1 rfl (QJ _ _ 4 s.length rfl rfl Q1 ⟨_,_,rfl,rfl⟩ rfl om om) (dQ 2 [[],[]] rfl (Ql rfl Qfq rfl (λw1 h1=>by have h9:=QnL w1 (Yh (some ⟨b2,0,none⟩) c3 4 1) (s.length-4) (c3-4) (s.drop 4) (by rw[List.map_drop];exact(h1.vl_blk aPk).drop (by rw[List.length_map];omega) om) (by rw[List.length_drop]) om om (by have hq9:c3<=maxLen:=(by assumption);simp only[maxLen]at hq9;omega);rw[Qas,Nat.add_zero]at h9;exact h9)) (dV 3 rfl (Qr rfl rfl Yl Yw) ?_))
  try refine dWr ?_
  try refine dWr ?_
  refine dP 4 ?_
  refine dV 5 rfl (QJ _ _ 8 s.length rfl rfl Q1 ⟨_,_,rfl,rfl⟩ rfl om om) (dQ 6 [[],[]] rfl (Ql rfl Qfq rfl (λw1 h1=>by have h9:=QnL w1 (Yh (some ⟨b2,0,none⟩) c3 8 1) (s.length-8) (c3-8) (s.drop 8) (by rw[List.map_drop];exact(h1.vl_blk aPk).drop (by rw[List.length_map];omega) om) (by rw[List.length_drop]) om om (by have hq9:c3<=maxLen:=(by assumption);simp only[maxLen]at hq9;omega);rw[Qas,Nat.add_zero]at h9;exact h9)) (dV 7 rfl (Qr rfl rfl Yl Yw) ?_))
  try refine dWr ?_
  try refine dWr ?_
  refine dFa 8 ?_
  refine dSt 9 ?_ (hl:=(by simp only[Qe,List.length_set,List.length_cons,List.length_nil,List.length_map];omega))
  refine dTu [11] ?_
  refine dFa 10 ?_
  refine dSt 11 ?_ (hl:=(by simp only[Qe,List.length_set,List.length_cons,List.length_nil,List.length_map];omega))
  refine dTu [] ?_
  refine dNi ?_
  refine aU4 ?_
  refine o_p (QJ _ _ 12 s.length rfl rfl Q1 ⟨_,_,rfl,rfl⟩ rfl om om) rfl (oCh rfl (λw1 h1=>c152 w1 _ _ _) (λgc _=>aU2 ?_))
  refine Qho (G:=(Option Addr×Nat)×(Option Addr×Nat)) (Bs:=λg=>[.blk b12 50 6 [.int .i64 (Xd s).ow,.int .i64 (Xd s).gr,.bool (Xd s).pr,.bool (Xd s).he,.slice g.1.1 (Xd s).en.length g.1.2,.slice g.2.1 (Xd s).au.length g.2.2],.own (.slice g.1.1 (Xd s).en.length g.1.2) 102 4 (Xd s).en.length ((Xd s).en.flatMap Ace.vals),.own (.slice g.2.1 (Xd s).au.length g.2.2) 102 4 (Xd s).au.length ((Xd s).au.flatMap Ace.vals),.blk b7 3 1 [.int .i64 (at1 s 2)],.blk b2 5 c3 (s.map bv),.blk b1 50 6 [.int .i64 0,.int .i64 0,.bool false,.bool false,.slice none 0 0,.slice none 0 0],.blk gc.1 155 1 [.slice (Yh (some ⟨b2,0,none⟩) c3 12 1) (s.length-12) (c3-12)],.blk gc.2 3 1 [.int .i64 8]]) rfl rfl rfl QmB (λfid D l a9 w1 ob hob ha9 hw1=>?_) (λD x=>?_)
  ·skip
   refine(c193 w1 w [] (λ(k:Nat)(g:(Option Addr×Nat)×(Option Addr×Nat))=>.obj l ob::.obj D (.deferred (some []))::[.blk b12 50 6 [.int .i64 (Xd s).ow,.int .i64 (Xd s).gr,.bool (Xd s).pr,.bool (Xd s).he,.slice g.1.1 (enK s k).length g.1.2,.slice g.2.1 (auK s k).length g.2.2],.own (.slice g.1.1 (enK s k).length g.1.2) 102 4 (enK s k).length ((enK s k).flatMap Ace.vals),.own (.slice g.2.1 (auK s k).length g.2.2) 102 4 (auK s k).length ((auK s k).flatMap Ace.vals),.blk b7 3 1 [.int .i64 (at1 s 2)],.blk b2 5 c3 (s.map bv),.blk b1 50 6 [.int .i64 0,.int .i64 0,.bool false,.bool false,.slice none 0 0,.slice none 0 0],.blk gc.1 155 1 [.slice (Yh (some ⟨b2,0,none⟩) c3 12 1) (s.length-12) (c3-12)],.blk gc.2 3 1 [.int .i64 8]]) ((none,0),(none,0)) l gc.1 gc.2 ((at1 s 2).toNat+(at1 s 3).toNat) (Yh (some ⟨b2,0,none⟩) c3 12 1) (s.length-12) (c3-12) om om (by have hq9:c3<=maxLen:=(by assumption);simp only[maxLen]at hq9;omega) ?_ ?_ (λk g w2 hk h2=>?_)).mono λe w2 hx=>?_
   ·show HS w [] (_::_) w1;rw[Qe6,Qf7];exact((hw1.own_nil 102 4).own_nil 102 4).ent aEt
   ·exactλk g w2 h2=>⟨h2.rd_blk (i:=0) aPk rfl (by simp),h2.rd_blk (i:=0) aPk rfl (by simp)⟩
   rotate_left
   ·obtain⟨hx1,x,hx2⟩:=hx
    refine⟨hx1,x,?_⟩
    rw[<-Qb9,<-Qb2]
    exact hx2
   subst hob
   have hel:=Qco s k
   have hal:=Qcg s k
   rw[Qbt (b:=b2) (o:=0+12) (k:=8*k) (cap:=8*k+8) (Qbt rfl om) om,show 0+12+8*k=0+(12+8*k)from om]
   refine Qhy (fn:=Tryz.f116) (As1:=.obj D (.deferred (some []))::[.blk b12 50 6 [.int .i64 (Xd s).ow,.int .i64 (Xd s).gr,.bool (Xd s).pr,.bool (Xd s).he,.slice g.1.1 (enK s k).length g.1.2,.slice g.2.1 (auK s k).length g.2.2],.own (.slice g.1.1 (enK s k).length g.1.2) 102 4 (enK s k).length ((enK s k).flatMap Ace.vals),.own (.slice g.2.1 (auK s k).length g.2.2) 102 4 (auK s k).length ((auK s k).flatMap Ace.vals),.blk b7 3 1 [.int .i64 (at1 s 2)],.blk b2 5 c3 (s.map bv),.blk b1 50 6 [.int .i64 0,.int .i64 0,.bool false,.bool false,.slice none 0 0,.slice none 0 0],.blk gc.1 155 1 [.slice (Yh (some ⟨b2,0,none⟩) c3 12 1) (s.length-12) (c3-12)],.blk gc.2 3 1 [.int .i64 8]]) (L1:=[(9,.slice (some ⟨b2,0+(12+8*k),none⟩) 8 8),(8,.pointer (some ⟨b12,0,none⟩)),(5,.pointer (some ⟨b7,0,none⟩))]) h2 rfl (FR.round1 ha9 80 _ rfl) ?_ ?_
   ·skip
    refine aU3 ?_
    exact Qjf () aSx (λw h=>h.ent aEt)
   skip
   refine aU9 ?_
   refine sCd rfl (λh13=>?_) λh13=>?_
   ·have hke:k<(at1 s 2).toNat:=by have hq:=h13;omega
    have hen:=QfQ hke
    have hau:=QfX hke
    refine Qq [5,7] Qx ?_
    refine dFa 0 ?_
    refine dLd 1 [[],[]] ?_
    refine dP 2 ?_
    refine dQ 3 [[],[]] rfl (Ql rfl Qhv rfl (λw1 h1=>by have h9:=QoY w1 (some ⟨b2,0+(12+8*k),none⟩) 8 8 ((s.drop (12+8*k)).take 8) (by rw[List.map_take,List.map_drop];exact QeD (h1.vl_blk aPk) rfl (by rw[List.length_map];omega)) (by rw[List.length_take,List.length_drop];omega) om om om;rw[Qc6]at h9;exact h9)) (dH 4 rfl (Qd (cs:=[_,_,_,_]) rfl rfl YM XS rfl rfl rfl) (λb14 _=>dBa ?_))
    refine dH 5 rfl (Qy [_,_,_,_] rfl rfl rfl YM Tryz.underlying48 XS rfl aPk (Q5 aPk) rfl (av1 _) om (by simp only[maxLen];omega)) (λb15 _=>dTu [7] ?_)
    refine dFa 6 ?_
    refine dSt 7 ?_ (hl:=(by simp only[Qe,List.length_set,List.length_cons,List.length_nil,List.length_map];omega))
    refine dTu [] ?_
    refine dNi ?_
    refine aU ?_
    exact QaA rfl aPk (λw h=>⟨(b15,g.2),rfl,trivial,by dsimp only;rw[hen,hau,List.length_append,XG];exact h.ent aEt⟩)
   have hke:(at1 s 2).toNat<=k:=by have hq:=h13;omega
   have hen:=Qfh hke
   have hau:=QfH hke
   refine Qq [5,7] Qx ?_
   refine dFa 0 ?_
   refine dLd 1 [[],[]] ?_
   refine dP 2 ?_
   refine dQ 3 [[],[]] rfl (Ql rfl Qhv rfl (λw1 h1=>by have h9:=QoY w1 (some ⟨b2,0+(12+8*k),none⟩) 8 8 ((s.drop (12+8*k)).take 8) (by rw[List.map_take,List.map_drop];exact QeD (h1.vl_blk aPk) rfl (by rw[List.length_map];omega)) (by rw[List.length_take,List.length_drop];omega) om om om;rw[Qc6]at h9;exact h9)) (dH 4 rfl (Qd (cs:=[_,_,_,_]) rfl rfl YM XS rfl rfl rfl) (λb16 _=>dBa ?_))
   refine dH 5 rfl (Qy [_,_,_,_] rfl rfl rfl YM Tryz.underlying48 XS rfl aPk (Q5 aPk) rfl (av1 _) om (by simp only[maxLen];omega)) (λb17 _=>dTu [7] ?_)
   refine dFa 6 ?_
   refine dSt 7 ?_ (hl:=(by simp only[Qe,List.length_set,List.length_cons,List.length_nil,List.length_map];omega))
   refine dTu [] ?_
   refine dNi ?_
   refine aU ?_
   exact QaA rfl aPk (λw h=>⟨(g.1,b17),rfl,trivial,by dsimp only;rw[hen,hau,List.length_append,XG];exact h.ent aEt⟩)
  skip
  refine aU3 ?_
  refine Qg (L':=[(2,_),(3,_),(8,_)]) aSx (λ_ h=>h) ?_
  refine aU2 ?_
  refine oCq rfl (λw1 h1=>Qqk w1 (Xd s) x.1.1 x.1.2 x.2.1 x.2.2 (h1.rw_own av4 aPk rfl) (h1.rw_own av4 aPk rfl) (by rw[<-Qb9,Qco];omega) (by rw[<-Qb2,Qcg];omega)) (aU7 ?_)
  refine sCd rfl (λh18=>?_) λh18=>?_
  ·have hn9:¬(Yd (Xd s)).2=0:=h18
   obtain⟨hE9,hD9⟩:=Qhm hz9 hn9
   refine aU2 ?_
   refine o_p (QD (cs:=[_,_,_,_,_,_]) rfl rfl Qbm YJ rfl) rfl (aU4 ?_)
   exact Qg3 (rs:=[.cell 2 50,.tmp 3]) rfl aPk (.cell rfl ZA aPk rfl (.tmp rfl (.nil))) (λw' h'=>⟨((none,0),(none,0)),by rw[hE9,hD9];rfl,trivial,by rw[hD9];exact((h'.own_nil 102 4).own_nil 102 4).ent aEt⟩)
  have hn9:(Yd (Xd s)).2=0:=h18
  obtain⟨hE9,hD9⟩:=Qf6 hz9 hn9
  refine aU7 ?_
  exact Qg3 (rs:=[.cell 2 50,.tmp 3]) rfl aPk (.cell rfl ZA aPk rfl (.tmp rfl (.nil))) (λw' h'=>⟨x,by rw[hE9,hD9];rfl,trivial,by rw[hD9];exact h'.ent aEt⟩)
 intro hg19
 have hs20:=hg19;try simp only[dN]at hs20
 refine dOf 19 43 hg19 ?_
 refine dOf 20 43 hg19 ?_
 refine dOf 21 43 hg19 ?_
 refine dOf 22 43 hg19 ?_
 refine dV 23 rfl (QW rfl rfl hg19 rfl) (dQ 24 [] rfl (Ql rfl QaO rfl (λw1 h1=>QfM w1 _ _)) (dH 25 rfl (Qd (cs:=[_,_,_]) rfl rfl XI Yv rfl rfl rfl) (λb21 _=>dBa ?_)))
 refine dQ 26 [] rfl (Ql rfl QdS rfl (λw1 h1=>QkP h1 aPk (by rfl) (by rfl) (by decide))) (dP 27 ?_)
 refine dNi ?_
 refine aU2 ?_
 refine Qg (L':=[(2,_),(3,_),(4,_),(5,_),(7,_)]) aSx (λ_ h=>h) ?_
 refine aU4 ?_
 refine sCd rfl (λh22=>?_) λh22=>?_
 ·have hp9:=Qck (s:=s) (mx:=(if at1 s 3>at1 s 2 then at1 s 3 else at1 s 2)) (c:=decide ((s.length:Int)=12+(at1 s 2+at1 s 3)*8)) (b:=decide (at1 s 0=1)&&decide (at1 s 1<=3)) hl12 (by split<;>omega) rfl rfl
  rw[show decide (at1 s 0=1)=_ from hg19]at hp9
  have hz9:¬Zi s=0:=by rw[<-hp9];exact h22
  obtain⟨hE9,hD9⟩:=QaW hz9
  refine aU2 ?_
  refine o_p (QD (cs:=[_,_,_,_,_,_]) rfl rfl Qbm YJ rfl) rfl (aU4 ?_)
  exact Qf (rs:=[.cell 2 50,.tmp 3]) rfl (.cell rfl ZA aPk rfl (.tmp rfl (.nil))) (λw' h'=>⟨((none,0),(none,0)),by rw[hE9,hD9,<-hp9];rfl,trivial,by rw[hD9];exact((h'.own_nil 102 4).own_nil 102 4).ent aEt⟩)
 have hp9:=Qck (s:=s) (mx:=(if at1 s 3>at1 s 2 then at1 s 3 else at1 s 2)) (c:=decide ((s.length:Int)=12+(at1 s 2+at1 s 3)*8)) (b:=decide (at1 s 0=1)&&decide (at1 s 1<=3)) hl12 (by split<;>omega) rfl rfl
 rw[show decide (at1 s 0=1)=_ from hg19]at hp9
 have hz9:Zi s=0:=by rw[<-hp9];exact h22
 obtain⟨hs1,⟨hs2,hs3⟩,hs4,hs5,hs6⟩:=Qnm hz9
 have hraw:=@Xd
 refine aU2 ?_
 refine Qq [12] Qx ?_
 refine dP 0 ?_
 refine dV 1 rfl (Qa rfl rfl rfl Q1 (1) om om rfl) (dQ 2 [[]] rfl (Qn rfl rfl QbQ (λw h=>h.rd_blk (Mc:=[]) (b:=b2) (i:=1) aPk (YG (l:=s) (k:=1) om) (by simp))) (dP 3 ?_))
 refine dP 4 ?_
 refine Qs (show _=Value.bool (Xd s).pr from by rw[show Gx.bits .and .u8 ((s.getD 1 0).toNat:Int) 1=Gx.bits .and .u8 (at1 s 1) 1 from rfl,bit0 om,Bool.not_not];rfl) (dP 5 ?_)
 refine dV 6 rfl (Qa rfl rfl rfl Q1 (1) om om rfl) (dQ 7 [[]] rfl (Qn rfl rfl QbQ (λw h=>h.rd_blk (Mc:=[]) (b:=b2) (i:=1) aPk (YG (l:=s) (k:=1) om) (by simp))) (dP 8 ?_))
 refine dP 9 ?_
 refine Qs (show _=Value.bool (Xd s).he from by rw[show Gx.bits .and .u8 ((s.getD 1 0).toNat:Int) 2=Gx.bits .and .u8 (at1 s 1) 2 from rfl,bit1 om,Bool.not_not];rfl) (dV 10 rfl (QD (cs:=[_,_,_,_,_,_]) rfl rfl Qbm YJ rfl) (dH 11 rfl (X9 rfl YJ) (λb23 _=>dBa ?_)))
 refine dSt 12 ?_ (hl:=(by simp only[Qe,List.length_set,List.length_cons,List.length_nil,List.length_map];omega))
 refine dTu [] ?_
 refine dNi ?_
 refine aU ?_
 refine Qq [9,11] Qx ?_
 refine dP 0 ?_
 refine dV 1 rfl (QJ _ _ 4 s.length rfl rfl Q1 ⟨_,_,rfl,rfl⟩ rfl om om) (dQ 2 [[],[]] rfl (Ql rfl Qfq rfl (λw1 h1=>by have h9:=QnL w1 (Yh (some ⟨b2,0,none⟩) c3 4 1) (s.length-4) (c3-4) (s.drop 4) (by rw[List.map_drop];exact(h1.vl_blk aPk).drop (by rw[List.length_map];omega) om) (by rw[List.length_drop]) om om (by have hq9:c3<=maxLen:=(by assumption);simp only[maxLen]at hq9;omega);rw[Qas,Nat.add_zero]at h9;exact h9)) (dV 3 rfl (Qr rfl rfl Yl Yw) ?_))
 try refine dWr ?_
 try refine dWr ?_
 refine dP 4 ?_
 refine dV 5 rfl (QJ _ _ 8 s.length rfl rfl Q1 ⟨_,_,rfl,rfl⟩ rfl om om) (dQ 6 [[],[]] rfl (Ql rfl Qfq rfl (λw1 h1=>by have h9:=QnL w1 (Yh (some ⟨b2,0,none⟩) c3 8 1) (s.length-8) (c3-8) (s.drop 8) (by rw[List.map_drop];exact(h1.vl_blk aPk).drop (by rw[List.length_map];omega) om) (by rw[List.length_drop]) om om (by have hq9:c3<=maxLen:=(by assumption);simp only[maxLen]at hq9;omega);rw[Qas,Nat.add_zero]at h9;exact h9)) (dV 7 rfl (Qr rfl rfl Yl Yw) ?_))
 try refine dWr ?_
 try refine dWr ?_
 refine dFa 8 ?_
 refine dSt 9 ?_ (hl:=(by simp only[Qe,List.length_set,List.length_cons,List.length_nil,List.length_map];omega))
 refine dTu [11] ?_
 refine dFa 10 ?_
 refine dSt 11 ?_ (hl:=(by simp only[Qe,List.length_set,List.length_cons,List.length_nil,List.length_map];omega))
 refine dTu [] ?_
 refine dNi ?_
 refine aU4 ?_
 refine o_p (QJ _ _ 12 s.length rfl rfl Q1 ⟨_,_,rfl,rfl⟩ rfl om om) rfl (oCh rfl (λw1 h1=>c152 w1 _ _ _) (λgc _=>aU2 ?_))
 refine Qho (G:=(Option Addr×Nat)×(Option Addr×Nat)) (Bs:=λg=>[.blk b23 50 6 [.int .i64 (Xd s).ow,.int .i64 (Xd s).gr,.bool (Xd s).pr,.bool (Xd s).he,.slice g.1.1 (Xd s).en.length g.1.2,.slice g.2.1 (Xd s).au.length g.2.2],.own (.slice g.1.1 (Xd s).en.length g.1.2) 102 4 (Xd s).en.length ((Xd s).en.flatMap Ace.vals),.own (.slice g.2.1 (Xd s).au.length g.2.2) 102 4 (Xd s).au.length ((Xd s).au.flatMap Ace.vals),.blk b7 3 1 [.int .i64 (at1 s 2)],.blk b2 5 c3 (s.map bv),.blk b1 50 6 [.int .i64 0,.int .i64 0,.bool false,.bool false,.slice none 0 0,.slice none 0 0],.blk gc.1 155 1 [.slice (Yh (some ⟨b2,0,none⟩) c3 12 1) (s.length-12) (c3-12)],.blk gc.2 3 1 [.int .i64 8]]) rfl rfl rfl QmB (λfid D l a9 w1 ob hob ha9 hw1=>?_) (λD x=>?_)
 ·skip
  refine(c193 w1 w [] (λ(k:Nat)(g:(Option Addr×Nat)×(Option Addr×Nat))=>.obj l ob::.obj D (.deferred (some []))::[.blk b23 50 6 [.int .i64 (Xd s).ow,.int .i64 (Xd s).gr,.bool (Xd s).pr,.bool (Xd s).he,.slice g.1.1 (enK s k).length g.1.2,.slice g.2.1 (auK s k).length g.2.2],.own (.slice g.1.1 (enK s k).length g.1.2) 102 4 (enK s k).length ((enK s k).flatMap Ace.vals),.own (.slice g.2.1 (auK s k).length g.2.2) 102 4 (auK s k).length ((auK s k).flatMap Ace.vals),.blk b7 3 1 [.int .i64 (at1 s 2)],.blk b2 5 c3 (s.map bv),.blk b1 50 6 [.int .i64 0,.int .i64 0,.bool false,.bool false,.slice none 0 0,.slice none 0 0],.blk gc.1 155 1 [.slice (Yh (some ⟨b2,0,none⟩) c3 12 1) (s.length-12) (c3-12)],.blk gc.2 3 1 [.int .i64 8]]) ((none,0),(none,0)) l gc.1 gc.2 ((at1 s 2).toNat+(at1 s 3).toNat) (Yh (some ⟨b2,0,none⟩) c3 12 1) (s.length-12) (c3-12) om om (by have hq9:c3<=maxLen:=(by assumption);simp only[maxLen]at hq9;omega) ?_ ?_ (λk g w2 hk h2=>?_)).mono λe w2 hx=>?_
  ·show HS w [] (_::_) w1;rw[Qe6,Qf7];exact((hw1.own_nil 102 4).own_nil 102 4).ent aEt
  ·exactλk g w2 h2=>⟨h2.rd_blk (i:=0) aPk rfl (by simp),h2.rd_blk (i:=0) aPk rfl (by simp)⟩
  rotate_left
  ·obtain⟨hx1,x,hx2⟩:=hx
   refine⟨hx1,x,?_⟩
   rw[<-Qb9,<-Qb2]
   exact hx2
  subst hob
  have hel:=Qco s k
  have hal:=Qcg s k
  rw[Qbt (b:=b2) (o:=0+12) (k:=8*k) (cap:=8*k+8) (Qbt rfl om) om,show 0+12+8*k=0+(12+8*k)from om]
  refine Qhy (fn:=Tryz.f116) (As1:=.obj D (.deferred (some []))::[.blk b23 50 6 [.int .i64 (Xd s).ow,.int .i64 (Xd s).gr,.bool (Xd s).pr,.bool (Xd s).he,.slice g.1.1 (enK s k).length g.1.2,.slice g.2.1 (auK s k).length g.2.2],.own (.slice g.1.1 (enK s k).length g.1.2) 102 4 (enK s k).length ((enK s k).flatMap Ace.vals),.own (.slice g.2.1 (auK s k).length g.2.2) 102 4 (auK s k).length ((auK s k).flatMap Ace.vals),.blk b7 3 1 [.int .i64 (at1 s 2)],.blk b2 5 c3 (s.map bv),.blk b1 50 6 [.int .i64 0,.int .i64 0,.bool false,.bool false,.slice none 0 0,.slice none 0 0],.blk gc.1 155 1 [.slice (Yh (some ⟨b2,0,none⟩) c3 12 1) (s.length-12) (c3-12)],.blk gc.2 3 1 [.int .i64 8]]) (L1:=[(9,.slice (some ⟨b2,0+(12+8*k),none⟩) 8 8),(8,.pointer (some ⟨b23,0,none⟩)),(5,.pointer (some ⟨b7,0,none⟩))]) h2 rfl (FR.round1 ha9 80 _ rfl) ?_ ?_
  ·skip
   refine aU3 ?_
   exact Qjf () aSx (λw h=>h.ent aEt)
  skip
  refine aU9 ?_
  refine sCd rfl (λh24=>?_) λh24=>?_
  ·have hke:k<(at1 s 2).toNat:=by have hq:=h24;omega
   have hen:=QfQ hke
   have hau:=QfX hke
   refine Qq [5,7] Qx ?_
   refine dFa 0 ?_
   refine dLd 1 [[],[]] ?_
   refine dP 2 ?_
   refine dQ 3 [[],[]] rfl (Ql rfl Qhv rfl (λw1 h1=>by have h9:=QoY w1 (some ⟨b2,0+(12+8*k),none⟩) 8 8 ((s.drop (12+8*k)).take 8) (by rw[List.map_take,List.map_drop];exact QeD (h1.vl_blk aPk) rfl (by rw[List.length_map];omega)) (by rw[List.length_take,List.length_drop];omega) om om om;rw[Qc6]at h9;exact h9)) (dH 4 rfl (Qd (cs:=[_,_,_,_]) rfl rfl YM XS rfl rfl rfl) (λb25 _=>dBa ?_))
   refine dH 5 rfl (Qy [_,_,_,_] rfl rfl rfl YM Tryz.underlying48 XS rfl aPk (Q5 aPk) rfl (av1 _) om (by simp only[maxLen];omega)) (λb26 _=>dTu [7] ?_)
   refine dFa 6 ?_
   refine dSt 7 ?_ (hl:=(by simp only[Qe,List.length_set,List.length_cons,List.length_nil,List.length_map];omega))
   refine dTu [] ?_
   refine dNi ?_
   refine aU ?_
   exact QaA rfl aPk (λw h=>⟨(b26,g.2),rfl,trivial,by dsimp only;rw[hen,hau,List.length_append,XG];exact h.ent aEt⟩)
  have hke:(at1 s 2).toNat<=k:=by have hq:=h24;omega
  have hen:=Qfh hke
  have hau:=QfH hke
  refine Qq [5,7] Qx ?_
  refine dFa 0 ?_
  refine dLd 1 [[],[]] ?_
  refine dP 2 ?_
  refine dQ 3 [[],[]] rfl (Ql rfl Qhv rfl (λw1 h1=>by have h9:=QoY w1 (some ⟨b2,0+(12+8*k),none⟩) 8 8 ((s.drop (12+8*k)).take 8) (by rw[List.map_take,List.map_drop];exact QeD (h1.vl_blk aPk) rfl (by rw[List.length_map];omega)) (by rw[List.length_take,List.length_drop];omega) om om om;rw[Qc6]at h9;exact h9)) (dH 4 rfl (Qd (cs:=[_,_,_,_]) rfl rfl YM XS rfl rfl rfl) (λb27 _=>dBa ?_))
  refine dH 5 rfl (Qy [_,_,_,_] rfl rfl rfl YM Tryz.underlying48 XS rfl aPk (Q5 aPk) rfl (av1 _) om (by simp only[maxLen];omega)) (λb28 _=>dTu [7] ?_)
  refine dFa 6 ?_
  refine dSt 7 ?_ (hl:=(by simp only[Qe,List.length_set,List.length_cons,List.length_nil,List.length_map];omega))
  refine dTu [] ?_
  refine dNi ?_
  refine aU ?_
  exact QaA rfl aPk (λw h=>⟨(g.1,b28),rfl,trivial,by dsimp only;rw[hen,hau,List.length_append,XG];exact h.ent aEt⟩)
 skip
 refine aU3 ?_
 refine Qg (L':=[(2,_),(3,_),(8,_)]) aSx (λ_ h=>h) ?_
 refine aU2 ?_
 refine oCq rfl (λw1 h1=>Qqk w1 (Xd s) x.1.1 x.1.2 x.2.1 x.2.2 (h1.rw_own av4 aPk rfl) (h1.rw_own av4 aPk rfl) (by rw[<-Qb9,Qco];omega) (by rw[<-Qb2,Qcg];omega)) (aU7 ?_)
 refine sCd rfl (λh29=>?_) λh29=>?_
 ·have hn9:¬(Yd (Xd s)).2=0:=h29
  obtain⟨hE9,hD9⟩:=Qhm hz9 hn9
  refine aU2 ?_
  refine o_p (QD (cs:=[_,_,_,_,_,_]) rfl rfl Qbm YJ rfl) rfl (aU4 ?_)
  exact Qg3 (rs:=[.cell 2 50,.tmp 3]) rfl aPk (.cell rfl ZA aPk rfl (.tmp rfl (.nil))) (λw' h'=>⟨((none,0),(none,0)),by rw[hE9,hD9];rfl,trivial,by rw[hD9];exact((h'.own_nil 102 4).own_nil 102 4).ent aEt⟩)
 have hn9:(Yd (Xd s)).2=0:=h29
 obtain⟨hE9,hD9⟩:=Qf6 hz9 hn9
 refine aU7 ?_
 exact Qg3 (rs:=[.cell 2 50,.tmp 3]) rfl aPk (.cell rfl ZA aPk rfl (.tmp rfl (.nil))) (λw' h'=>⟨x,by rw[hE9,hD9];rfl,trivial,by rw[hD9];exact h'.ent aEt⟩)
instance:TFn Tryz.prog 124:=⟨by kernel_rfl⟩
set_option maxHeartbeats 4000000 in
theorem c71(w:World)(s:List UInt8)(hm:s.length<=1000000):CE 71 #[.string (bs s)] w [] (λg:(Option Addr×Nat)×(Option Addr×Nat)=>.tuple #[.agg #[.int .i64 (Y0 s).ow,.int .i64 (Y0 s).gr,.bool (Y0 s).pr,.bool (Y0 s).he,.slice g.1.1 (Y0 s).en.length g.1.2,.slice g.2.1 (Y0 s).au.length g.2.2],.int .i64 (ZG s)]) (λg=>True) λg=>[.own (.slice g.1.1 (Y0 s).en.length g.1.2) 102 4 (Y0 s).en.length ((Y0 s).en.flatMap Ace.vals),.own (.slice g.2.1 (Y0 s).au.length g.2.2) 102 4 (Y0 s).au.length ((Y0 s).au.flatMap Ace.vals)]:=by
 have hb0:=Zy s 0
 have hb1:=Zy s 1
 have hb2:=Zy s 2
 have hb3:=Zy s 3
 have hx4:=QaY s 4
 have hx8:=QaY s 8
 refine eN1 Tryz.func71 Tryz.ntmps71 ?_
 refine aU2 ?_
 refine oAl (λb1 _=>?_) YJ
 refine aU4 ?_
 refine o_p (QD (cs:=[_,_,_,_,_,_]) rfl rfl Qbm YJ rfl) rfl (oAl (λb2 _=>?_) YJ)
 refine aU6 ?_
 refine o_p (QN rfl rfl Tryz.underlying9) rfl (aU2 ?_)
 refine sCd rfl (λh3=>?_) λh3=>?_
 ·have hl12:s.length<12:=by omega
  have hz9:Zi s=10:=by unfold Zi;rw[if_pos hl12]
  obtain⟨hE9,hD9⟩:=QaW (s:=s) (by rw[hz9];decide)
  refine aU6 ?_
  exact Qf (rs:=[.cell 2 50,.tmp 3]) rfl (.cell rfl ZA aPk rfl (.tmp rfl (.nil))) (λw' h'=>⟨((none,0),(none,0)),by rw[hE9,hD9,hz9];rfl,trivial,by rw[hD9];exact((h'.own_nil 102 4).own_nil 102 4).ent aEt⟩)
 have hl12:¬s.length<12:=om
 refine aU4 ?_
 refine oCq rfl (λw1 h1=>by have h9:=QaP w1 s 2 1 om om om;rw[Qd1]at h9;exact h9) (aU ?_)
 refine oCq rfl (λw1 h1=>by have h9:=QaP w1 s 3 1 om om om;rw[Qd1]at h9;exact h9) (aU9 ?_)
 refine oOr 3 24 27 rfl
  (λhg4 _=>by
   refine aU4 ?_
   exact oJf 3 27)
  (λhg6 _=>by
   refine aU2 ?_
   exact oJt 3 27) ?_
 refine aU ?_
 refine sCd rfl (λh8=>?_) λh8=>?_
 ·have h16:¬(at1 s 2<=16/\at1 s 3<=16):=by have hq:=h8;omega
  have hz9:Zi s=8:=by unfold Zi;rw[if_neg hl12,if_neg h16]
  obtain⟨hE9,hD9⟩:=QaW (s:=s) (by rw[hz9];decide)
  refine aU6 ?_
  exact Qf (rs:=[.cell 2 50,.tmp 3]) rfl (.cell rfl ZA aPk rfl (.tmp rfl (.nil))) (λw' h'=>⟨((none,0),(none,0)),by rw[hE9,hD9,hz9];rfl,trivial,by rw[hD9];exact((h'.own_nil 102 4).own_nil 102 4).ent aEt⟩)
 have h16:at1 s 2<=16/\at1 s 3<=16:=by have hq:=h8;omega
 refine aU5 ?_
 refine o_p (QN rfl rfl Tryz.underlying9) rfl (aT3 ?_)
 refine aT ?_
 refine aT ?_
 refine aU2 ?_
 refine sCd rfl (λh9=>?_) λh9=>?_
 ·have hsl:¬(s.length:Int)=12+(at1 s 2+at1 s 3)*8:=by have hq:=h9;omega
  have hz9:Zi s=10:=by unfold Zi;rw[if_neg hl12,if_pos h16,if_neg hsl]
  obtain⟨hE9,hD9⟩:=QaW (s:=s) (by rw[hz9];decide)
  refine aU6 ?_
  exact Qf (rs:=[.cell 2 50,.tmp 3]) rfl (.cell rfl ZA aPk rfl (.tmp rfl (.nil))) (λw' h'=>⟨((none,0),(none,0)),by rw[hE9,hD9,hz9];rfl,trivial,by rw[hD9];exact((h'.own_nil 102 4).own_nil 102 4).ent aEt⟩)
 have hsl:(s.length:Int)=12+(at1 s 2+at1 s 3)*8:=by have hq:=h9;omega
 refine aU4 ?_
 refine oCq rfl (λw1 h1=>by have h9:=QaP w1 s 1 1 om om om;rw[Qd1]at h9;exact h9) (aU6 ?_)
 refine oCq rfl (λw1 h1=>by have h9:=QaP w1 s 0 1 om om om;rw[Qd1]at h9;exact h9) (aU2 ?_)
 refine oOr 3 43 46 rfl
  (λhg10 _=>by
   refine aU4 ?_
   exact oJf 3 46)
  (λhg12 _=>by
   refine aU2 ?_
   exact oJt 3 46) ?_
 refine aU ?_
 refine sCd rfl (λh14=>?_) λh14=>?_
 ·have hfm:¬(at1 s 0=1/\at1 s 1<=3):=by have hq:=h14;omega
  have hz9:Zi s=3:=by unfold Zi;rw[if_neg hl12,if_pos h16,if_pos hsl,if_neg hfm]
  obtain⟨hE9,hD9⟩:=QaW (s:=s) (by rw[hz9];decide)
  refine aU ?_
  refine Qg (L':=[(0,_),(2,_),(3,_),(4,_),(5,_),(6,_),(7,_)]) aSx (λ_ h=>h) ?_
  refine aU5 ?_
  exact Qf (rs:=[.cell 2 50,.tmp 3]) rfl (.cell rfl ZA aPk rfl (.tmp rfl (.nil))) (λw' h'=>⟨((none,0),(none,0)),by rw[hE9,hD9,hz9];rfl,trivial,by rw[hD9];exact((h'.own_nil 102 4).own_nil 102 4).ent aEt⟩)
 have hfm:at1 s 0=1/\at1 s 1<=3:=by have hq:=h14;omega
 have hz9:Zi s=0:=by unfold Zi;rw[if_neg hl12,if_pos h16,if_pos hsl,if_pos hfm]
 refine aU2 ?_
 refine Qg (L':=[(0,_),(2,_),(3,_),(4,_),(5,_),(6,_),(7,_)]) aSx (λ_ h=>h) ?_
 refine aU2 ?_
 refine oCq rfl (λw1 h1=>by have h9:=QaP w1 s 4 4 om om om;rw[Zv]at h9;exact h9) (aU ?_)
 refine oCq rfl (λw1 h1=>by have h9:=QaP w1 s 8 4 om om om;rw[Zv]at h9;exact h9) (aU ?_)
 refine o_p (Qbr rfl rfl rfl om om) rfl (aU ?_)
 refine Qm (show _=Value.bool (Xd s).pr from rfl) (aU ?_)
 refine o_p (Y6 rfl rfl rfl om om om) rfl (aU ?_)
 refine Qm (show _=Value.bool (Xd s).he from by show Value.bool (decide (at1 s 1/2=1))=Value.bool (decide (at1 s 1/2%2=1));congr 1;exact decide_eq_decide.2 om) (o_p (QD (cs:=[_,_,_,_,_,_]) rfl rfl Qbm YJ rfl) rfl (oAl (λb15 _=>?_) YJ))
 refine aU8 ?_
 refine Qg (L':=[(0,_),(2,_),(3,_),(4,_),(5,_),(6,_),(8,_),(9,_)]) aSx (λ_ h=>h) ?_
 refine Qt (α:=Nat×(Option Addr×Nat)×(Option Addr×Nat)) [9,10,11,59,60,61,62,63,64,65,66,67,68,69,70,71,72,73,74,75,76,77,78,79,80,81,82,83,84,85,86,87,88,89,90,91,92,93,94,95,96,97,98,99] (λy=>[(9,.int .i64 (y.1:Int))]) (λy=>HS w [] [.blk b15 50 6 [.int .i64 (Xd s).ow,.int .i64 (Xd s).gr,.bool (Xd s).pr,.bool (Xd s).he,.slice y.2.1.1 (enK s y.1).length y.2.1.2,.slice y.2.2.1 (auK s y.1).length y.2.2.2],.own (.slice y.2.1.1 (enK s y.1).length y.2.1.2) 102 4 (enK s y.1).length ((enK s y.1).flatMap Ace.vals),.own (.slice y.2.2.1 (auK s y.1).length y.2.2.2) 102 4 (auK s y.1).length ((auK s y.1).flatMap Ace.vals),.blk b2 50 6 [.int .i64 0,.int .i64 0,.bool false,.bool false,.slice none 0 0,.slice none 0 0],.blk b1 50 6 [.int .i64 0,.int .i64 0,.bool false,.bool false,.slice none 0 0,.slice none 0 0]]) (λy=>y.1<=((at1 s 2).toNat+(at1 s 3).toNat)) (λy=>((at1 s 2).toNat+(at1 s 3).toNat)-y.1) (0,(none,0),(none,0)) (Nat.zero_le _) aSx (λw h=>by dsimp only;rw[Qe6,Qf7];exact((h.own_nil 102 4).own_nil 102 4).ent aEt) (λ⟨k,ga,gb9⟩hk1=>?_)
 dsimp only
 simp only[]at hk1
 refine aT7 ?_
 refine aU2 ?_
 refine sCd rfl (λh16=>?_) λh16=>?_
 ·have hk:k<((at1 s 2).toNat+(at1 s 3).toNat):=by omega
  have hel:=Qco s k
  have hal:=Qcg s k
  refine aT7 ?_
  refine aT ?_
  refine Qm (show _=Value.int .i64 ((12+8*k:Nat):Int)from by congr 1) (aU6 ?_)
  refine oCq rfl (λw1 h1=>by have h9:=QaP w1 s (12+8*k) 1 om om om;rw[Qd1]at h9;exact h9) (aT3 ?_)
  refine Qm (show _=Value.int .i64 ((12+8*k+1:Nat):Int)from by congr 1) (oCq rfl (λw1 h1=>by have h9:=QaP w1 s (12+8*k+1) 1 om om om;rw[Qd1]at h9;exact h9) (aT3 ?_))
  refine Qm (show _=Value.int .i64 ((12+8*k+2:Nat):Int)from by congr 1) (oCq rfl (λw1 h1=>by have h9:=QaP w1 s (12+8*k+2) 2 om om om;rw[Qqm]at h9;exact h9) (aT3 ?_))
  refine Qm (show _=Value.int .i64 ((12+8*k+4:Nat):Int)from by congr 1) (oCq rfl (λw1 h1=>by have h9:=QaP w1 s (12+8*k+4) 4 om om om;rw[Zv]at h9;exact h9) (o_p (QD (cs:=[_,_,_,_]) rfl rfl QhB XS rfl) rfl (oAl (λb17 _=>?_) XS)))
  refine aU3 ?_
  refine Qg (L':=[(0,_),(2,_),(3,_),(4,_),(5,_),(6,_),(8,_),(9,_),(11,_)]) aSx (λ_ h=>h) ?_
  refine aU5 ?_
  refine sCd rfl (λh18=>?_) λh18=>?_
  ·have hke:k<(at1 s 2).toNat:=by have hq:=h18;omega
   have hen:=QfQ hke
   have hau:=QfX hke
   refine aU4 ?_
   refine o_h (Qd (cs:=[_,_,_,_]) rfl rfl YM XS rfl rfl rfl) rfl (λb19 _=>o_h (Qy [_,_,_,_] rfl rfl rfl YM Tryz.underlying48 XS rfl aPk (Q5 aPk) rfl (av1 (Z0 s (12+8*k))) om (by simp only[maxLen];omega)) rfl (λb20 _=>aT7 ?_))
   refine aU2 ?_
   exact QR (k+1,b20,gb9) (by(try simp only[]);omega) (by(try simp only[]);omega) aSx (λw h=>by dsimp only;rw[hen,hau,List.length_append,XG];exact h.ent aEt)
  have hke:(at1 s 2).toNat<=k:=by have hq:=h18;omega
  have hen:=Qfh hke
  have hau:=QfH hke
  refine aU4 ?_
  refine o_h (Qd (cs:=[_,_,_,_]) rfl rfl YM XS rfl rfl rfl) rfl (λb21 _=>o_h (Qy [_,_,_,_] rfl rfl rfl YM Tryz.underlying48 XS rfl aPk (Q5 aPk) rfl (av1 (Z0 s (12+8*k))) om (by simp only[maxLen];omega)) rfl (λb22 _=>aT7 ?_))
  refine aU2 ?_
  exact QR (k+1,ga,b22) (by(try simp only[]);omega) (by(try simp only[]);omega) aSx (λw h=>by dsimp only;rw[hen,hau,List.length_append,XG];exact h.ent aEt)
 obtain rfl:k=((at1 s 2).toNat+(at1 s 3).toNat):=om
 rw[Qb9,Qb2]
 refine Qi rfl ?_
 refine aU4 ?_
 refine oCq rfl (λw1 h1=>c124 w1 (Xd s) ga.1 ga.2 gb9.1 gb9.2 (h1.rw_own av4 aPk rfl) (h1.rw_own av4 aPk rfl) (by rw[<-Qb9,Qco];omega) (by rw[<-Qb2,Qcg];omega)) (aU7 ?_)
 refine sCd rfl (λh23=>?_) λh23=>?_
 ·have hn9:¬(Yd (Xd s)).2=0:=h23
  obtain⟨hE9,hD9⟩:=Qhm hz9 hn9
  refine aU7 ?_
  exact Qf (rs:=[.cell 2 50,.tmp 3]) rfl (.cell rfl ZA aPk rfl (.tmp rfl (.nil))) (λw' h'=>⟨((none,0),(none,0)),by rw[hE9,hD9];rfl,trivial,by rw[hD9];exact((h'.own_nil 102 4).own_nil 102 4).ent aEt⟩)
 have hn9:(Yd (Xd s)).2=0:=h23
 obtain⟨hE9,hD9⟩:=Qf6 hz9 hn9
 refine aU7 ?_
 exact Qf (rs:=[.cell 2 50,.tmp 3]) rfl (.cell rfl ZA aPk rfl (.tmp rfl (.nil))) (λw' h'=>⟨(ga,gb9),by rw[hE9,hD9];rfl,trivial,by rw[hD9];exact h'.ent aEt⟩)
instance:TFn Tryz.prog 177:=⟨by kernel_rfl⟩
instance:TFn Tryz.prog 126:=⟨by kernel_rfl⟩
instance:TFd Tryz.prog 61 1 1 9:=⟨by kernel_rfl⟩
instance:TFn Tryz.prog 92:=⟨by kernel_rfl⟩
instance:TFd Tryz.prog 24 1 1 22:=⟨by kernel_rfl⟩
theorem Qif:tsz Tryz.prog 22=some (1,false):=by kernel_rfl
instance:TSz Tryz.prog 22 1 false:=⟨Qif⟩
instance:TFn Tryz.prog 74:=⟨by kernel_rfl⟩
theorem Qon{m:Int}(h:0<=m/\m<=1000000000000):Value.int .i64 (IntKind.i64.wrap ((-m).tdiv 16))=.int .i64 (-(m/16)):=by
  rw[Qod h.1];exact Qi2 om om
theorem c92(w:World)(m:Int)(hm:0<=m/\m<=1000000000000):CR 92 #[.int .i64 m] w (.int .i64 (upT m)):=by
 refine eN1 Tryz.func92 Tryz.ntmps92 ?_
 refine aT8 ?_
 refine aT ?_
 refine o_p (Y6 rfl rfl rfl om om om) rfl (aT ?_)
 refine aU2 ?_
 exact rV (h:=by unfold upT;rw[show m+16-1=m+15 by omega];rfl)
theorem c177(w:World)(m:Int)(hm:0<=m/\m<=1000000000000):CR 177 #[.int .i64 (-m),.int .i64 16] w (.int .i64 (-((m+15)/16))):=by
 refine eN2 Tryz.func177 Tryz.ntmps177 ?_
 refine aU8 ?_
 refine o_p (Qpu rfl rfl rfl (by decide)) rfl (Qm (Qon hm) (aU7 ?_))
 refine o_p (Qpp rfl rfl rfl (by decide)) rfl (Qm (show _=Value.int .i64 (-(m%16))from by rw[Qov hm.1]) (aU2 ?_))
 refine sCd rfl (λh1=>?_) λh1=>?_
 ·refine aT3 ?_
  refine aU7 ?_
  exact rV (h:=by simp only[QV];congr 2;omega)
 refine aU6 ?_
 exact rV (h:=by simp only[QV];congr 2;omega)
theorem c126(w:World)(m:Int)(hm:0<=m/\m<=1000000000000):CR 126 #[.int .i64 m,.int .i64 16] w (.int .i64 ((m+15)/16)):=by
 refine eN2 Tryz.func126 Tryz.ntmps126 ?_
 refine aT8 ?_
 refine Qm (show _=Value.int .i64 (-m)from by rw[Int.zero_sub]) (aU ?_)
 refine oCq rfl (λw1 h1=>c177 w1 m hm) (aT ?_)
 refine Qm (show _=Value.int .i64 ((m+15)/16)from by congr 1;omega) (aU2 ?_)
 exact rV
theorem c74(w:World)(m:Int)(hm:0<=m/\m<=1000000000000):CR 74 #[.int .i64 m] w (.int .i64 (upT m)):=by
 refine eN1 Tryz.func74 Tryz.ntmps74 ?_
 refine aU7 ?_
 refine oCq rfl (λw1 h1=>c126 w1 m hm) (aT ?_)
 refine aU2 ?_
 exact rV
theorem c52(w:World)(a:Option Addr)(cap:Nat)(l:List SItm)(hs:Rw SItm.vals 2 w [] a l)(hm:l.length<=100000)(hb:∀x∈l,x.by_.length<=100000):CE 52 #[.slice a l.length cap] w [] (λg:Option Addr×Nat=>.tuple #[.slice g.1 l.length g.2,.int .i64 (QO l).2]) (λg=>True) λg=>[.own (.slice g.1 l.length g.2) 3 1 l.length ((QO l).1.map nv)]:=by
 refine eN1 Tryz.func52 Tryz.ntmps52 ?_
 refine aU21 ?_
 refine Qt (α:=Nat×Option Addr×Nat) [4,5,7,10,11,12,13,14,15,16,17,18,19,20,21,22,23,24,25] (λy=>[(10,.int .i64 (y.1:Int)),(4,.int .i64 (QO (l.take y.1)).2),(5,.slice y.2.1 (QO (l.take y.1)).1.length y.2.2)]) (λy=>HS w [] [.own (.slice y.2.1 (QO (l.take y.1)).1.length y.2.2) 3 1 (QO (l.take y.1)).1.length ((QO (l.take y.1)).1.map nv)]) (λy=>y.1<=l.length) (λy=>l.length-y.1) (0,none,0) (Nat.zero_le _) aSx (λw h=>(h.own_nil 3 1).ent aEt) (λ⟨k,ga,gc⟩hk1=>?_)
 dsimp only
 simp only[]at hk1
 refine aU5 ?_
 refine sCd rfl (λh1=>?_) λh1=>?_
 ·have hk:k<l.length:=by omega
  have hst:=ZT hk
  have hpl:=Qdo k l om
  have hpb:=Qa3 hb k om
  have hb9:(nth l k).by_.length<=100000:=hb _ (XH hk)
  have hpu:0<=upT (16+((nth l k).by_.length:Int))/\upT (16+((nth l k).by_.length:Int))<=100032:=by unfold upT;omega
  refine aU5 ?_
  refine o_p (Qa rfl rfl rfl X6 (k) om om (Rw.some hs om)) rfl (o_q (Qu _ rfl rfl Qae rfl (Rw.rd hs om)) rfl (oAl (λb2 _=>?_) QaC))
  refine aU6 ?_
  refine o_h (Qd (cs:=[_]) rfl rfl QB Yo rfl rfl rfl) rfl (λb3 _=>o_h (Qy _ rfl rfl rfl QB Tryz.underlying52 Yo rfl aPk (Q5 aPk) rfl (by intro u hu;simp only[List.mem_cons,List.mem_nil_iff,or_false]at hu;subst hu;rfl) om (by simp only[maxLen];omega)) rfl (λb4 _=>aU6 ?_))
  refine o_p (QN rfl rfl Tryz.underlying9) rfl (aT ?_)
  refine oCq rfl (λw1 h1=>c92 w1 _ om) (aT ?_)
  refine aT5 ?_
  refine aU2 ?_
  exact QR (k+1,b4.1,b4.2) (by(try simp only[]);omega) (by(try simp only[]);omega) (by dsimp only;rw[hst,List.length_append];exact aSx) (λw h=>by dsimp only;rw[hst,List.length_append,List.map_append];exact h.ent aEt)
 obtain rfl:k=l.length:=om
 rw[List.take_length]
 refine Qi rfl ?_
 refine aU7 ?_
 exact Qf (rs:=[.tmp 2,.tmp 3]) rfl (.tmp rfl (.tmp rfl (.nil))) (λw' h'=>⟨(ga,gc),by rw[Yu];rfl,trivial,by have h2:=h';rw[Yu]at h2;exact h2.ent aEt⟩)
theorem c42(w:World)(nx:Int)(a:Option Addr)(cap:Nat)(l:List SItm)(hs:Rw SItm.vals 2 w [] a l)(hm:l.length<=100000)(hb:∀x∈l,x.by_.length<=100000):CE 42 #[.agg #[.int .i64 nx,.slice a l.length cap]] w [] (λg:Option Addr×Nat=>.tuple #[.slice g.1 l.length g.2,.int .i64 (QO l).2]) (λg=>True) λg=>[.own (.slice g.1 l.length g.2) 3 1 l.length ((QO l).1.map nv)]:=by
 refine eN1 Tryz.func42 Tryz.ntmps42 ?_
 refine aU2 ?_
 refine oBx λb1 _=>?_
 refine aU17 ?_
 refine Qt (α:=Nat×Option Addr×Nat) [4,5,6,7,8,9,10,11,12,13,14,15,16,17,18,19,20,21,22,23,24,25,26,27,28] (λy=>[(6,.int .i64 (y.1:Int)),(4,.int .i64 (QO (l.take y.1)).2),(5,.slice y.2.1 (QO (l.take y.1)).1.length y.2.2)]) (λy=>HS w [] [.own (.slice y.2.1 (QO (l.take y.1)).1.length y.2.2) 3 1 (QO (l.take y.1)).1.length ((QO (l.take y.1)).1.map nv),.blk b1 24 2 [.int .i64 nx,.slice a l.length cap]]) (λy=>y.1<=l.length) (λy=>l.length-y.1) (0,none,0) (Nat.zero_le _) aSx (λw h=>(h.own_nil 3 1).ent aEt) (λ⟨k,ga,gc⟩hk1=>?_)
 dsimp only
 simp only[]at hk1
 refine aU9 ?_
 refine sCd rfl (λh2=>?_) λh2=>?_
 ·have hk:k<l.length:=by omega
  have hst:=ZT hk
  have hpl:=Qdo k l om
  have hpb:=Qa3 hb k om
  have hb9:(nth l k).by_.length<=100000:=hb _ (XH hk)
  have hpu:0<=upT (16+((nth l k).by_.length:Int))/\upT (16+((nth l k).by_.length:Int))<=100032:=by unfold upT;omega
  refine aU7 ?_
  refine o_h (Qd (cs:=[_]) rfl rfl QB Yo rfl rfl rfl) rfl (λb3 _=>o_h (Qy _ rfl rfl rfl QB Tryz.underlying52 Yo rfl aPk (Q5 aPk) rfl (by intro u hu;simp only[List.mem_cons,List.mem_nil_iff,or_false]at hu;subst hu;rfl) om (by simp only[maxLen];omega)) rfl (λb4 _=>aU7 ?_))
  refine o_p (Qa rfl rfl rfl X6 (k) om om (Rw.some hs om)) rfl (aU ?_)
  refine o_q (Qc rfl rfl Y8 ((hs.rdj 1 hk rfl))) rfl (o_p (QN rfl rfl Tryz.underlying9) rfl (aT ?_))
  refine oCq rfl (λw1 h1=>c74 w1 _ om) (aT ?_)
  refine aT6 ?_
  refine aU2 ?_
  exact QR (k+1,b4.1,b4.2) (by(try simp only[]);omega) (by(try simp only[]);omega) (by dsimp only;rw[hst,List.length_append];exact aSx) (λw h=>by dsimp only;rw[hst,List.length_append,List.map_append];exact h.ent aEt)
 obtain rfl:k=l.length:=om
 rw[List.take_length]
 refine Qi rfl ?_
 refine aU7 ?_
 exact Qf (rs:=[.tmp 2,.tmp 3]) rfl (.tmp rfl (.tmp rfl (.nil))) (λw' h'=>⟨(ga,gc),by rw[Yu];rfl,trivial,by have h2:=h';rw[Yu]at h2;exact h2.ent aEt⟩)
instance:TFd Tryz.prog 61 0 0 3:=⟨by kernel_rfl⟩
instance:TFd Tryz.prog 24 0 0 3:=⟨by kernel_rfl⟩
theorem Qm5:QH Tryz.prog 113=true:=by kernel_rfl
theorem Qgz:QH Tryz.prog 33=true:=by kernel_rfl
instance:TFn Tryz.prog 33:=⟨Qgz⟩
theorem QgJ:QH Tryz.prog 30=true:=by kernel_rfl
instance:TFn Tryz.prog 30:=⟨QgJ⟩
instance:TFn Tryz.prog 116:=⟨by kernel_rfl⟩
theorem Qf0:tsz Tryz.prog 180=some (1,false):=by kernel_rfl
instance:TSz Tryz.prog 180 1 false:=⟨Qf0⟩
theorem Qqx:QH Tryz.prog 115=true:=by kernel_rfl
theorem QqH:Xy Tryz.prog 180=some [.map none]:=by kernel_rfl
theorem QpZ:QH Tryz.prog 114=true:=by kernel_rfl
instance:TFn Tryz.prog 52:=⟨by kernel_rfl⟩
theorem QaF:tsz Tryz.prog 24=some (2,true):=by kernel_rfl
instance:TSz Tryz.prog 24 2 true:=⟨QaF⟩
instance:TFn Tryz.prog 65:=⟨by kernel_rfl⟩
theorem c115(w:World)(r bS bM i:Nat)(ks:List (List UInt8))(nx:Int)(a:Option Addr)(cap:Nat)(l:List SItm)(hw:HS w [r] [.mp r KS (ks)] w)(hA1:Rd w [r] bS 0 (.int .i64 nx))(hA2:Rd w [r] bS 1 (.slice a l.length cap))(hA5:Rd w [r] bM 0 (.map (some r)))(hs:Rw SItm.vals 2 w [r] a l)(hm:l.length<=100000)(hb:∀x∈l,x.by_.length<=100000)(hnx:0<=nx/\nx<=2147483647)(hi:i<l.length)(hks:∀y,y∈ks ↔ y∈(l.take i).map SItm.by_):CE 115 #[.int .i64 (i:Int),.agg #[.int .i64 (nth l i).id,.string (bs (nth l i).by_)],.pointer (some ⟨bS,0,none⟩),.pointer (some ⟨bM,0,none⟩)] w [r] (λg:List (List UInt8)=>.int .i64 (QcU nx l i)) (λg=>(∀y,y∈g ↔ y∈(l.take (i+1)).map SItm.by_)) λg=>[.mp r KS (g)]:=by
 have hbi:(nth l i).by_.length<=100000:=hb _ (XH hi)
 refine eW4 Tryz.func115 Tryz.ntmps115 hw ?_
 refine aU2 ?_
 refine oBx λb1 _=>?_
 refine aU3 ?_
 refine Qq [] Qx ?_
 refine dFa 0 ?_
 refine dLd 1 [] ?_
 refine dFa 2 ?_
 refine dQ 3 [] rfl (Qc rfl rfl Xq (hA1)) (dP 4 ?_)
 try refine dWr ?_
 refine dQ 5 [] rfl (Ql rfl Qm5 rfl (λw1 h1=>c113 w1 _ _ _)) (dQ 6 [] rfl (Ql rfl Qgz rfl (λw1 h1=>c33 w1 _ _)) (dP 7 ?_))
 refine dP 8 ?_
 refine dP 9 ?_
 apply Q7 17
 ·exact rfl
 ·intro hg2
  have hs3:=hg2;try simp only[dT]at hs3
  refine dOf 10 17 hg2 ?_
  refine dOf 11 17 hg2 ?_
  refine dOf 12 17 hg2 ?_
  refine dOf 13 17 hg2 ?_
  refine dOf 14 17 hg2 ?_
  refine dOf 15 17 hg2 ?_
  refine dOf 16 17 hg2 ?_
  refine dOf 17 17 hg2 ?_
  refine dOf 18 17 hg2 ?_
  refine dOf 19 17 hg2 ?_
  refine dOf 20 17 hg2 ?_
  refine dV 21 rfl (Xk rfl rfl hg2 rfl) (dQ 22 [] rfl (Ql rfl Qgz rfl (λw1 h1=>c33 w1 _ _)) (dH 23 rfl (Qd (cs:=[_,_]) rfl rfl XI Yv rfl rfl rfl) (λb4 _=>dBa ?_)))
  refine dQ 24 [] rfl (Ql rfl QgJ rfl (λw1 h1=>f30 h1 aPk (by rfl) (by rfl) (by decide))) (dP 25 ?_)
  refine dNi ?_
  refine aU2 ?_
  refine Qg (L':=[(3,_),(5,_),(6,_),(7,_)]) aSx (λ_ h=>h) ?_
  refine aU4 ?_
  refine Xe (α:=Unit) [7,35,36,37,38,39,40] (λ_=>[(7,.int .i64 (e1E nx l i))]) (λ_=>HS w [r] [.mp r KS (ks),.blk b1 61 2 [.int .i64 (nth l i).id,.string (bs (nth l i).by_)]]) (λ_=>True) ?_ ?_
  ·skip
   refine sCd rfl (λh5=>?_) λh5=>?_
   ·have he9:=Qdq (nx:=nx) (l:=l) (i:=i) (b:=decide (i=0\/(nth l (i-1)).id<(nth l i).id)) rfl
    have hi9:((i:Int)=0) ↔ i=0:=om
    have hg9:=hg2
    (have hi0:i=0:=by(simp at hg9;exact hg9))
    have hb99:decide (i=0\/(nth l (i-1)).id<(nth l i).id)=(if i=0 then true else decide ((nth l (i-1)).id<(nth l i).id)):=by split<;>simp_all
    rw[hb99]at he9
    rw[if_pos hi0]at he9
    have hz9:e0E nx l i=0:=by rw[<-he9];exact h5
    refine aU3 ?_
    refine oCh rfl (λw1 h1=>c116 w1 (nth l i).by_ om) (λgd _=>aU5 ?_)
    exact Qo () trivial (by(try dsimp only);unfold e1E;rw[if_pos hz9];exact aSx) (λw h=>h.ent aEt)
   have he9:=Qdq (nx:=nx) (l:=l) (i:=i) (b:=decide (i=0\/(nth l (i-1)).id<(nth l i).id)) rfl
   have hi9:((i:Int)=0) ↔ i=0:=om
   have hg9:=hg2
   (have hi0:i=0:=by(simp at hg9;exact hg9))
   have hb99:decide (i=0\/(nth l (i-1)).id<(nth l i).id)=(if i=0 then true else decide ((nth l (i-1)).id<(nth l i).id)):=by split<;>simp_all
   rw[hb99]at he9
   rw[if_pos hi0]at he9
   have hz9:¬e0E nx l i=0:=by rw[<-he9];exact h5
   refine aU ?_
   exact Qo () trivial (by(try dsimp only);unfold e1E;rw[if_neg hz9,<-he9];exact aSx) (λw h=>h.ent aEt)
  intro _ _
  refine aU3 ?_
  refine o_q (Qc rfl rfl Qf0 (hA5)) rfl (aU2 ?_)
  refine o_q (Qfo (K:=KS) rfl rfl rfl Tryz.underlying180 Qq7 (QeA Tryz.underlying9) aPk) rfl (aU ?_)
  refine oCq rfl (λw1 h1=>c33 w1 _ _) (o_h (Qd (cs:=[_,_]) rfl rfl XI Yv rfl rfl rfl) rfl (λb6 _=>oCq rfl (λw1 h1=>f30 h1 aPk (by rfl) (by rfl) (by decide)) (aU4 ?_)))
  refine o_q (Qc rfl rfl Qf0 (hA5)) rfl (aU2 ?_)
  refine Qal (QbI (K:=KS) (.inl rfl) rfl rfl rfl Tryz.underlying180 (QeA Tryz.underlying9) aPt) (λ_ _=>aU6 ?_)
  exact rT rfl rfl (λw' h'=>⟨Qbf ks (nth l i).by_,by rw[<-QcF nx l i (hks _)];rfl,λy=>by rw[QiH,QjZ hi,hks],h'.ent aEt⟩)
 intro hg7
 have hs8:=hg7;try simp only[dN]at hs8
 refine dFo 10 17 hg7 ?_
 refine dQo 11 17 [] hg7 rfl rfl rfl (Qc rfl rfl Qif (hA2)) ?_
 refine dPo 12 17 hg7 ?_
 refine dPo 13 17 hg7 ?_
 try refine dWr ?_
 refine dVo 14 17 hg7 rfl rfl rfl (QcS rfl rfl rfl ) ?_
 refine Qs (show _=Value.int .i64 ((i-1:Nat):Int)from by congr 1;split<;>omega) (dVo 15 17 hg7 rfl rfl rfl (Qa rfl rfl rfl X6 (i-1) om om (Rw.some hs om)) ?_)
 refine dFo 16 17 hg7 ?_
 refine dQo 17 17 [] hg7 rfl rfl rfl (Qc rfl rfl Xq ((hs.rdj (i:=i-1) 0 om rfl))) ?_
 refine dFo 18 17 hg7 ?_
 refine dQo 19 17 [] hg7 rfl rfl rfl (XO rfl rfl Xq aPk rfl) ?_
 refine dPo 20 17 hg7 ?_
 refine dV 21 rfl (QW rfl rfl hg7 rfl) (dQ 22 [] rfl (Ql rfl Qgz rfl (λw1 h1=>c33 w1 _ _)) (dH 23 rfl (Qd (cs:=[_,_]) rfl rfl XI Yv rfl rfl rfl) (λb9 _=>dBa ?_)))
 refine dQ 24 [] rfl (Ql rfl QgJ rfl (λw1 h1=>f30 h1 aPk (by rfl) (by rfl) (by decide))) (dP 25 ?_)
 refine dNi ?_
 refine aU2 ?_
 refine Qg (L':=[(3,_),(5,_),(6,_),(7,_)]) aSx (λ_ h=>h) ?_
 refine aU4 ?_
 refine Xe (α:=Unit) [7,35,36,37,38,39,40] (λ_=>[(7,.int .i64 (e1E nx l i))]) (λ_=>HS w [r] [.mp r KS (ks),.blk b1 61 2 [.int .i64 (nth l i).id,.string (bs (nth l i).by_)]]) (λ_=>True) ?_ ?_
 ·skip
  refine sCd rfl (λh10=>?_) λh10=>?_
  ·have he9:=Qdq (nx:=nx) (l:=l) (i:=i) (b:=decide (i=0\/(nth l (i-1)).id<(nth l i).id)) rfl
   have hi9:((i:Int)=0) ↔ i=0:=om
   have hg9:=hg7
   (have hi0:¬i=0:=by(simp at hg9;exact hg9))
   have hb99:decide (i=0\/(nth l (i-1)).id<(nth l i).id)=(if i=0 then true else decide ((nth l (i-1)).id<(nth l i).id)):=by split<;>simp_all
   rw[hb99]at he9
   rw[if_neg hi0]at he9
   have hz9:e0E nx l i=0:=by rw[<-he9];exact h10
   refine aU3 ?_
   refine oCh rfl (λw1 h1=>c116 w1 (nth l i).by_ om) (λgd _=>aU5 ?_)
   exact Qo () trivial (by(try dsimp only);unfold e1E;rw[if_pos hz9];exact aSx) (λw h=>h.ent aEt)
  have he9:=Qdq (nx:=nx) (l:=l) (i:=i) (b:=decide (i=0\/(nth l (i-1)).id<(nth l i).id)) rfl
  have hi9:((i:Int)=0) ↔ i=0:=om
  have hg9:=hg7
  (have hi0:¬i=0:=by(simp at hg9;exact hg9))
  have hb99:decide (i=0\/(nth l (i-1)).id<(nth l i).id)=(if i=0 then true else decide ((nth l (i-1)).id<(nth l i).id)):=by split<;>simp_all
  rw[hb99]at he9
  rw[if_neg hi0]at he9
  have hz9:¬e0E nx l i=0:=by rw[<-he9];exact h10
  refine aU ?_
  exact Qo () trivial (by(try dsimp only);unfold e1E;rw[if_neg hz9,<-he9];exact aSx) (λw h=>h.ent aEt)
 intro _ _
 refine aU3 ?_
 refine o_q (Qc rfl rfl Qf0 (hA5)) rfl (aU2 ?_)
 refine o_q (Qfo (K:=KS) rfl rfl rfl Tryz.underlying180 Qq7 (QeA Tryz.underlying9) aPk) rfl (aU ?_)
 refine oCq rfl (λw1 h1=>c33 w1 _ _) (o_h (Qd (cs:=[_,_]) rfl rfl XI Yv rfl rfl rfl) rfl (λb11 _=>oCq rfl (λw1 h1=>f30 h1 aPk (by rfl) (by rfl) (by decide)) (aU4 ?_)))
 refine o_q (Qc rfl rfl Qf0 (hA5)) rfl (aU2 ?_)
 refine Qal (QbI (K:=KS) (.inl rfl) rfl rfl rfl Tryz.underlying180 (QeA Tryz.underlying9) aPt) (λ_ _=>aU6 ?_)
 exact rT rfl rfl (λw' h'=>⟨Qbf ks (nth l i).by_,by rw[<-QcF nx l i (hks _)];rfl,λy=>by rw[QiH,QjZ hi,hks],h'.ent aEt⟩)
theorem d114(w:World)(r bS bM:Nat)(nx:Int)(a:Option Addr)(cap:Nat)(l:List SItm)(hw:HS w [r] [.mp r KS ([])] w)(hA1:Rd w [r] bS 0 (.int .i64 nx))(hA2:Rd w [r] bS 1 (.slice a l.length cap))(hA5:Rd w [r] bM 0 (.map (some r)))(hs:Rw SItm.vals 2 w [r] a l)(hm:l.length<=100000)(hb:∀x∈l,x.by_.length<=100000)(hnx:0<=nx/\nx<=2147483647):CE 114 #[.slice a l.length cap,.func (.func 115) #[] #[.pointer (some ⟨bS,0,none⟩),.pointer (some ⟨bM,0,none⟩)]] w [r] (λg:List (List UInt8)=>.tuple #[.int .i64 (QU (Yt nx l) 0).1,.int .i64 (QU (Yt nx l) 0).2]) (λg=>True) λg=>[.mp r KS (g)]:=by
 refine eW2 Tryz.func114 Tryz.ntmps114 hw ?_
 refine Z5 ?_
 refine Qt (α:=Nat×List (List UInt8)) [4,5,6,7,8,11,12,13,14,15,16,17,18,19,20,21,22,23,24] (λx=>[(11,.int .i64 (x.1:Int))]) (λx=>HS w [r] [.mp r KS (x.2)]) (λx=>x.1<=l.length/\(∀y,y∈x.2 ↔ y∈(l.take x.1).map SItm.by_)/\∀j,j<x.1->(Yt nx l).getD j 0=0) (λx=>l.length-x.1) (0,[]) ⟨Nat.zero_le _,by simp,λj h=>absurd h (Nat.not_lt_zero j)⟩ aSx (λw h=>h) (λ⟨k,ks⟩hx=>?_)
 dsimp only
 obtain⟨hk1,hks,hk3⟩:=hx
 simp only[]at hk1 hks hk3
 refine aU5 ?_
 refine sCd rfl (λh1=>?_) λh1=>?_
 ·have hk:k<l.length:=by omega
  have hkl:k<(Yt nx l).length:=by rw[Yz];exact hk
  refine aU6 ?_
  refine o_p (Qa rfl rfl rfl X6 (k) om om (Rw.some hs om)) rfl (o_q (Qu _ rfl rfl Qae rfl (Rw.rd hs om)) rfl (oAl (λb2 _=>?_) QaC))
  refine aU8 ?_
  refine o_h (Qdk (Cs:=[.mp r KS (ks)]) rfl rfl Qqx rfl aPs (λw1 hh hf=>c115 w1 r bS bM k ks nx a cap l hf (hA1.later hh hA1.2.1) (hA2.later hh hA2.2.1) (hA5.later hh hA5.2.1) (hs.keep (hh.ent (Bs:=[.mp r KS (ks)]) aEt)) hm hb hnx hk hks)) rfl (λgz hgz=>aU7 ?_)
  refine sCd rfl (λh3=>?_) λh3=>?_
  ·have hz9:¬QcU nx l k=0:=h3
   refine aU7 ?_
   exact Qf (rs:=[.tmp 4,.tmp 5]) rfl (.tmp rfl (.tmp rfl (.nil))) (λw' h'=>⟨_,by rw[eachF_at hkl hk3 (by rw[Xr hk];exact hz9),Xr hk];rfl,trivial,h'.ent aEt⟩)
  have hz9:QcU nx l k=0:=h3
  refine aT4 ?_
  refine aU2 ?_
  exact sBk (k+1,gz) (by(try simp only[]);omega) ⟨by(try simp only[]);omega,hgz,λj hj=>(Nat.lt_or_ge j k).elim (hk3 j) (λh=>by obtain rfl:j=k:=(by(try simp only[]at hj);omega);rw[Xr hk];exact hz9)⟩
 obtain rfl:k=l.length:=om
 refine Qi rfl ?_
 refine aU5 ?_
 exact Qf (rs:=[.tmp 4,.tmp 5]) rfl (.tmp rfl (.tmp rfl (.nil))) (λw' h'=>⟨_,by rw[eachF_all (by rw[Yz];exact hk3)];rfl,trivial,h'.ent aEt⟩)
theorem c65(w:World)(nx:Int)(a:Option Addr)(cap:Nat)(l:List SItm)(hs:Rw SItm.vals 2 w [] a l)(hm:l.length<=100000)(hb:∀x∈l,x.by_.length<=100000):CR 65 #[.agg #[.int .i64 nx,.slice a l.length cap]] w (.tuple #[.int .i64 (QX nx l).1,.int .i64 (QX nx l).2]):=by
 refine eN1 Tryz.func65 Tryz.ntmps65 ?_
 refine aU2 ?_
 refine oBx λb1 _=>?_
 refine aU5 ?_
 refine Qq [] Qx ?_
 refine dFa 0 ?_
 refine dLd 1 [] ?_
 refine dQ 2 [] rfl (Ql rfl Qm5 rfl (λw1 h1=>c113 w1 _ _ _)) (dQ 3 [] rfl (Ql rfl Qgz rfl (λw1 h1=>c33 w1 _ _)) (dFa 4 ?_))
 refine dLd 5 [] ?_
 refine dV 6 rfl (Qz rfl rfl Tryz.underlying22) (dP 7 ?_)
 refine dQ 8 [] rfl (Ql rfl Qgz rfl (λw1 h1=>c33 w1 _ _)) (dH 9 rfl (Qd (cs:=[_,_]) rfl rfl XI Yv rfl rfl rfl) (λb2 _=>dBa ?_))
 refine dQ 10 [] rfl (Ql rfl QgJ rfl (λw1 h1=>f30 h1 aPk (by rfl) (by rfl) (by decide))) (dP 11 ?_)
 refine dNi ?_
 refine aU5 ?_
 refine sCd rfl (λh3=>?_) λh3=>?_
 ·have h0:¬Qbn nx l=0:=by rw[<-QcH];exact h3
  have hse:QX nx l=(0,Qbn nx l):=by rw[YQ,if_neg h0]
  refine aU6 ?_
  exact Qf (rs:=[.tmp 2,.tmp 3]) rfl (.tmp rfl (.tmp rfl (.nil))) (λw' h'=>⟨by rw[hse,<-QcH];rfl,h'.below⟩)
 have h0:Qbn nx l=0:=by rw[<-QcH];exact h3
 have hnx:0<=nx/\nx<=2147483647:=by unfold Qbn at h0;split at h0;omega;omega
 refine aU3 ?_
 refine o_h (QdJ rfl KS) rfl (λb4 _=>oAl (λb5 _=>?_) QqH)
 refine aU8 ?_
 refine o_h (QT (Cs:=[.mp b4 KS ([])]) rfl QpZ rfl aPs (λw1 h1 hf=>d114 w1 b4 b1 b5 nx a cap l hf ((h1.ent (Bs:=[.blk b1 24 2 [.int .i64 nx,.slice a l.length cap],.mp b4 KS ([])]) aEt).rd_beside rfl) ((h1.ent (Bs:=[.blk b1 24 2 [.int .i64 nx,.slice a l.length cap],.mp b4 KS ([])]) aEt).rd_beside rfl) ((h1.ent (Bs:=[.blk b5 180 1 [.map (some b4)],.mp b4 KS ([])]) aEt).rd_beside rfl) (hs.keep (h1.ent (Bs:=[.mp b4 KS ([])]) aEt)) hm hb hnx)) rfl (λgz _=>YZ ?_)
 refine sCd rfl (λh6=>?_) λh6=>?_
 ·have h9:¬(QU (Yt nx l) 0).2=0:=h6
  have hse:QX nx l=QU (Yt nx l) 0:=by rw[YQ,if_pos h0,if_neg h9]
  refine aU ?_
  refine Qg (L':=[(1,_),(2,_),(3,_),(6,_),(7,_)]) aSx (λ_ h=>h) ?_
  refine aU6 ?_
  exact Qf (rs:=[.tmp 2,.tmp 3]) rfl (.tmp rfl (.tmp rfl (.nil))) (λw' h'=>⟨by rw[hse];rfl,h'.below⟩)
 have h9:(QU (Yt nx l) 0).2=0:=h6
 have hse:QX nx l=(0,cond (decide ((QO l).2<=8192)) 0 16):=by rw[YQ,if_pos h0,if_pos h9];by_cases hq:(QO l).2<=8192<;>simp[hq]
 refine aU2 ?_
 refine Qg (L':=[(1,_),(2,_),(3,_)]) aSx (λ_ h=>h) ?_
 refine aU3 ?_
 refine oCh rfl (λw1 h1=>c52 w1 a cap l (hs.later h1) hm hb) (λgp _=>YR ?_)
 refine oCq rfl (λw1 h1=>c33 w1 _ _) (aU3 ?_)
 exact Qf (rs:=[.tmp 2,.tmp 3]) rfl (.tmp rfl (.tmp rfl (.nil))) (λw' h'=>⟨by rw[hse];rfl,h'.below⟩)
theorem c31(w:World)(nx:Int)(a:Option Addr)(cap:Nat)(l:List SItm)(hs:Rw SItm.vals 2 w [] a l)(hm:l.length<=100000)(hb:∀x∈l,x.by_.length<=100000):CR 31 #[.agg #[.int .i64 nx,.slice a l.length cap]] w (.int .i64 (QX nx l).2):=by
 refine eN1 Tryz.func31 Tryz.ntmps31 ?_
 refine aU2 ?_
 refine oBx λb1 _=>?_
 refine aU5 ?_
 refine oCq rfl (λw1 h1=>c65 w1 nx a cap l (hs.later h1) hm hb) (YZ ?_)
 exact rV
instance:TFn Tryz.prog 71:=⟨by kernel_rfl⟩
instance:TFn Tryz.prog 42:=⟨by kernel_rfl⟩
instance:TFn Tryz.prog 39:=⟨by kernel_rfl⟩
theorem QhA{nx:Int}{l:List SItm}{i:Nat}(h:¬e0E nx l i=0):QcU nx l i=e0E nx l i:=by
  rw[<-QcF nx l i (P:=(nth l i).by_∈(l.take i).map SItm.by_) (dP:=inferInstance) Iff.rfl];simp only[Xm,e1E,if_neg h]
theorem QkB{nx:Int}{l:List SItm}{i:Nat}(h0:e0E nx l i=0)(h:¬ZG (nth l i).by_=0):QcU nx l i=ZG (nth l i).by_:=by
  rw[<-QcF nx l i (P:=(nth l i).by_∈(l.take i).map SItm.by_) (dP:=inferInstance) Iff.rfl];simp only[Xm,e1E,if_pos h0,if_neg h]
theorem QjS{nx:Int}{l:List SItm}{i:Nat}(h0:e0E nx l i=0)(h1:ZG (nth l i).by_=0)(h:(nth l i).by_∈(l.take i).map SItm.by_):QcU nx l i=23:=by
  rw[<-QcF nx l i (P:=(nth l i).by_∈(l.take i).map SItm.by_) (dP:=inferInstance) Iff.rfl];simp only[Xm,e1E,if_pos h0,h1,h];simp
theorem Qmc{nx:Int}{l:List SItm}{i:Nat}(h0:e0E nx l i=0)(h1:ZG (nth l i).by_=0)(h:¬(nth l i).by_∈(l.take i).map SItm.by_):QcU nx l i=0:=by
  rw[<-QcF nx l i (P:=(nth l i).by_∈(l.take i).map SItm.by_) (dP:=inferInstance) Iff.rfl];simp only[Xm,e1E,if_pos h0,h1,h];simp
theorem QlE{l:List SItm}{i j:Nat}(hj:j<i)(hi:i<=l.length):(nth l j).by_∈(l.take i).map SItm.by_:=by
  refine List.mem_map.2 ⟨nth l j,?_,rfl⟩;refine List.mem_iff_getElem?.2 ⟨j,?_⟩;rw[List.getElem?_take,if_pos hj];exact QY om
theorem QlQ{l:List SItm}{i:Nat}{y:List UInt8}(hi:i<=l.length)(h:∀j,j<i->(nth l j).by_≠y):¬y∈(l.take i).map SItm.by_:=λhm=>by
  obtain⟨x,hx,e⟩:=List.mem_map.1 hm;obtain⟨j,hj⟩:=List.mem_iff_getElem?.1 hx;rw[List.getElem?_take]at hj;split at hj
  · rename_i h9;exact h j h9 (by rw[QP hj];exact e)
  · cases hj
set_option maxHeartbeats 2000000 in
theorem c39(w:World)(nx:Int)(a:Option Addr)(cap:Nat)(l:List SItm)(hs:Rw SItm.vals 2 w [] a l)(hm:l.length<=100000)(hb:∀x∈l,x.by_.length<=100000):CR 39 #[.agg #[.int .i64 nx,.slice a l.length cap]] w (.tuple #[.int .i64 (QX nx l).1,.int .i64 (QX nx l).2]):=by
 refine eN1 Tryz.func39 Tryz.ntmps39 ?_
 refine aU2 ?_
 refine oBx λb1 _=>?_
 refine aU8 ?_
 refine oCq rfl (λw1 h1=>c70 w1 _ _ _) (aU2 ?_)
 refine sCd rfl (λh2=>?_) λh2=>?_
 ·have hq9:¬(256<=nx/\nx<=2147483647):=by have hq:=h2;omega
  have hse:QX nx l=(0,2):=by unfold QX;rw[if_neg hq9]
  refine aU5 ?_
  exact Qf (rs:=[.tmp 2,.tmp 3]) rfl (.tmp rfl (.tmp rfl (.nil))) (λw' h'=>⟨by rw[hse];rfl,h'.below⟩)
 have hq9:256<=nx/\nx<=2147483647:=by have hq:=h2;omega
 refine aU9 ?_
 refine sCd rfl (λh3=>?_) λh3=>?_
 ·have hq8:¬l.length<=60:=by have hq:=h3;omega
  have hse:QX nx l=(0,8):=by unfold QX;rw[if_pos hq9,if_neg hq8]
  refine aU5 ?_
  exact Qf (rs:=[.tmp 2,.tmp 3]) rfl (.tmp rfl (.tmp rfl (.nil))) (λw' h'=>⟨by rw[hse];rfl,h'.below⟩)
 have hq8:l.length<=60:=by have hq:=h3;omega
 have h0:Qbn nx l=0:=by unfold Qbn;rw[if_pos hq9,if_pos hq8]
 refine aU7 ?_
 refine Qt (α:=Nat) [2,3,4,5,6,7,8,19,20,21,22,23,24,25,26,27,28,29,30,31,32,33,34,35,36,37,38,39,40,41,42,43,44,45,46,47,48,49,50,51,52,53,54,55,56,57,58,59,60,61,62,63,64,65,66,67,68,69,70,71,72,73,74,75,76,77,78] (λi=>[(4,.int .i64 (i:Int))]) (λ_=>HS w [] [.blk b1 24 2 [.int .i64 nx,.slice a l.length cap]]) (λi=>i<=l.length/\∀j,j<i->(Yt nx l).getD j 0=0) (λi=>l.length-i) 0 ⟨Nat.zero_le _,λj h=>absurd h (Nat.not_lt_zero j)⟩ aSx (λw h=>h.ent aEt) (λi hii=>?_)
 obtain⟨hi1,hi3⟩:=hii
 refine aU9 ?_
 refine sCd rfl (λh4=>?_) λh4=>?_
 ·have hi:i<l.length:=by omega
  have hbi:(nth l i).by_.length<=100000:=hb _ (XH hi)
  refine aU8 ?_
  refine o_p (Qa rfl rfl rfl X6 (i) om om (Rw.some hs om)) rfl (o_q (Qu _ rfl rfl Qae rfl (Rw.rd hs hi)) rfl (oAl (λb5 _=>?_) QaC))
  refine Qnd ?_
  refine oCq rfl (λw1 h1=>c70 w1 _ _ _) (aU2 ?_)
  refine sCd rfl (λh6=>?_) λh6=>?_
  ·have hr9:¬(256<=(nth l i).id/\(nth l i).id<=nx-1):=by have hq:=h6;omega
   have he0:e0E nx l i=2:=by unfold e0E;rw[if_neg hr9]
   have hit:=(QhA (nx:=nx) (l:=l) (i:=i) (by rw[he0];decide)).trans he0
   have hek:=eachF_at (es:=Yt nx l) (k:=i) (by rw[Yz];exact hi) hi3 (by rw[Xr hi,hit];first|decide|assumption)
   rw[Xr hi,hit]at hek
   have hse:QX nx l=((i:Int),2):=by rw[YQ,if_pos h0,if_neg (by rw[hek];first|assumption|(dsimp only;decide))];exact hek
   refine aU6 ?_
   exact Qf (rs:=[.tmp 2,.tmp 3]) rfl (.tmp rfl (.tmp rfl (.nil))) (λw' h'=>⟨by rw[hse];rfl,h'.below⟩)
  have hr9:256<=(nth l i).id/\(nth l i).id<=nx-1:=by have hq:=h6;omega
  refine aU3 ?_
  refine Qq [] Qx ?_
  refine dP 0 ?_
  refine dP 1 ?_
  refine dP 2 ?_
  apply Q7 41
  ·exact rfl
  ·intro hg7
   have hs8:=hg7;try simp only[dT]at hs8
   refine dFo 3 41 hg7 ?_
   refine dQo 4 41 [] hg7 rfl rfl rfl (XO rfl rfl Xq aPk rfl) ?_
   refine dFo 5 41 hg7 ?_
   refine dQo 6 41 [] hg7 rfl rfl rfl (XO rfl rfl Qif aPk rfl) ?_
   refine dPo 7 41 hg7 ?_
   refine dPo 8 41 hg7 ?_
   try refine dWr ?_
   refine dVo 9 41 hg7 rfl rfl rfl (Qa rfl rfl rfl X6 (i-1) om om (Rw.some hs om)) ?_
   refine dFo 10 41 hg7 ?_
   refine dQo 11 41 [] hg7 rfl rfl rfl (Qc rfl rfl Xq ((hs.rdj (i:=i-1) 0 om rfl))) ?_
   refine dPo 12 41 hg7 ?_
   refine dV 13 rfl (Xk rfl rfl hg7 rfl) (dNi ?_)
   refine sCd rfl (λh9=>?_) λh9=>?_
   ·have ho9:¬(i=0\/(nth l (i-1)).id<(nth l i).id):=by first|(have hq:=h9;simp at hq;done)|(have hq:=h9;have hg:=hg7;simp at hg;omega)
    have he0:e0E nx l i=9:=by unfold e0E;rw[if_pos hr9,if_neg ho9]
    have hit:=(QhA (nx:=nx) (l:=l) (i:=i) (by rw[he0];decide)).trans he0
    have hek:=eachF_at (es:=Yt nx l) (k:=i) (by rw[Yz];exact hi) hi3 (by rw[Xr hi,hit];first|decide|assumption)
    rw[Xr hi,hit]at hek
    have hse:QX nx l=((i:Int),9):=by rw[YQ,if_pos h0,if_neg (by rw[hek];first|assumption|(dsimp only;decide))];exact hek
    refine aU ?_
    refine Qg (L':=[(0,_),(1,_),(4,_),(5,_),(11,_),(12,_),(13,_),(14,_),(15,_),(16,_),(17,_),(18,_)]) aSx (λ_ h=>h) ?_
    refine aU5 ?_
    exact Qf (rs:=[.tmp 2,.tmp 3]) rfl (.tmp rfl (.tmp rfl (.nil))) (λw' h'=>⟨by rw[hse];rfl,h'.below⟩)
   have ho9:i=0\/(nth l (i-1)).id<(nth l i).id:=by first|(have hq:=h9;have hg:=hg7;simp at hg;omega)|(have hg:=hg7;simp at hg;exact .inl om)
   have he0:e0E nx l i=0:=by unfold e0E;rw[if_pos hr9,if_pos ho9]
   refine aU3 ?_
   refine Qg (L':=[(0,_),(1,_),(4,_),(5,_),(11,_),(12,_),(13,_),(14,_),(15,_),(16,_),(17,_),(18,_)]) aSx (λ_ h=>h) ?_
   refine aU3 ?_
   refine oCh rfl (λw1 h1=>c71 w1 (nth l i).by_ om) (λgd _=>aU3 ?_)
   refine oAl (λb10 _=>?_) YJ
   refine aU8 ?_
   refine sCd rfl (λh11=>?_) λh11=>?_
   ·have hd9:¬ZG (nth l i).by_=0:=h11
    have hit:=QkB he0 hd9
    have hek:=eachF_at (es:=Yt nx l) (k:=i) (by rw[Yz];exact hi) hi3 (by rw[Xr hi,hit];first|decide|assumption)
    rw[Xr hi,hit]at hek
    have hse:QX nx l=((i:Int),ZG (nth l i).by_):=by rw[YQ,if_pos h0,if_neg (by rw[hek];first|assumption|(dsimp only;decide))];exact hek
    refine aU7 ?_
    exact Qf (rs:=[.tmp 2,.tmp 3]) rfl (.tmp rfl (.tmp rfl (.nil))) (λw' h'=>⟨by rw[hse];rfl,h'.below⟩)
   have hd9:ZG (nth l i).by_=0:=h11
   refine aU6 ?_
   refine Qg (L':=[(0,_),(1,_),(4,_),(5,_),(8,_),(11,_),(12,_),(13,_),(14,_),(15,_),(16,_),(17,_),(18,_)]) aSx (λ_ h=>h) ?_
   refine Qt (α:=Nat) [2,3,8,64,65,66,67,68,69,70,71,72,73,74,75,76,77,78] (λj=>[(8,.int .i64 (j:Int))]) (λ_=>HS w [] [.blk b5 61 2 [.int .i64 (nth l i).id,.string (bs (nth l i).by_)],.blk b1 24 2 [.int .i64 nx,.slice a l.length cap]]) (λj=>j<=i/\∀q,q<j->(nth l q).by_≠(nth l i).by_) (λj=>i-j) 0 ⟨Nat.zero_le _,λj h=>absurd h (Nat.not_lt_zero j)⟩ aSx (λw h=>h.ent aEt) (λj hjj=>?_)
   obtain⟨hj1,hj2⟩:=hjj
   refine aU7 ?_
   refine sCd rfl (λh12=>?_) λh12=>?_
   ·have hj:j<i:=by omega
    refine aU4 ?_
    refine Qq [] Qx ?_
    refine dFa 0 ?_
    refine dLd 1 [] ?_
    refine dP 2 ?_
    refine dV 3 rfl (Qa rfl rfl rfl X6 (j) om om (Rw.some hs om)) (dFa 4 ?_)
    refine dQ 5 [] rfl (Qc rfl rfl Y8 ((hs.rdj (i:=j) 1 om rfl))) (dFa 6 ?_)
    refine dLd 7 [] ?_
    refine dP 8 ?_
    refine dNi ?_
    refine sCd rfl (λh13=>?_) λh13=>?_
    ·have hjx:(nth l j).by_=(nth l i).by_:=h13
     have hmb:(nth l i).by_∈(l.take i).map SItm.by_:=by rw[<-hjx];exact QlE hj (Nat.le_of_lt hi)
     have hit:=QjS he0 hd9 hmb
     have hek:=eachF_at (es:=Yt nx l) (k:=i) (by rw[Yz];exact hi) hi3 (by rw[Xr hi,hit];first|decide|assumption)
     rw[Xr hi,hit]at hek
     have hse:QX nx l=((i:Int),23):=by rw[YQ,if_pos h0,if_neg (by rw[hek];first|assumption|(dsimp only;decide))];exact hek
     refine aU6 ?_
     exact Qf (rs:=[.tmp 2,.tmp 3]) rfl (.tmp rfl (.tmp rfl (.nil))) (λw' h'=>⟨by rw[hse];rfl,h'.below⟩)
    have hjx:¬(nth l j).by_=(nth l i).by_:=h13
    refine aT5 ?_
    refine aU2 ?_
    exact sBk (j+1) om ⟨om,λq hq=>(Nat.lt_or_ge q j).elim (hj2 q) (λh=>by obtain rfl:q=j:=om;exact hjx)⟩
   have hij:i=j:=om
   have hnb:=QlQ (Nat.le_of_lt hi) (λq hq=>hj2 q om)
   have hit:=Qmc he0 hd9 hnb
   refine Qi rfl ?_
   refine aT4 ?_
   refine aU2 ?_
   exact sBk (i+1) om ⟨om,λq hq=>(Nat.lt_or_ge q i).elim (hi3 q) (λh=>by obtain rfl:q=i:=om;rw[Xr hi];exact hit)⟩
  intro hg14
  have hs15:=hg14;try simp only[dN]at hs15
  refine dOf 3 41 hg14 ?_
  refine dOf 4 41 hg14 ?_
  refine dOf 5 41 hg14 ?_
  refine dOf 6 41 hg14 ?_
  refine dOf 7 41 hg14 ?_
  refine dOf 8 41 hg14 ?_
  refine dOf 9 41 hg14 ?_
  refine dOf 10 41 hg14 ?_
  refine dOf 11 41 hg14 ?_
  refine dOf 12 41 hg14 ?_
  refine dV 13 rfl (QW rfl rfl hg14 rfl) (dNi ?_)
  refine sCd rfl (λh16=>?_) λh16=>?_
  ·have ho9:¬(i=0\/(nth l (i-1)).id<(nth l i).id):=by first|(have hq:=h16;simp at hq;done)|(have hq:=h16;have hg:=hg14;simp at hg;omega)
   have he0:e0E nx l i=9:=by unfold e0E;rw[if_pos hr9,if_neg ho9]
   have hit:=(QhA (nx:=nx) (l:=l) (i:=i) (by rw[he0];decide)).trans he0
   have hek:=eachF_at (es:=Yt nx l) (k:=i) (by rw[Yz];exact hi) hi3 (by rw[Xr hi,hit];first|decide|assumption)
   rw[Xr hi,hit]at hek
   have hse:QX nx l=((i:Int),9):=by rw[YQ,if_pos h0,if_neg (by rw[hek];first|assumption|(dsimp only;decide))];exact hek
   refine aU ?_
   refine Qg (L':=[(0,_),(1,_),(4,_),(5,_),(11,_),(12,_),(13,_),(14,_),(15,_),(16,_),(17,_),(18,_)]) aSx (λ_ h=>h) ?_
   refine aU5 ?_
   exact Qf (rs:=[.tmp 2,.tmp 3]) rfl (.tmp rfl (.tmp rfl (.nil))) (λw' h'=>⟨by rw[hse];rfl,h'.below⟩)
  have ho9:i=0\/(nth l (i-1)).id<(nth l i).id:=by first|(have hq:=h16;have hg:=hg14;simp at hg;omega)|(have hg:=hg14;simp at hg;exact .inl om)
  have he0:e0E nx l i=0:=by unfold e0E;rw[if_pos hr9,if_pos ho9]
  refine aU3 ?_
  refine Qg (L':=[(0,_),(1,_),(4,_),(5,_),(11,_),(12,_),(13,_),(14,_),(15,_),(16,_),(17,_),(18,_)]) aSx (λ_ h=>h) ?_
  refine aU3 ?_
  refine oCh rfl (λw1 h1=>c71 w1 (nth l i).by_ om) (λgd _=>aU3 ?_)
  refine oAl (λb17 _=>?_) YJ
  refine aU8 ?_
  refine sCd rfl (λh18=>?_) λh18=>?_
  ·have hd9:¬ZG (nth l i).by_=0:=h18
   have hit:=QkB he0 hd9
   have hek:=eachF_at (es:=Yt nx l) (k:=i) (by rw[Yz];exact hi) hi3 (by rw[Xr hi,hit];first|decide|assumption)
   rw[Xr hi,hit]at hek
   have hse:QX nx l=((i:Int),ZG (nth l i).by_):=by rw[YQ,if_pos h0,if_neg (by rw[hek];first|assumption|(dsimp only;decide))];exact hek
   refine aU7 ?_
   exact Qf (rs:=[.tmp 2,.tmp 3]) rfl (.tmp rfl (.tmp rfl (.nil))) (λw' h'=>⟨by rw[hse];rfl,h'.below⟩)
  have hd9:ZG (nth l i).by_=0:=h18
  refine aU6 ?_
  refine Qg (L':=[(0,_),(1,_),(4,_),(5,_),(8,_),(11,_),(12,_),(13,_),(14,_),(15,_),(16,_),(17,_),(18,_)]) aSx (λ_ h=>h) ?_
  refine Qt (α:=Nat) [2,3,8,64,65,66,67,68,69,70,71,72,73,74,75,76,77,78] (λj=>[(8,.int .i64 (j:Int))]) (λ_=>HS w [] [.blk b5 61 2 [.int .i64 (nth l i).id,.string (bs (nth l i).by_)],.blk b1 24 2 [.int .i64 nx,.slice a l.length cap]]) (λj=>j<=i/\∀q,q<j->(nth l q).by_≠(nth l i).by_) (λj=>i-j) 0 ⟨Nat.zero_le _,λj h=>absurd h (Nat.not_lt_zero j)⟩ aSx (λw h=>h.ent aEt) (λj hjj=>?_)
  obtain⟨hj1,hj2⟩:=hjj
  refine aU7 ?_
  refine sCd rfl (λh19=>?_) λh19=>?_
  ·have hj:j<i:=by omega
   refine aU4 ?_
   refine Qq [] Qx ?_
   refine dFa 0 ?_
   refine dLd 1 [] ?_
   refine dP 2 ?_
   refine dV 3 rfl (Qa rfl rfl rfl X6 (j) om om (Rw.some hs om)) (dFa 4 ?_)
   refine dQ 5 [] rfl (Qc rfl rfl Y8 ((hs.rdj (i:=j) 1 om rfl))) (dFa 6 ?_)
   refine dLd 7 [] ?_
   refine dP 8 ?_
   refine dNi ?_
   refine sCd rfl (λh20=>?_) λh20=>?_
   ·have hjx:(nth l j).by_=(nth l i).by_:=h20
    have hmb:(nth l i).by_∈(l.take i).map SItm.by_:=by rw[<-hjx];exact QlE hj (Nat.le_of_lt hi)
    have hit:=QjS he0 hd9 hmb
    have hek:=eachF_at (es:=Yt nx l) (k:=i) (by rw[Yz];exact hi) hi3 (by rw[Xr hi,hit];first|decide|assumption)
    rw[Xr hi,hit]at hek
    have hse:QX nx l=((i:Int),23):=by rw[YQ,if_pos h0,if_neg (by rw[hek];first|assumption|(dsimp only;decide))];exact hek
    refine aU6 ?_
    exact Qf (rs:=[.tmp 2,.tmp 3]) rfl (.tmp rfl (.tmp rfl (.nil))) (λw' h'=>⟨by rw[hse];rfl,h'.below⟩)
   have hjx:¬(nth l j).by_=(nth l i).by_:=h20
   refine aT5 ?_
   refine aU2 ?_
   exact sBk (j+1) om ⟨om,λq hq=>(Nat.lt_or_ge q j).elim (hj2 q) (λh=>by obtain rfl:q=j:=om;exact hjx)⟩
  have hij:i=j:=om
  have hnb:=QlQ (Nat.le_of_lt hi) (λq hq=>hj2 q om)
  have hit:=Qmc he0 hd9 hnb
  refine Qi rfl ?_
  refine aT4 ?_
  refine aU2 ?_
  exact sBk (i+1) om ⟨om,λq hq=>(Nat.lt_or_ge q i).elim (hi3 q) (λh=>by obtain rfl:q=i:=om;rw[Xr hi];exact hit)⟩
 obtain rfl:i=l.length:=om
 have hal:=eachF_all (es:=Yt nx l) (by rw[Yz];exact hi3)
 refine Qi rfl ?_
 refine aU4 ?_
 refine oCh rfl (λw1 h1=>c42 w1 nx a cap l (hs.later h1) hm hb) (λgp _=>YZ ?_)
 refine sCd rfl (λh21=>?_) λh21=>?_
 ·have hp9:¬(QO l).2<=8192:=by have hq:=h21;omega
  have hse:QX nx l=(0,16):=by rw[YQ,if_pos h0,if_pos (by rw[hal]),if_neg hp9]
  refine aU5 ?_
  exact Qf (rs:=[.tmp 2,.tmp 3]) rfl (.tmp rfl (.tmp rfl (.nil))) (λw' h'=>⟨by rw[hse];rfl,h'.below⟩)
 have hp9:(QO l).2<=8192:=by have hq:=h21;omega
 have hse:QX nx l=(0,0):=by rw[YQ,if_pos h0,if_pos (by rw[hal]),if_pos hp9]
 refine aU6 ?_
 exact Qf (rs:=[.tmp 2,.tmp 3]) rfl (.tmp rfl (.tmp rfl (.nil))) (λw' h'=>⟨by rw[hse];rfl,h'.below⟩)
theorem c12(w:World)(nx:Int)(a:Option Addr)(cap:Nat)(l:List SItm)(hs:Rw SItm.vals 2 w [] a l)(hm:l.length<=100000)(hb:∀x∈l,x.by_.length<=100000):CR 12 #[.agg #[.int .i64 nx,.slice a l.length cap]] w (.int .i64 (QX nx l).2):=by
 refine eN1 Tryz.func12 Tryz.ntmps12 ?_
 refine aU2 ?_
 refine oBx λb1 _=>?_
 refine aU5 ?_
 refine oCq rfl (λw1 h1=>c39 w1 nx a cap l (hs.later h1) hm hb) (YZ ?_)
 exact rV
theorem Qrp:QH Tryz.prog 91=true:=by kernel_rfl
instance:TFn Tryz.prog 90:=⟨by kernel_rfl⟩
theorem Qml:QH Tryz.prog 31=true:=by kernel_rfl
instance:TFn Tryz.prog 31:=⟨Qml⟩
instance:TFn Tryz.prog 89:=⟨by kernel_rfl⟩
theorem Zc:Xy Tryz.prog 24=some [.int .i64 0,.slice none 0 0]:=by kernel_rfl
instance:TFn Tryz.prog 49:=⟨by kernel_rfl⟩
theorem Qd9:YA Tryz.prog 24=some [(0,1),(1,1)]:=by kernel_rfl
instance:TFn Tryz.prog 50:=⟨by kernel_rfl⟩
instance:TFn Tryz.prog 51:=⟨by kernel_rfl⟩
theorem Qrm:YA Tryz.prog 61=some [(0,1),(1,1)]:=by kernel_rfl
theorem c50(w:World)(a:Option Addr)(cap:Nat)(l:List SItm)(hs:Rw SItm.vals 2 w [] a l)(hm:l.length<=1000000):CE 50 #[.slice a l.length cap] w [] (λg:Option Addr×Nat=>.slice g.1 l.length g.2) (λg=>True) λg=>[.own (.slice g.1 l.length g.2) 61 2 l.length (l.flatMap SItm.vals)]:=by
 refine eN1 Tryz.func50 Tryz.ntmps50 ?_
 refine aU8 ?_
 refine o_p (YN rfl rfl rfl Tryz.underlying22) rfl (aU ?_)
 refine sCd rfl (λh1=>?_) λh1=>?_
 ·have ha0:a=none:=by cases a with|none=>rfl|some b=>simp at h1
  subst ha0
  have hl0:l=[]:=Rw.none hs
  refine aU4 ?_
  exact rT rfl rfl (λw' h'=>⟨(none,0),by rw[hl0];rfl,trivial,by rw[hl0];exact(h'.own_nil 61 2).ent aEt⟩)
 refine aU3 ?_
 refine o_h (Q9 rfl X6) rfl (λb2 _=>aU ?_)
 refine o_h (Qy (l.flatMap SItm.vals) rfl rfl rfl X6 Tryz.underlying22 QaC rfl aPk (λw h=>Rw.src sv2 hs h) (Qj sv2 l) (Xu sv1 l) om (by simp only[maxLen];omega)) rfl (λb3 _=>aU2 ?_)
 exact rT rfl rfl (λw' h'=>⟨b3,by simp only[QV,Nat.zero_add],trivial,by have h2:=h';simp only[Nat.zero_add,List.nil_append]at h2;exact h2.ent aEt⟩)
theorem c90(w:World)(a:Option Addr)(cap:Nat)(l:List SItm)(q:Nat)(cv:Array Value)(bt:List Bool)(hs:Rw SItm.vals 2 w [] a l)(hm:l.length<=1000000)(hq:QH Tryz.prog q=true)(hb:bt.length=l.length)(hc:∀k w1,k<l.length->HS w [] [] w1->Calls Tryz.prog q (#[]++[.agg (SItm.vals (nth l k)).toArray].toArray++cv) w1 λen w2=>en=.returned (.bool (bt.getD k false))/\Below w1.heap.size w1 w2):CR 90 #[.slice a l.length cap,.func (.func q) #[] cv] w (.int .i64 (ixI bt)):=by
 refine eN2 Tryz.func90 Tryz.ntmps90 ?_
 refine Y1 ?_
 refine Qt (α:=Nat) [4,5,8,9,10,11,12,13,14,15,16,17,18] (λk=>[(8,.int .i64 (k:Int))]) (λ_=>_) (λk=>k<=l.length/\∀i,i<k->bt.getD i false=false) (λk=>l.length-k) 0 ⟨om,λi h=>absurd h (Nat.not_lt_zero i)⟩ aSx (λw h=>h) (λk hk=>?_)
 obtain⟨hk1,hk2⟩:=hk
 refine aU5 ?_
 refine sCd rfl (λh1=>?_) λh1=>?_
 ·refine Z5 ?_
  refine o_p (Qa rfl rfl rfl X6 (k) om om (Rw.some hs om)) rfl (o_q (Qu _ rfl rfl Qae rfl (Rw.rd hs om)) rfl (o_q (X3 rfl rfl hq rfl (λw1 h1=>hc k w1 om (h1.ent aEt))) rfl (aU ?_)))
  refine sCd rfl (λh2=>?_) λh2=>?_
  ·refine aU5 ?_
   exact rV (h:=by have e:=QaR (l:=bt) (k:=k) om hk2 (λ_=>by assumption);simp only[QV,ixI,e];rw[if_pos om])
  refine aT4 ?_
  refine aU2 ?_
  exact QR (k+1) om ⟨om,λi hi=>(Nat.lt_or_ge i k).elim (hk2 i) (λh=>by obtain rfl:i=k:=om;assumption)⟩ aSx (λw h=>h)
 refine Qi rfl ?_
 refine aU4 ?_
 exact rV (h:=by have e:=QaR (l:=bt) (k:=k) om hk2 (λh=>om);simp only[QV,ixI,e];rw[if_neg om])
theorem c91(w:World)(bS:Nat)(x:SItm)(s:List UInt8)(hr:Rd w [] bS 0 (.string (bs s))):CR 91 #[.agg #[.int .i64 x.id,.string (bs x.by_)],.pointer (some ⟨bS,0,none⟩)] w (.bool (decide (x.by_=s))):=by
 refine eN2 Tryz.func91 Tryz.ntmps91 ?_
 refine aU2 ?_
 refine oBx λb1 _=>?_
 refine aU6 ?_
 refine o_q (Qc rfl rfl Y8 (hr)) rfl (aU3 ?_)
 exact rV
theorem c51(w:World)(a:Option Addr)(cap:Nat)(l:List SItm)(s:List UInt8)(hs:Rw SItm.vals 2 w [] a l)(hm:l.length<=1000000):CR 51 #[.slice a l.length cap,.string (bs s)] w (.int .i64 (ixI (byB l s))):=by
 refine eN2 Tryz.func51 Tryz.ntmps51 ?_
 refine aU2 ?_
 refine oBx λb1 _=>?_
 refine aU6 ?_
 refine oCq rfl (λw1 h1=>c90 w1 a cap l 91 _ (byB l s) (hs.later h1) hm Qrp (Qdg l s) (λk w2 hk h2=>by have h9:=c91 w2 b1 (nth l k) s ((h1.rd_blk (i:=0) aPk rfl (by simp)).later h2 (by simp));rw[Qoh hk];exact h9)) (aU2 ?_)
 exact rV
theorem c49(w:World)(nx:Int)(a:Option Addr)(cap:Nat)(l:List SItm)(d:Dsc)(ea:Option Addr)(eac:Nat)(aa:Option Addr)(aac:Nat)(hs:Rw SItm.vals 2 w [] a l)(hm:l.length<=100000)(hb:∀x∈l,x.by_.length<=100000)(hse:Rw Ace.vals 4 w [] ea d.en)(hsa:Rw Ace.vals 4 w [] aa d.au)(hme:d.en.length<=100000)(hma:d.au.length<=100000):CR 49 #[.agg #[.int .i64 nx,.slice a l.length cap],.agg #[.int .i64 d.ow,.int .i64 d.gr,.bool d.pr,.bool d.he,.slice ea d.en.length eac,.slice aa d.au.length aac]] w (.tuple #[.string (bs (if QdP nx l d=0 then Zz d else[])),.int .i64 (QdP nx l d)]):=by
 refine eN2 Tryz.func49 Tryz.ntmps49 ?_
 refine aU2 ?_
 refine oBx λb1 _=>?_
 refine oBx λb2 _=>?_
 refine aU7 ?_
 refine oCq rfl (λw1 h1=>c31 w1 nx a cap l (hs.later h1) hm hb) (aU7 ?_)
 refine sCd rfl (λh3=>?_) λh3=>?_
 ·have h0:¬(QX nx l).2=0:=h3
  have he9:QdP nx l d=(QX nx l).2:=by unfold QdP;rw[if_neg h0]
  refine aU6 ?_
  exact Qf (rs:=[.tmp 4,.tmp 5]) rfl (.tmp rfl (.tmp rfl (.nil))) (λw' h'=>⟨by rw[he9,if_neg h0];rfl,h'.below⟩)
 have h0:(QX nx l).2=0:=h3
 have he9:QdP nx l d=(Yd d).2:=by unfold QdP;rw[if_pos h0]
 refine aU4 ?_
 refine oCq rfl (λw1 h1=>c89 w1 d ea eac aa aac (hse.later h1) (hsa.later h1) hme hma) (aU5 ?_)
 exact Qf (rs:=[.tmp 4,.tmp 5]) rfl (.tmp rfl (.tmp rfl (.nil))) (λw' h'=>⟨by rw[he9];rfl,h'.below⟩)
theorem c18(w:World)(nx:Int)(a:Option Addr)(cap:Nat)(l:List SItm)(d:Dsc)(ea:Option Addr)(eac:Nat)(aa:Option Addr)(aac:Nat)(hs:Rw SItm.vals 2 w [] a l)(hm:l.length<=100000)(hb:∀x∈l,x.by_.length<=100000)(hse:Rw Ace.vals 4 w [] ea d.en)(hsa:Rw Ace.vals 4 w [] aa d.au)(hme:d.en.length<=100000)(hma:d.au.length<=100000):CE 18 #[.agg #[.int .i64 nx,.slice a l.length cap],.agg #[.int .i64 d.ow,.int .i64 d.gr,.bool d.pr,.bool d.he,.slice ea d.en.length eac,.slice aa d.au.length aac]] w [] (λg:Option Addr×Nat=>.tuple #[.agg #[.int .i64 (QbR nx l d).nx,.slice g.1 (QbR nx l d).l.length g.2],.int .i64 (QbR nx l d).id,.int .i64 (QbR nx l d).e]) (λg=>True) λg=>[.own (.slice g.1 (QbR nx l d).l.length g.2) 61 2 (QbR nx l d).l.length ((QbR nx l d).l.flatMap SItm.vals)]:=by
 have hkl:=Qp4 l (Zz d)
 refine eN2 Tryz.func18 Tryz.ntmps18 ?_
 refine aU2 ?_
 refine oBx λb1 _=>?_
 refine oBx λb2 _=>?_
 refine oAl (λb3 _=>?_) Zc
 refine aU7 ?_
 refine oCq rfl (λw1 h1=>c49 w1 nx a cap l d ea eac aa aac (hs.later h1) hm hb (hse.later h1) (hsa.later h1) hme hma) (Y1 ?_)
 refine sCd rfl (λh4=>?_) λh4=>?_
 ·have h0:¬QdP nx l d=0:=h4
  have hT:QbR nx l d=⟨0,[],0,QdP nx l d⟩:=by unfold QbR;rw[if_neg h0]
  refine aU2 ?_
  refine o_p (QD (cs:=[_,_]) rfl rfl Qd9 Zc rfl) rfl (aU5 ?_)
  exact Qf (rs:=[.cell 4 24,.tmp 5,.tmp 6]) rfl (.cell rfl QaF aPk rfl (.tmp rfl (.tmp rfl (.nil)))) (λw' h'=>⟨(none,0),by rw[hT];rfl,trivial,by rw[hT];exact(h'.own_nil 61 2).ent aEt⟩)
 have h0:QdP nx l d=0:=h4
 obtain⟨hst0,hds0⟩:=QqF h0
 have hdl:=QmK d
 obtain⟨hnx,hl60,hit9,hpl9⟩:=YS hst0
 obtain⟨_,⟨hen16,hau16⟩,_,_⟩:=Qnx hds0
 rw[if_pos h0]
 refine aU5 ?_
 refine oCh rfl (λw1 h1=>c50 w1 a cap l (hs.later h1) om) (λb5 _=>aU7 ?_)
 refine oCq rfl (λw1 h1=>c51 w1 b5.1 b5.2 l (Zz d) (h1.rw_own sv2 aPk rfl) om) (aU7 ?_)
 refine sCd rfl (λh6=>?_) λh6=>?_
 ·have hk:(byK l (Zz d))<l.length:=by have hq:=h6;unfold ixI at hq;rw[Qdg]at hq;split at hq;assumption;omega
  have hix:ixI (byB l (Zz d))=(((byK l (Zz d)):Nat):Int):=by unfold ixI;rw[Qdg,if_pos (show ixB (byB l (Zz d))<l.length from hk)];rfl
  have hT:QbR nx l d=⟨nx,l,(nth l (byK l (Zz d))).id,0⟩:=by unfold QbR Qn2;rw[if_pos h0,if_pos hk]
  refine X0 (λw h=>Rw.some (h.rw_own sv2 aPk rfl) om) λhsm=>aU ?_
  refine Qaa [.own (.slice b5.1 l.length b5.2) 61 2 l.length (l.flatMap SItm.vals),.blk b1 24 2 [.int .i64 nx,.slice a l.length cap]] [] Qx ?_
  refine dFa 0 ?_
  refine dLd 1 [] ?_
  refine dP 2 ?_
  refine dV 3 rfl (QD (cs:=[_,_]) rfl rfl Qd9 Zc rfl) (dP 4 ?_)
  refine dP 5 ?_
  refine dV 6 rfl (Qa rfl rfl rfl X6 ((byK l (Zz d))) om om hsm) (dFa 7 ?_)
  refine dQ 8 [] rfl (Qn rfl rfl Xq (λw h=>(h.rw_own sv2 aPk rfl).rdj 0 hk rfl)) (dSt 9 ?_ (hl:=(by simp only[Qe,List.length_set,List.length_cons,List.length_nil,List.length_map];omega)))
  refine dP 10 ?_
  refine dP 11 ?_
  refine dNi ?_
  exact Qf (rs:=[.cell 4 24,.tmp 5,.tmp 6]) rfl (.cell rfl QaF aPk rfl (.tmp rfl (.tmp rfl (.nil)))) (λw' h'=>⟨b5,by rw[hT];rfl,trivial,by rw[hT];exact h'.ent aEt⟩)
 have hk:¬(byK l (Zz d))<l.length:=by have hq:=h6;unfold ixI at hq;rw[Qdg]at hq;split at hq;(exfalso;omega);assumption
 refine aU7 ?_
 refine o_p (QD (cs:=[_,_]) rfl rfl Qrm QaC rfl) rfl (o_h (Qd (cs:=[_,_]) rfl rfl X6 QaC rfl rfl rfl) rfl (λb7 _=>?_))
 refine o_h (Qy _ rfl rfl rfl X6 Tryz.underlying22 QaC rfl aPk (Q5 aPk) rfl (by intro u hu;simp only[List.mem_cons,List.mem_nil_iff,or_false]at hu;rcases hu with rfl|rfl<;>rfl) om (by simp only[maxLen];omega)) rfl (λb8 _=>Qm (show _=Value.slice b8.1 (l++[SItm.mk nx (Zz d)]).length b8.2 from by rw[List.length_append];rfl) (Q6 (C':=HS w [] [.own (.slice b8.1 (l++[SItm.mk nx (Zz d)]).length b8.2) 61 2 (l++[SItm.mk nx (Zz d)]).length ((l++[SItm.mk nx (Zz d)]).flatMap SItm.vals),.blk b1 24 2 [.int .i64 nx,.slice a l.length cap],.blk b3 24 2 [.int .i64 0,.slice none 0 0]]) (λw h=>by rw[XG,List.length_append];exact h.ent aEt) (aU4 ?_)))
 refine Qg (L':=[(2,_),(4,_),(5,_),(6,_),(9,_)]) aSx (λ_ h=>h) ?_
 refine aU2 ?_
 refine oCh rfl (λw1 h1=>c52 w1 b8.1 b8.2 (l++[SItm.mk nx (Zz d)]) (h1.rw_own sv2 aPk rfl) (by rw[List.length_append];simp only[List.length_cons,List.length_nil];omega) (by intro x hx;rcases List.mem_append.1 hx with hx|hx;exact hb x hx;rw[List.mem_singleton.1 hx];show(Zz d).length<=_;omega)) (λgp _=>Y1 ?_)
 refine oOr 3 55 58 rfl
  (λhg9 _=>by
   refine aU4 ?_
   exact oJf 3 58)
  (λhg11 _=>by
   refine aU2 ?_
   exact oJt 3 58) ?_
 refine aU ?_
 refine oOr 4 59 63 rfl
  (λhg13 _=>by
   refine aU6 ?_
   exact oJf 4 63)
  (λhg15 _=>by
   refine aU3 ?_
   exact oJt 4 63) ?_
 refine aU ?_
 refine sCd rfl (λh17=>?_) λh17=>?_
 ·have hfl:(l++[SItm.mk nx (Zz d)]).length>60\/(QO (l++[SItm.mk nx (Zz d)])).2>8192\/nx=2147483647:=by have hq:=h17;rw[List.length_append]at hq ⊢;simp only[List.length_cons,List.length_nil]at hq ⊢;omega
  have hT:QbR nx l d=⟨0,[],0,16⟩:=by unfold QbR Qn2;rw[if_pos h0,if_neg hk,if_pos hfl]
  refine aU2 ?_
  refine o_p (QD (cs:=[_,_]) rfl rfl Qd9 Zc rfl) rfl (aU4 ?_)
  exact Qf (rs:=[.cell 4 24,.tmp 5,.tmp 6]) rfl (.cell rfl QaF aPk rfl (.tmp rfl (.tmp rfl (.nil)))) (λw' h'=>⟨(none,0),by rw[hT];rfl,trivial,by rw[hT];exact(h'.own_nil 61 2).ent aEt⟩)
 have hfl:¬((l++[SItm.mk nx (Zz d)]).length>60\/(QO (l++[SItm.mk nx (Zz d)])).2>8192\/nx=2147483647):=by have hq:=h17;rw[List.length_append]at hq ⊢;simp only[List.length_cons,List.length_nil]at hq ⊢;omega
 have hT:QbR nx l d=⟨nx+1,(l++[SItm.mk nx (Zz d)]),nx,0⟩:=by unfold QbR Qn2;rw[if_pos h0,if_neg hk,if_neg hfl]
 refine aU2 ?_
 refine Qaa [.blk b1 24 2 [.int .i64 nx,.slice a l.length cap]] [] Qx ?_
 refine dFa 0 ?_
 refine dLd 1 [] ?_
 refine dP 2 ?_
 try refine dWr ?_
 refine dP 3 ?_
 refine dV 4 rfl (QD (cs:=[_,_]) rfl rfl Qd9 Zc rfl) (dFa 5 ?_)
 refine dLd 6 [] ?_
 refine dSt 7 ?_ (hl:=(by simp only[Qe,List.length_set,List.length_cons,List.length_nil,List.length_map];omega))
 refine dP 8 ?_
 refine dP 9 ?_
 refine dNi ?_
 exact Qf (rs:=[.cell 4 24,.tmp 5,.tmp 6]) rfl (.cell rfl QaF aPk rfl (.tmp rfl (.tmp rfl (.nil)))) (λw' h'=>⟨b8,by rw[hT];rfl,trivial,by rw[hT];exact h'.ent aEt⟩)
theorem QqD:QH Tryz.prog 101=true:=by kernel_rfl
instance:TFn Tryz.prog 100:=⟨by kernel_rfl⟩
theorem c100(w:World)(a:Option Addr)(cap:Nat)(l:List SItm)(q:Nat)(cv:Array Value)(cs:List Int)(n:Int)(hs:Rw SItm.vals 2 w [] a l)(hm:l.length<=1000000)(hq:QH Tryz.prog q=true)(hb:cs.length=l.length)(hc:∀k w1,k<l.length->HS w [] [] w1->Calls Tryz.prog q (#[]++[.agg (SItm.vals (nth l k)).toArray,.int .i64 n].toArray++cv) w1 λen w2=>en=.returned (.int .i64 (cs.getD k 0))/\Below w1.heap.size w1 w2):CR 100 #[.slice a l.length cap,.int .i64 n,.func (.func q) #[] cv] w (.tuple #[.int .i64 (bsL cs:Int),.bool (Qgh cs)]):=by
 refine eN3 Tryz.func100 Tryz.ntmps100 ?_
 refine QqB ?_
 refine Qt (α:=Nat×Nat×Nat) [9,10,11,15,16,17,18,19,20,21,22,23,24,25,26,27,28,29,30,31,32,33,34] (λx=>[(9,.int .i64 (x.2.1:Int)),(10,.int .i64 (x.2.2:Int))]) (λ_=>_) (λx=>x.2.1<=x.2.2/\x.2.2<=l.length/\x.2.2-x.2.1<=x.1/\bsC cs x.1 x.2.1 x.2.2=bsL cs) (λx=>x.1) (l.length,0,l.length) ⟨by simp,by simp,by simp,by rw[<-hb];rfl⟩ aSx (λw h=>h.ent aEt) (λ⟨m,lo,hi⟩hx=>?_)
 dsimp only
 obtain⟨hx1,hx2,hx3,hx4⟩:=hx
 simp only[]at hx1 hx2 hx3 hx4
 refine aU7 ?_
 refine sCd rfl (λh1=>?_) λh1=>?_
 ·refine aT7 ?_
  refine o_p (Qr rfl rfl Yw Qha) rfl ?_
  rw[show IntKind.u64.wrap ((lo:Int)+(hi:Int))=((lo+hi:Nat):Int)from QlM _ om]
  refine o_p (Qdw rfl rfl rfl (by decide) 1 rfl) rfl (o_p (Qr rfl rfl Qha Yw) rfl ?_)
  try refine oWr ?_
  refine Qm (show _=Value.int .i64 (((lo+hi)/2:Nat):Int)from by congr 1) ?_
  obtain⟨q2,hq1,hq2⟩:=QiI (cs:=cs) (show lo<hi by omega) hx3
  refine aU7 ?_
  refine o_p (Qa rfl rfl rfl X6 ((lo+hi)/2) om om (Rw.some hs om)) rfl (o_q (Qu _ rfl rfl Qae rfl (Rw.rd hs (i:=(lo+hi)/2) om)) rfl (aU ?_))
  refine o_q (X3 rfl rfl hq rfl (λw1 h1=>hc ((lo+hi)/2) w1 om (h1.ent aEt))) rfl (aU2 ?_)
  refine sCd rfl (λh2=>?_) λh2=>?_
  ·refine aT3 ?_
   refine aU3 ?_
   exact sBk (q2,(lo+hi)/2+1,hi) (by(try simp only[]);omega) ⟨by(try simp only[]);omega,hx2,by(try simp only[]);omega,by simp only[];rw[<-hx4,hq2,if_pos h2]⟩ (by refine Qc9 (congrArg (λe=>some (Value.int .i64 e)) (show(((lo+hi)/2:Nat):Int)+1=(((lo+hi)/2+1:Nat):Int) by omega)) ?_;repeat (first|exact Qio|refine Qc9 rfl ?_))
  refine aU5 ?_
  exact sBk (q2,lo,(lo+hi)/2) (by(try simp only[]);omega) ⟨by(try simp only[]);omega,by(try simp only[]);omega,by(try simp only[]);omega,by simp only[];rw[<-hx4,hq2,if_neg h2]⟩
 refine Qi rfl ?_
 refine aU3 ?_
 have hlo:bsL cs=lo:=by rw[<-hx4,QjH _ _ _ _ om]
 refine aU4 ?_
 refine XJ 9 39 48 rfl
  (λhg3 _=>by
   refine aU7 ?_
   refine o_p (Qa rfl rfl rfl X6 (lo) om om (Rw.some hs om)) rfl (aU ?_)
   refine o_q (Qu _ rfl rfl Qae rfl (Rw.rd hs (i:=lo) om)) rfl (aU3 ?_)
   refine o_q (X3 rfl rfl hq rfl (λw1 h1=>hc lo w1 om (h1.ent aEt))) rfl (aU2 ?_)
   exact oJt 9 48)
  (λhg5 _=>by
   refine aU8 ?_
   exact oJf 9 48) ?_
 refine aU3 ?_
 exact Qf (rs:=[.tmp 6,.tmp 7]) rfl (.tmp rfl (.tmp rfl (.nil))) (λw' h'=>⟨by simp only[QV,Qgh,hlo];first|(rw[hb];simp;done)|(have:¬lo<cs.length:=om;simp[this];done)|(have:lo<cs.length:=om;simp[this];done)|(have:lo<cs.length:=om;have hl9:lo<l.length:=om;simp only[this,hl9,decide_true,Bool.true_and,Bool.and_true];rfl)|(have:lo<cs.length:=om;have hl9:lo<l.length:=om;simp[this,hl9]),h'.below⟩)
theorem c101(w:World)(x:SItm)(n:Int)(hn:0<=n/\n<=9223372036854775807)(hx:0<=x.id/\x.id<=9223372036854775807):CR 101 #[.agg #[.int .i64 x.id,.string (bs x.by_)],.int .i64 n] w (.int .i64 (x.id-n)):=by
 refine eN2 Tryz.func101 Tryz.ntmps101 ?_
 refine aU2 ?_
 refine oBx λb1 _=>?_
 refine aT8 ?_
 refine aU2 ?_
 exact rV
theorem c57(w:World)(a:Option Addr)(cap:Nat)(l:List SItm)(n:Int)(hs:Rw SItm.vals 2 w [] a l)(hm:l.length<=1000000)(hn:0<=n/\n<=9223372036854775807)(hx:∀k,k<l.length->0<=(nth l k).id/\(nth l k).id<=9223372036854775807):CR 57 #[.slice a l.length cap,.int .i64 n] w (.tuple #[.int .i64 (bsL (idC l n):Int),.bool (Qgh (idC l n))]):=by
 refine eN2 Tryz.func57 Tryz.ntmps57 ?_
 refine aU9 ?_
 refine oCq rfl (λw1 h1=>c100 w1 a cap l 101 #[] (idC l n) n (hs.later h1) hm QqD (Qdv l n) (λk w2 hk h2=>by have h9:=c101 w2 (nth l k) n hn (hx k hk);rw[Qdu hk];exact h9)) (aU5 ?_)
 exact Qf (rs:=[.tmp 4,.tmp 5]) rfl (.tmp rfl (.tmp rfl (.nil))) (λw' h'=>⟨by rfl,h'.below⟩)
theorem c22(w:World)(nx:Int)(a:Option Addr)(cap:Nat)(l:List SItm)(hs:Rw SItm.vals 2 w [] a l)(hm:l.length<=100000)(hb:∀x∈l,x.by_.length<=100000):CE 22 #[.agg #[.int .i64 nx,.slice a l.length cap]] w [] (λg:Option Addr×Nat=>.tuple #[.slice g.1 (if(QX nx l).2=0 then QO l else([],0)).1.length g.2,.int .i64 (if(QX nx l).2=0 then QO l else([],0)).2,.int .i64 (QX nx l).2]) (λg=>True) λg=>[.own (.slice g.1 (if(QX nx l).2=0 then QO l else([],0)).1.length g.2) 3 1 (if(QX nx l).2=0 then QO l else([],0)).1.length ((if(QX nx l).2=0 then QO l else([],0)).1.map nv)]:=by
 refine eN1 Tryz.func22 Tryz.ntmps22 ?_
 refine aU2 ?_
 refine oBx λb1 _=>?_
 refine aU8 ?_
 refine oCq rfl (λw1 h1=>c31 w1 nx a cap l (hs.later h1) hm hb) (aU7 ?_)
 refine sCd rfl (λh2=>?_) λh2=>?_
 ·have h0:¬(QX nx l).2=0:=h2
  refine aU7 ?_
  exact Qf (rs:=[.tmp 2,.tmp 3,.tmp 4]) rfl (.tmp rfl (.tmp rfl (.tmp rfl (.nil)))) (λw' h'=>⟨(none,0),by rw[if_neg h0];rfl,trivial,by rw[if_neg h0];exact(h'.own_nil 3 1).ent aEt⟩)
 have h0:(QX nx l).2=0:=h2
 refine aU5 ?_
 refine oCh rfl (λw1 h1=>c52 w1 a cap l (hs.later h1) hm hb) (λgp _=>Qc0 ?_)
 exact Qf (rs:=[.tmp 2,.tmp 3,.tmp 4]) rfl (.tmp rfl (.tmp rfl (.tmp rfl (.nil)))) (λw' h'=>⟨gp,by rw[if_pos h0,h0,Yu];rfl,trivial,by rw[if_pos h0,Yu];exact h'.ent aEt⟩)
theorem c19(w:World):CR 19 #[] w (.agg #[.int .i64 256,.slice none 0 0]):=by
 refine eN0 Tryz.func19 Tryz.ntmps19 ?_
 refine aU2 ?_
 refine oAl (λb1 _=>?_) Zc
 refine aU3 ?_
 refine o_p (QD (cs:=[_,_]) rfl rfl Qd9 Zc rfl) rfl (aU2 ?_)
 exact Qf (rs:=[.cell 0 24]) rfl (.cell rfl QaF aPk rfl (.nil)) (λw' h'=>⟨by rfl,h'.below⟩)
end Go.Proofs
namespace Gx
open Go Go.RowKit
theorem Vl.rwI{w:World}{a:Option Addr}{u:List Int}(h:Vl w a (u.map nv)):Rw inV 1 w [] a u:=by
 refine⟨λhn=>?_⟩;obtain⟨b,o,e,h2⟩:=h.at_ (by rw[List.length_map];exact hn);refine⟨b,o,e,λi hi=>?_⟩;have h3:=h2 i (by rw[List.length_map];exact hi);have e9:((u.map nv)[i]?).toList=inV (nth u i):=by rw[List.getElem?_map,QY hi];rfl
 rw[e9]at h3;exact h3
end Gx
namespace Go.Proofs
open Go Go.RowKit Gx
attribute [local irreducible] Go.Calls Gx.S Gx.O Gx.D Gx.OpP Gx.OpQ Gx.OpH
set_option maxRecDepth 20000
theorem Qrq:QH Tryz.prog 56=true:=by kernel_rfl
instance:TFn Tryz.prog 57:=⟨by kernel_rfl⟩
instance:TFn Tryz.prog 55:=⟨by kernel_rfl⟩
theorem c55(w:World)(ua:Option Addr)(uc:Nat)(u:List Int)(q:Nat)(cv:Array Value)(es:List Int)(hu:Vl w ua (u.map nv))(hum:u.length<=100000)(hq:QH Tryz.prog q=true)(he:es.length=u.length)(hc:∀k w1,k<u.length->HS w [] [] w1->Calls Tryz.prog q (#[]++[.int .i64 (k:Int),.int .i64 (u.getD k 0)].toArray++cv) w1 λen w2=>en=.returned (.int .i64 (es.getD k 0))/\Below w1.heap.size w1 w2):CR 55 #[.slice ua u.length uc,.func (.func q) #[] cv] w (.tuple #[.int .i64 (QU es 0).1,.int .i64 (QU es 0).2]):=by
 refine eN2 Tryz.func55 Tryz.ntmps55 ?_
 refine Z5 ?_
 refine Qt (α:=Nat) [4,5,6,7,8,11,12,13,14,15,16,17,18,19,20,21,22,23,24] (λk=>[(11,.int .i64 (k:Int))]) (λ_=>HS w [] []) (λk=>k<=u.length/\QU es 0=QU (es.drop k) k) (λk=>u.length-k) 0 ⟨om,rfl⟩ aSx (λw h=>h.ent aEt) (λk hkk=>?_)
 obtain⟨hk1,hk2⟩:=hkk
 refine aU5 ?_
 refine sCd rfl (λh1=>?_) λh1=>?_
 ·have hk:k<u.length:=by omega
  refine aU6 ?_
  refine o_p (Qa rfl rfl rfl QB (k) om om (hu.some (by rw[List.length_map];omega))) rfl (o_q (Qc rfl rfl Xq ((hu.rd (QaX hk)))) rfl (aU8 ?_))
  refine o_q (X3 rfl rfl hq rfl (λw1 h1=>hc k w1 om (h1.ent aEt))) rfl (aU7 ?_)
  refine sCd rfl (λh2=>?_) λh2=>?_
  ·refine aU7 ?_
   exact Qf (rs:=[.tmp 4,.tmp 5]) rfl (.tmp rfl (.tmp rfl (.nil))) (λw' h'=>⟨by simp only[QV];rw[hk2,Xp om,if_neg (by assumption)],h'.below⟩)
  refine aT4 ?_
  refine aU2 ?_
  exact sBk (k+1) om ⟨om,by rw[hk2,Xp om,if_pos (by assumption)]⟩
 refine Qi rfl ?_
 refine aU5 ?_
 exact Qf (rs:=[.tmp 4,.tmp 5]) rfl (.tmp rfl (.tmp rfl (.nil))) (λw' h'=>⟨by simp only[QV];rw[hk2,Qcp om],h'.below⟩)
theorem c56(w:World)(bS bU i:Nat)(a:Option Addr)(cap:Nat)(l:List SItm)(ua:Option Addr)(uc:Nat)(u:List Int)(hA1:Rd w [] bS 1 (.slice a l.length cap))(hA2:Rd w [] bU 0 (.slice ua u.length uc))(hs:Rw SItm.vals 2 w [] a l)(hm:l.length<=100000)(hrg:∀k,k<l.length->256<=(nth l k).id/\(nth l k).id<=2147483647)(hasc:∀j,j<l.length->∀i,i<j->(nth l i).id<(nth l j).id)(hu:Vl w ua (u.map nv))(hum:u.length<=100000)(hi:i<u.length)(hui:(u.getD i 0)<=9223372036854775807):CR 56 #[.int .i64 (i:Int),.int .i64 (u.getD i 0),.pointer (some ⟨bS,0,none⟩),.pointer (some ⟨bU,0,none⟩)] w (.int .i64 (QhC l u i)):=by
 have hmx:0<=mx0 (u.getD i 0)/\mx0 (u.getD i 0)<=9223372036854775807:=by unfold mx0;split<;>omega
 obtain⟨hbf,hbl⟩:=QrJ (n:=mx0 (u.getD i 0)) hasc
 rw[Qq6 (λk hk=>(hrg k hk).1)]at hbf
 refine eN4 Tryz.func56 Tryz.ntmps56 ?_
 refine aU7 ?_
 refine o_q (Qc rfl rfl Qif (hA1)) rfl (aU ?_)
 refine o_p (QcS rfl rfl rfl ) rfl ?_
 refine Qm (show _=Value.int .i64 (mx0 (u.getD i 0))from by unfold mx0;first|rfl|(congr 1;split<;>split<;>omega)|congr 1) (oCq rfl (λw1 h1=>c57 w1 a cap l (mx0 (u.getD i 0)) (hs.later h1) om om (λk hk=>by have:=hrg k hk;omega)) (aU2 ?_))
 rw[hbf]
 refine aU7 ?_
 refine oCq rfl (λw1 h1=>c33 w1 _ _) (aU3 ?_)
 refine oOr 9 21 30 rfl
  (λhg1 _=>by
   refine aU ?_
   refine o_q (Qc rfl rfl XN (hA2)) rfl (aT4 ?_)
   refine aU ?_
   refine o_p (QcS rfl rfl rfl ) rfl ?_
   refine Qm (show _=Value.int .i64 ((i-1:Nat):Int)from by congr 1;split<;>omega) (aU ?_)
   refine o_p (Qa rfl rfl rfl QB (i-1) om om (hu.some (by rw[List.length_map];omega))) rfl (aU ?_)
   refine o_q (Qc rfl rfl Xq ((hu.rd (QaX (k:=i-1) om)))) rfl (aU4 ?_)
   exact oJf 9 30)
  (λhg3 _=>by
   refine aU8 ?_
   exact oJt 9 30) ?_
 refine oCq rfl (λw1 h1=>c33 w1 _ _) (o_h (Qd (cs:=[_,_]) rfl rfl XI Yv rfl rfl rfl) rfl (λb5 _=>oCq rfl (λw1 h1=>f30 h1 aPk (by rfl) (by rfl) (by decide)) (aU2 ?_)))
 exact rV (h:=by unfold QhC;simp only[QV,Xm,cond_eq_ite];grind)
theorem c24(w:World)(nx:Int)(a:Option Addr)(cap:Nat)(l:List SItm)(ua:Option Addr)(uc:Nat)(u:List Int)(hs:Rw SItm.vals 2 w [] a l)(hm:l.length<=100000)(hb:∀x∈l,x.by_.length<=100000)(hu:Vl w ua (u.map nv))(hum:u.length<=100000)(hui:∀x∈u,x<=9223372036854775807):CE 24 #[.agg #[.int .i64 nx,.slice a l.length cap],.slice ua u.length uc] w [] (λg:(Option Addr×Nat)×(Option Addr×Nat)=>.tuple #[.agg #[.int .i64 (Qc3 nx l u).nx,.slice g.1.1 (Qc3 nx l u).l.length g.1.2],.slice g.2.1 (Qc3 nx l u).g.length g.2.2,.int .i64 (Qf8 nx l u)]) (λg=>True) λg=>[.own (.slice g.1.1 (Qc3 nx l u).l.length g.1.2) 61 2 (Qc3 nx l u).l.length ((Qc3 nx l u).l.flatMap SItm.vals),.own (.slice g.2.1 (Qc3 nx l u).g.length g.2.2) 3 1 (Qc3 nx l u).g.length ((Qc3 nx l u).g.map nv)]:=by
 refine eN2 Tryz.func24 Tryz.ntmps24 ?_
 refine aU2 ?_
 refine oBx λb1 _=>?_
 refine oBx λb2 _=>?_
 refine oAl (λb3 _=>?_) Zc
 refine aU6 ?_
 refine oCq rfl (λw1 h1=>c31 w1 nx a cap l (hs.later h1) hm hb) (aU8 ?_)
 refine Xe (α:=Unit) [7,16,17,18,19,20,21] (λ_=>[(7,.int .i64 (Qf8 nx l u))]) (λ_=>HS w [] [.blk b1 24 2 [.int .i64 nx,.slice a l.length cap],.blk b2 52 1 [.slice ua u.length uc],.blk b3 24 2 [.int .i64 0,.slice none 0 0]]) (λ_=>True) ?_ ?_
 ·skip
  refine sCd rfl (λh4=>?_) λh4=>?_
  ·have h0:(QX nx l).2=0:=h4
   have hce:Qf8 nx l u=Qpf l u:=by unfold Qf8;rw[if_pos h0]
   obtain⟨hnx,hl60,hit9,hpl9⟩:=YS h0
   refine aU3 ?_
   refine oCq rfl (λw1 h1=>c55 w1 ua uc u 56 _ (QdE l u) (hu.later h1) hum Qrq (Qng l u) (λk w2 hk h2=>by have h9:=c56 w2 b1 b2 k a cap l ua uc u ((h1.rd_blk (i:=1) aPk rfl (by simp)).later h2 (by simp)) ((h1.rd_blk (i:=0) aPk rfl (by simp)).later h2 (by simp)) ((hs.later h1).later h2) hm (λq hq=>by have:=Qdr (hit9 q hq);omega) (QmH hit9) ((hu.later h1).later h2) hum hk (hui _ (XH hk));rw[QnM hk];exact h9)) (aU5 ?_)
   exact Qo () trivial (by(try dsimp only);rw[hce];exact aSx) (λw h=>h.ent aEt)
  have h0:¬(QX nx l).2=0:=h4
  have hce:Qf8 nx l u=(QX nx l).2:=by unfold Qf8;rw[if_neg h0]
  refine aU ?_
  exact Qo () trivial (by(try dsimp only);rw[hce];exact aSx) (λw h=>h.ent aEt)
 intro _ _
 refine aU6 ?_
 refine sCd rfl (λh5=>?_) λh5=>?_
 ·have h1e:¬Qf8 nx l u=0:=h5
  have hT:Qc3 nx l u=⟨0,[],[]⟩:=by unfold Qc3;rw[if_neg h1e]
  refine aU2 ?_
  refine o_p (QD (cs:=[_,_]) rfl rfl Qd9 Zc rfl) rfl (aU5 ?_)
  exact Qf (rs:=[.cell 4 24,.tmp 5,.tmp 6]) rfl (.cell rfl QaF aPk rfl (.tmp rfl (.tmp rfl (.nil)))) (λw' h'=>⟨((none,0),(none,0)),by rw[hT];rfl,trivial,by rw[hT];exact((h'.own_nil 61 2).own_nil 3 1).ent aEt⟩)
 have h1e:Qf8 nx l u=0:=h5
 have hT:Qc3 nx l u=⟨nx,Qbj u l,Qbe u l⟩:=by unfold Qc3;rw[if_pos h1e]
 refine aU5 ?_
 refine o_p (QD (cs:=[_,_]) rfl rfl Qd9 Zc rfl) rfl (oAl (λb6 _=>?_) Zc)
 refine aU15 ?_
 refine Qg (L':=[(3,_),(4,_),(5,_),(6,_),(8,_),(9,_),(30,_),(31,_),(32,_)]) aSx (λ_ h=>h) ?_
 refine Qt (α:=Nat×(Option Addr×Nat)×(Option Addr×Nat)) [9,11,32,33,34,35,36,37,38,39,40,41,42,43,44,45,46,47,48,49,50,51] (λy=>[(32,.int .i64 (y.1:Int)),(9,.slice y.2.2.1 (Qbe u (l.take y.1)).length y.2.2.2)]) (λy=>HS w [] [.blk b6 24 2 [.int .i64 nx,.slice y.2.1.1 (Qbj u (l.take y.1)).length y.2.1.2],.own (.slice y.2.1.1 (Qbj u (l.take y.1)).length y.2.1.2) 61 2 (Qbj u (l.take y.1)).length ((Qbj u (l.take y.1)).flatMap SItm.vals),.own (.slice y.2.2.1 (Qbe u (l.take y.1)).length y.2.2.2) 3 1 (Qbe u (l.take y.1)).length ((Qbe u (l.take y.1)).map nv),.blk b1 24 2 [.int .i64 nx,.slice a l.length cap],.blk b2 52 1 [.slice ua u.length uc],.blk b3 24 2 [.int .i64 0,.slice none 0 0]]) (λy=>y.1<=l.length) (λy=>l.length-y.1) (0,(none,0),(none,0)) (Nat.zero_le _) aSx (λw h=>((h.own_nil 61 2).own_nil 3 1).ent aEt) (λ⟨k,ga,gb9⟩hk1=>?_)
 dsimp only
 simp only[]at hk1
 refine aU5 ?_
 refine sCd rfl (λh7=>?_) λh7=>?_
 ·have hk:k<l.length:=by omega
  have hks:=Qlg (u:=u) hk
  have hgs:=Qk0 (u:=u) hk
  have hkl:=Qo6 u (l.take k)
  have hgl:=Qox u (l.take k)
  rw[List.length_take]at hkl hgl
  refine aU5 ?_
  refine o_p (Qa rfl rfl rfl X6 (k) om om (Rw.some hs om)) rfl (o_q (Qu _ rfl rfl Qae rfl (Rw.rd hs hk)) rfl (oAl (λb8 _=>?_) QaC))
  refine aU7 ?_
  refine oCq rfl (λw1 h1=>c58 w1 ua uc u _ (hu.later h1).rwI hum) (aU ?_)
  refine sCd rfl (λh9=>?_) λh9=>?_
  ·have hmu:(nth l k).id∈u:=h9
   rw[if_pos hmu]at hks hgs
   refine aU4 ?_
   refine o_h (Qd (cs:=[_,_]) rfl rfl X6 QaC rfl rfl rfl) rfl (λb10 _=>o_h (Qy [_,_] rfl rfl rfl X6 Tryz.underlying22 QaC rfl aPk (Q5 aPk) rfl (sv1 (nth l k)) om (by simp only[maxLen];omega)) rfl (λb11 _=>aT6 ?_))
   refine aU2 ?_
   exact QR (k+1,b11,gb9) (by(try simp only[]);omega) (by(try simp only[]);omega) (by dsimp only;rw[hgs];exact aSx) (λw h=>by dsimp only;rw[hks,hgs,List.length_append,XG];exact h.ent aEt)
  have hmu:¬(nth l k).id∈u:=h9
  rw[if_neg hmu]at hks hgs
  refine aU4 ?_
  refine o_h (Qd (cs:=[_]) rfl rfl QB Yo rfl rfl rfl) rfl (λb12 _=>o_h (Qy [_] rfl rfl rfl QB Tryz.underlying52 Yo rfl aPk (Q5 aPk) rfl (by intro u hu;simp only[List.mem_cons,List.mem_nil_iff,or_false]at hu;subst hu;rfl) om (by simp only[maxLen];omega)) rfl (λb13 _=>aT5 ?_))
  refine aU2 ?_
  exact QR (k+1,ga,b13) (by(try simp only[]);omega) (by(try simp only[]);omega) (by dsimp only;rw[hgs,List.length_append];exact aSx) (λw h=>by dsimp only;rw[hks,hgs,List.length_append,List.map_append];exact h.ent aEt)
 obtain rfl:k=l.length:=om
 rw[List.take_length]
 refine Qi rfl ?_
 refine aU8 ?_
 exact Qf (rs:=[.cell 4 24,.tmp 5,.tmp 6]) rfl (.cell rfl QaF aPk rfl (.tmp rfl (.tmp rfl (.nil)))) (λw' h'=>⟨(ga,gb9),by rw[hT,h1e];rfl,trivial,by rw[hT];exact h'.ent aEt⟩)
theorem c8(w:World)(nx:Int)(a:Option Addr)(cap:Nat)(l:List SItm)(hs:Rw SItm.vals 2 w [] a l)(hm:l.length<=100000)(hb:∀x∈l,x.by_.length<=100000):CE 8 #[.agg #[.int .i64 nx,.slice a l.length cap]] w [] (λg:Option Addr×Nat=>.agg #[.int .i64 nx,.slice g.1 l.length g.2]) (λg=>True) λg=>[.own (.slice g.1 l.length g.2) 61 2 l.length (l.flatMap SItm.vals)]:=by
 refine eN1 Tryz.func8 Tryz.ntmps8 ?_
 refine aU2 ?_
 refine oBx λb1 _=>?_
 refine oAl (λb2 _=>?_) Zc
 refine aU2 ?_
 refine Qaa [.blk b1 24 2 [.int .i64 nx,.slice a l.length cap]] [7] Qx ?_
 refine dFa 0 ?_
 refine dLd 1 [[]] ?_
 refine dFa 3 ?_
 refine dLd 4 [[]] ?_
 refine dH 2 rfl (Q9 rfl X6) (λb3 _=>dH 5 rfl (Qy (l.flatMap SItm.vals) rfl rfl rfl X6 Tryz.underlying22 QaC rfl aPk (λw h=>Rw.src sv2 hs h) (Qj sv2 l) (Xu sv1 l) om (by simp only[maxLen];omega)) (λb4 _=>dV 6 rfl (QD (cs:=[_,_]) rfl rfl Qd9 Zc rfl) (dSt 7 ?_ (hl:=(by simp only[Qe,List.length_set,List.length_cons,List.length_nil,List.length_map];omega)))))
 refine dTu [] ?_
 refine dNi ?_
 exact Qf (rs:=[.cell 2 24]) rfl (.cell rfl QaF aPk rfl (.nil)) (λw' h'=>⟨b4,by simp only[QV,Nat.zero_add];rfl,trivial,by have h2:=h';simp only[Nat.zero_add,List.nil_append]at h2;exact h2.ent aEt⟩)
theorem c5(w:World)(nx:Int)(a:Option Addr)(cap:Nat)(l:List SItm)(hs:Rw SItm.vals 2 w [] a l)(hm:l.length<=9223372036854775807)(hb:∀x∈l,x.by_.length<=9223372036854775807):CR 5 #[.agg #[.int .i64 nx,.slice a l.length cap]] w (.bool (Qdb l)):=by
 refine eN1 Tryz.func5 Tryz.ntmps5 ?_
 refine aU2 ?_
 refine oBx λb1 _=>?_
 refine YR ?_
 refine XJ 5 8 13 rfl
  (λhg2 _=>by
   refine aU8 ?_
   exact oJt 5 13)
  (λhg4 _=>by
   refine aU4 ?_
   exact oJf 5 13) ?_
 refine aU ?_
 refine oOr 5 14 19 rfl
  (λhg6 _=>by
   refine aU8 ?_
   exact oJf 5 19)
  (λhg8 _=>by
   refine aU4 ?_
   exact oJt 5 19) ?_
 refine aU ?_
 refine sCd rfl (λh10=>?_) λh10=>?_
 ·have h0:Qlr l.length=false:=by have hq:=h10;unfold Qlr;simp only[Bool.not_eq_false',Bool.or_eq_true,Bool.and_eq_true,decide_eq_true_eq];omega
  have hf:Qdb l=false:=by unfold Qdb;rw[h0];rfl
  refine aU4 ?_
  exact rV (h:=by rw[hf];rfl)
 have h0:Qlr l.length=true:=by have hq:=h10;unfold Qlr;simp only[Bool.not_eq_true',Bool.or_eq_false_iff,Bool.and_eq_false_iff,decide_eq_false_iff_not];omega
 refine aU7 ?_
 refine Qt (α:=Nat) [2,3,20,21,22,23,24,25,26,27,28,29,30,31,32,33,34] (λk=>[(3,.int .i64 (k:Int))]) (λ_=>_) (λk=>k<=l.length/\(l.take k).all (λx=>decide (x.by_.length<=300))=true) (λk=>l.length-k) 0 ⟨Nat.zero_le _,rfl⟩ aSx (λw h=>h) (λk hkk=>?_)
 obtain⟨hk1,hk2⟩:=hkk
 refine aU9 ?_
 refine sCd rfl (λh11=>?_) λh11=>?_
 ·have hk:k<l.length:=by omega
  have hst:=Qk2 (p:=λx=>decide (x.by_.length<=300)) hk
  have hgm:(nth l k).by_.length<=9223372036854775807:=hb _ (XH hk)
  refine aU8 ?_
  refine o_p (Qa rfl rfl rfl X6 (k) om om (Rw.some hs om)) rfl (aU ?_)
  refine o_q (Qc rfl rfl Y8 ((hs.rdj 1 hk rfl))) rfl (o_p (QN rfl rfl Tryz.underlying9) rfl (aU2 ?_))
  refine sCd rfl (λh12=>?_) λh12=>?_
  ·have hbd:¬(nth l k).by_.length<=300:=by have hq:=h12;omega
   have hf:Qdb l=false:=by unfold Qdb;rw[Qor (p:=λx=>decide (x.by_.length<=300)) hk (decide_eq_false hbd),Bool.and_false]
   refine aU4 ?_
   exact rV (h:=by rw[hf];rfl)
  have hbd:(nth l k).by_.length<=300:=by have hq:=h12;omega
  refine aT5 ?_
  refine aU2 ?_
  exact QR (k+1) om ⟨om,by rw[hst,hk2,decide_eq_true hbd];rfl⟩ aSx (λw h=>h)
 obtain rfl:k=l.length:=om
 rw[List.take_length]at hk2
 have hf:Qdb l=true:=by unfold Qdb;rw[h0,hk2];rfl
 refine Qi rfl ?_
 refine aU4 ?_
 exact rV (h:=by rw[hf];rfl)
theorem c20(w:World):CR 20 #[] w (.agg #[.int .i64 10,.int .i64 10,.bool false,.bool false,.slice none 0 0,.slice none 0 0]):=by
 refine eN0 Tryz.func20 Tryz.ntmps20 ?_
 refine aU2 ?_
 refine oAl (λb1 _=>?_) YJ
 refine aU3 ?_
 refine o_p (QD (cs:=[_,_,_,_,_,_]) rfl rfl Qbm YJ rfl) rfl (aU2 ?_)
 exact Qf (rs:=[.cell 0 50]) rfl (.cell rfl ZA aPk rfl (.nil)) (λw' h'=>⟨by rfl,h'.below⟩)
theorem c21(w:World):CE 21 #[] w [] (λg:Option Addr×Nat=>.agg #[.int .i64 10,.int .i64 10,.bool false,.bool true,.slice g.1 1 g.2,.slice none 0 0]) (λg=>True) λg=>[.own (.slice g.1 1 g.2) 102 4 1 [.int .i64 0,.int .i64 0,.int .i64 1,.int .i64 1]]:=by
 refine eN0 Tryz.func21 Tryz.ntmps21 ?_
 refine aU2 ?_
 refine oAl (λb1 _=>?_) YJ
 refine aU3 ?_
 refine o_p (QD (cs:=[_,_,_,_]) rfl rfl QhB XS rfl) rfl (o_h (Qd (cs:=[_,_,_,_]) rfl rfl YM XS rfl rfl rfl) rfl (λb2 _=>o_p (QD (cs:=[_,_,_,_,_,_]) rfl rfl Qbm YJ rfl) rfl (aU2 ?_)))
 exact Qf (rs:=[.cell 0 50]) rfl (.cell rfl ZA aPk rfl (.nil)) (λw' h'=>⟨(some ⟨b2,0,none⟩,1),rfl,trivial,(HS.own_shut (cap:=1) (n:=1) (sz:=4) (h'.ent (Bs:=[.blk b2 102 4 [.int .i64 0,.int .i64 0,.int .i64 1,.int .i64 1]]) aEt) rfl om (by decide)).ent aEt⟩)
end Go.Proofs
namespace Gx
open Go Go.RowKit
theorem Qji{P:Program}{fits:TypeId->Bool}{d e c c' off n:Nat}(h:c<=c')(h1:rowAt P fits d e c off n=true):rowAt P fits d e c' off n=true:=by
 cases d with
 | zero=>exact h1
 | succ d=>
  unfold rowAt at h1 ⊢;simp only[]at h1 ⊢;split at h1
  ·cases h1
  ·rename_i h0;rw[if_neg h0];simp only[Bool.or_eq_true,Bool.and_eq_true,decide_eq_true_eq]at h1 ⊢;rcases h1 with h1|h1
   ·exact .inl ⟨⟨h1.1.1,om⟩,h1.2⟩
   ·exact .inr ⟨om,h1.2⟩
theorem Qec{P:Program}:∀{d:Nat}{e c c' off u n:Nat},c<=c'->liesAt P d e c off u n=true->liesAt P d e c' off u n=true
 | 0,_,_,_,_,_,_,_,h=>h
 | d+1,e,c,c',off,u,n,hc,h=>by
  unfold liesAt at h ⊢;simp only[Bool.or_eq_true]at h ⊢;rcases h with h|h
  ·exact .inl (Qji hc h)
  ·refine .inr ?_;split at h
   ·exact Qec hc h
   ·cases h
section
variable{P:Program}{o:Oper}{L:Qk}{w0:World}{M:List Nat}{As As':List HA}
theorem QhZ{src dst te b tot:Nat}{bt:TypeId}{x:Operand}{cs:List Value}(ho:o.op=.convert src dst x)(hx:ev L x=some (.pointer (some ⟨b,0,none⟩)))(hs:QiX P src te)(hd:P.underlying dst=some .unsafePointer)(hp:QC As (.blk b bt tot cs) As')(h0:0<tot):OpQ P o L (HS w0 M As) (.pointer (some ⟨b,0,none⟩)):=by
 intro ρ w hρ hw;obtain⟨h1,j,h2,h3⟩:=hs;obtain⟨k,hk,this,_⟩:=(hw.blk_get hp).shape;simp only[execOp,ho,hρ _ _ hx,Sem.run_bind,Lib.run_to_unsafe w (⟨b,0,none⟩:Addr) h1 hd h2 h3 this (show 0<k by omega),Result.andThen_ok,Sem.run_pure];exact⟨rfl,Below.refl _ _⟩
theorem Qgd{src dst te b tot:Nat}{bt:TypeId}{x:Operand}{cs:List Value}(ho:o.op=.convert src dst x)(hx:ev L x=some (.pointer (some ⟨b,0,none⟩)))(hs:P.underlying src=some .unsafePointer)(hd:QiX P dst te)(hp:QC As (.blk b bt tot cs) As')(hl:liesAt P P.depth bt (tot/P.cellsOf bt) 0 te 1=true):OpQ P o L (HS w0 M As) (.pointer (some ⟨b,0,none⟩)):=by
 intro ρ w hρ hw;obtain⟨h1,j,h2,h3⟩:=hd;obtain⟨k,hk,this,_⟩:=(hw.blk_get hp).shape;simp only[execOp,ho,hρ _ _ hx,Sem.run_bind,Lib.run_from_unsafe w (⟨b,0,none⟩:Addr) hs h1 h2 this (Qec (Nat.div_le_div_right hk) hl),Result.andThen_ok,Sem.run_pure];exact⟨rfl,Below.refl _ _⟩
def isNE(P:Program)(f:FuncId):Prop:=∃fn,P.funcs[f]?=some fn/\(fn.name== "runtime.NumGoroutine")=false/\fn.body.isNone=true/\Extern.findNext fn=none/\Extern.find fn=some Extern.AbiNoEscape.same
theorem Qjs{f:FuncId}{x:Operand}{v:Value}{at':Array TypeId}{C:World->Prop}(ho:o.op=.call {callee:=.value (.func f),args:=#[x],argTypes:=at'})(hx:ev L x=some v)(hf:isNE P f):OpQ P o L C v:=by
 intro ρ w hρ hw;obtain⟨fn,h1,h2,h3,h4,h5⟩:=hf;have hcall:=run_callFunc_extern h1 h2 h3 h4 h5 #[v] w;rw[Lib.run_noEscape w v]at hcall
 have:(execOp ρ o).run P w=.ok (.value v) w:=by
  unfold execOp;simp only[ho,resolve,Sem.run_bind,hρ (.func f) _ rfl,Deferred.ofValue,Sem.run_pure,Result.andThen_ok,invoke,List.map_toArray,List.map_cons,List.map_nil,hρ _ _ hx,Array.empty_append,Array.append_empty,hcall]
 rw[this];exact⟨rfl,Below.refl _ _⟩
theorem QhQ{x:Operand}{at':Array TypeId}{a:Addr}{n cap:Nat}(ho:o.op=.call {callee:=.builtin .unsafeSliceData,args:=#[x],argTypes:=at'})(hx:ev L x=some (.slice (some a) n cap))(hc:cap≠0):OpP P o L (.pointer (some a)):=by
 intro ρ w hρ;simp only[execOp,ho,resolve,Sem.run_bind,Sem.run_pure,Result.andThen_ok,invoke,builtin,List.map_toArray,List.map_cons,List.map_nil,hρ _ _ hx,Lib.run_unsafeSliceData_row w at' o.type a n cap hc]
theorem Qfd{pt it e g cap:Nat}{x y:Operand}{l:List UInt8}(ho:o.op=.call {callee:=.builtin .unsafeString,args:=#[x,y],argTypes:=#[pt,it]})(hx:ev L x=some (.pointer (some ⟨g,0,none⟩)))(hy:ev L y=some (.int .i64 (l.length:Int)))(ht:P.underlying pt=some (.pointer e))(hce:P.cellsOf e=1)(h0:l≠[])
  (hp:QC As (.own (.slice (some ⟨g,0,none⟩) l.length cap) e 1 l.length (l.map bv)) As'):OpH P o L (HS w0 M As) (λ_:Unit=>.string (bs l)) (λ_=>True) (λ_=>HS w0 M As'):=by
 intro ρ w hρ hw;have hl:0<l.length:=by cases l with|nil=>exact absurd rfl h0|cons=>simp
 obtain⟨g',e1,_,h1,h2,h3,hb⟩:=hw.own_blk hl hp;injection e1 with e1
 injection e1 with e1
 subst e1;have hk:=hb.head;obtain⟨k9,hk9,hsh,_⟩:=hk.shape
 have hr:=Lib.run_unsafeString_row (P:=P) w pt it o.type e ht hce g k9 hsh l h0 om (by simp only[maxLen]at h2;omega) (λj x hx=>by
  rw[XR];show w.cell? ⟨g,0+j,none⟩=_;rw[Nat.zero_add];exact Xl.cell hk (by rw[List.getElem?_map,hx];rfl))
 have hx':(execOp ρ o).run P w=.ok (.value (.string (bs l))) (w.freeze ⟨g,0,none⟩ l.length):=by
  simp only[execOp,ho,resolve,Sem.run_bind,Sem.run_pure,Result.andThen_ok,invoke,builtin,List.map_toArray,List.map_cons,List.map_nil,hρ _ _ hx,hρ _ _ hy,hr];rfl
 rw[hx'];refine⟨(),rfl,trivial,?_⟩
 have hf:∀k,k≠g->(w.freeze ⟨g,0,none⟩ l.length).heap[k]?=w.heap[k]?:=λk hne=>by
  simp only[World.freeze];split
  ·rfl
  ·simp[Array.getElem?_modify,Ne.symm hne]
 have h9:(w.freeze ⟨g,0,none⟩ l.length).os=w.os/\(w.freeze ⟨g,0,none⟩ l.length).tape=w.tape/\(w.freeze ⟨g,0,none⟩ l.length).output=w.output/\(w.freeze ⟨g,0,none⟩ l.length).heap.size=w.heap.size:=by
  simp only[World.freeze];split<;>simp
 exact(hb.swap (B:=⟨[g],λ_=>True,λ_ _ _ h=>h⟩) (w':=w.freeze ⟨g,0,none⟩ l.length) (λ_ h=>h) h9.1 h9.2.1 h9.2.2.1 h9.2.2.2 (λk hkk=>hf k (by simpa[HA.fp_blk]using hkk)) trivial).tail
theorem Qcz{t xt e by' n:Nat}{s x:Operand}{v:Value}{z xs:List Value}{l:List UInt8}(ho:o.op=.call {callee:=.builtin .append,args:=#[s,x],argTypes:=#[t,xt]})(hs:ev L s=some v)(hx:ev L x=some (.string (bs l)))(ht:tsl P t=some (e,1,by'))(hxt:P.underlying xt=some .string)(hz:Xy P e=some z)(hzs:z.length=1)
  (hp:QC As (.own v e 1 n xs) As')(hroom:(n+l.length)*by'<=140737488355328)(hmax:n+l.length<=maxLen) :
  OpH P o L (HS w0 M As) (λg:Option Addr×Nat=>.slice g.1 (n+l.length) g.2) (λ_=>True) (λg=>HS w0 M (.own (.slice g.1 (n+l.length) g.2) e 1 (n+l.length) (xs++l.map bv)::As')):=by
 intro ρ w hρ hw;refine(Qhq ho hs hx ht hxt hz hzs hp hroom hmax ρ w hρ hw).mono λu w' hh=>?_;obtain⟨v',rfl,_,h⟩:=hh;obtain⟨a',cap',rfl,_⟩:=h.head.form;exact⟨(a',cap'),rfl,trivial,h⟩
end
end Gx
/-
  DERIVED: THE SHELF's CONTRACTS AT THIS DUMP,IN PLAIN WORDS (tools/lay-plain.mjs out of 'TryzShelf.lean',which tools/lay-shelf.mjs wrote): THE SAME DECLARATIONS UNDER THE SAME NAMES: 'import','namespace','open','def','theorem' AND NOTHING ELSE: no command of the shelf's: FOR A HAND-IN. Each laying: the table of numbers ('.._ren') and one theorem,a field a fact of the dump's own or the kernel's comparison;each contract: ONE APPLICATION.
-/
namespace Go.Proofs
open Go.Shelf
def Tryz.lays105_ren:Go.Shelf.Ren:=⟨λ |105=>54|212=>96|99=>97|165=>98|166=>93|170=>99|169=>95|263=>137|264=>138|206=>139|240=>135|241=>140|276=>183|277=>185|n=>n,λ |9=>9|3=>3|4=>4|20=>20|0=>0|46=>163|109=>164|5=>5|72=>157|76=>160|51=>173|146=>206|53=>208|148=>209|70=>154|37=>155|75=>159|127=>205|164=>234|80=>162|n=>n,λ |n=>n⟩
theorem Tryz.lays105:Go.Proofs.Lays.n105 Tryz.prog Tryz.lays105_ren:={
  mixed:=by kernel_rfl
  f99:=Tryz.func97.trans (congrArg some (by kernel_rfl))
  f105:=Tryz.func54.trans (congrArg some (by kernel_rfl))
  f165:=Tryz.func98.trans (congrArg some (by kernel_rfl))
  f166:=Tryz.func93.trans (congrArg some (by kernel_rfl))
  f169:=Tryz.func95.trans (congrArg some (by kernel_rfl))
  f170:=Tryz.func99.trans (congrArg some (by kernel_rfl))
  f206:=Tryz.func139.trans (congrArg some (by kernel_rfl))
  f212:=Tryz.func96.trans (congrArg some (by kernel_rfl))
  f240:=Tryz.func135.trans (congrArg some (by kernel_rfl))
  f241:=Tryz.func140.trans (congrArg some (by kernel_rfl))
  f263:=Tryz.func137.trans (congrArg some (by kernel_rfl))
  f264:=Tryz.func138.trans (congrArg some (by kernel_rfl))
  f276:=Tryz.func183.trans (congrArg some (by kernel_rfl))
  f277:=Tryz.func185.trans (congrArg some (by kernel_rfl))
  t0:=Tryz.underlying0
  a0:=Tryz.isAgg0
  z0:=Tryz.sizeOf0
  v0:=Tryz.zeroValue0
  t3:=Tryz.underlying3
  a3:=Tryz.isAgg3
  z3:=Tryz.sizeOf3
  v3:=Tryz.zeroValue3
  t4:=Tryz.underlying4
  a4:=Tryz.isAgg4
  z4:=Tryz.sizeOf4
  v4:=Tryz.zeroValue4
  t5:=Tryz.underlying5
  a5:=Tryz.isAgg5
  z5:=Tryz.sizeOf5
  v5:=Tryz.zeroValue5
  t9:=Tryz.underlying9
  a9:=Tryz.isAgg9
  z9:=Tryz.sizeOf9
  v9:=Tryz.zeroValue9
  t20:=Tryz.underlying20
  a20:=Tryz.isAgg20
  z20:=Tryz.sizeOf20
  v20:=Tryz.zeroValue20
  t37:=Tryz.underlying155
  a37:=Tryz.isAgg155
  z37:=Tryz.sizeOf155
  v37:=Tryz.zeroValue155
  t46:=Tryz.underlying163
  a46:=Tryz.isAgg163
  z46:=Tryz.sizeOf163
  v46:=Tryz.zeroValue163
  t51:=Tryz.underlying173
  a51:=Tryz.isAgg173
  z51:=Tryz.sizeOf173
  v51:=Tryz.zeroValue173
  t53:=Tryz.underlying208
  a53:=Tryz.isAgg208
  z53:=Tryz.sizeOf208
  v53:=Tryz.zeroValue208
  t70:=Tryz.underlying154
  a70:=Tryz.isAgg154
  z70:=Tryz.sizeOf154
  v70:=Tryz.zeroValue154
  t72:=Tryz.underlying157
  a72:=Tryz.isAgg157
  z72:=Tryz.sizeOf157
  v72:=Tryz.zeroValue157
  t75:=Tryz.underlying159
  a75:=Tryz.isAgg159
  z75:=Tryz.sizeOf159
  v75:=Tryz.zeroValue159
  t76:=Tryz.underlying160
  a76:=Tryz.isAgg160
  z76:=Tryz.sizeOf160
  v76:=Tryz.zeroValue160
  t109:=Tryz.underlying164
  a109:=Tryz.isAgg164
  z109:=Tryz.sizeOf164
  v109:=Tryz.zeroValue164
  t127:=Tryz.underlying205
  a127:=Tryz.isAgg205
  z127:=Tryz.sizeOf205
  v127:=Tryz.zeroValue205
  t146:=Tryz.underlying206
  a146:=Tryz.isAgg206
  z146:=Tryz.sizeOf206
  v146:=Tryz.zeroValue206
  t148:=Tryz.underlying209
  a148:=Tryz.isAgg209
  z148:=Tryz.sizeOf209
  v148:=Tryz.zeroValue209
  t164:=Tryz.underlying234
  a164:=Tryz.isAgg234
  z164:=Tryz.sizeOf234
  v164:=Tryz.zeroValue234}
theorem Tryz.Builder_Extra_105:Builder.Extra Tryz.prog Tryz.lays105_ren:={
  sizeBuilder:=by kernel_rfl
  liesBuilder:=by kernel_rfl
  t5:=Tryz.underlying5
  a5:=Tryz.isAgg5
  z5:=Tryz.sizeOf5
  v5:=Tryz.zeroValue5
  infoByte:=by kernel_rfl
  cellsByte:=by kernel_rfl
  sizeByte:=by kernel_rfl
  neB5:=by decide}
open Go.RowKit Go.Lib in
theorem Tryz.strings_Repeat(s:ByteArray)(c:Nat)(w:World)(hc:c<=9223372036854775807)(hlen:s.size*c<=140737488355328) :
    Calls Tryz.prog 54 #[.string s,.int .i64 c] w λe w'=>e=.returned (.string ⟨(Lib.repeatL s.data.toList c).toArray⟩)/\Below w.heap.size w w':=Any.strings_Repeat Tryz.lays105 Tryz.Builder_Extra_105 s c w hc hlen
end Go.Proofs

namespace Go.Proofs
open Go Go.RowKit Gx
attribute [local irreducible] Go.Calls Gx.S Gx.O Gx.D Gx.OpP Gx.OpQ Gx.OpH
set_option maxRecDepth 20000
instance:TFd Tryz.prog 157 0 0 154:=⟨by kernel_rfl⟩
instance:TSz Tryz.prog 154 1 false:=⟨by kernel_rfl⟩
theorem QqE:tsz Tryz.prog 157=some (2,true):=by kernel_rfl
theorem Qda:QiX Tryz.prog 154 157:=QkF Tryz.underlying154 QqE (by decide)
theorem Qq9:isNE Tryz.prog 183:=⟨_,Tryz.func183,rfl,rfl,by kernel_rfl,by kernel_rfl⟩
theorem Qno:QH Tryz.prog 135=true:=by kernel_rfl
instance:TFd Tryz.prog 157 1 1 155:=⟨by kernel_rfl⟩
theorem Qri(w:World)(b:Nat)(v:Value)(hw:HS w (fps [.blk b 157 2 [.pointer none,v]]) [.blk b 157 2 [.pointer none,v]] w):CE 135 #[.pointer (some ⟨b,0,none⟩)] w (fps [.blk b 157 2 [.pointer none,v]]) (λg:Unit=>.tuple #[]) (λg=>True) λg=>[.blk b 157 2 [.pointer (some ⟨b,0,none⟩),v]]:=by
 refine eW1 Tryz.func135 Tryz.ntmps135 hw ?_
 refine aU6 ?_
 refine o_p (QgK rfl rfl rfl Qda) rfl (aU ?_)
 refine sCd rfl (λh1=>?_) λh1=>?_
 ·refine aU3 ?_
  refine o_q (QhZ rfl rfl Qda Tryz.underlying234 aPk (by decide)) rfl (o_q (Qjs rfl rfl Qq9) rfl (o_q (Qgd rfl rfl Tryz.underlying234 Qda aPk (by kernel_rfl)) rfl (aU4 ?_)))
  exact QcM rfl (λw' h'=>⟨(),rfl,trivial,h'.ent aEt⟩)
 exfalso;first|omega|(simp at h1;done)|(simp_all;done)
theorem QrB(w:World)(b:Nat)(v:Value)(hw:HS w (fps [.blk b 157 2 [.pointer (some ⟨b,0,none⟩),v]]) [.blk b 157 2 [.pointer (some ⟨b,0,none⟩),v]] w):CE 135 #[.pointer (some ⟨b,0,none⟩)] w (fps [.blk b 157 2 [.pointer (some ⟨b,0,none⟩),v]]) (λg:Unit=>.tuple #[]) (λg=>True) λg=>[.blk b 157 2 [.pointer (some ⟨b,0,none⟩),v]]:=by
 refine eW1 Tryz.func135 Tryz.ntmps135 hw ?_
 refine aU6 ?_
 refine o_p (QgK rfl rfl rfl Qda) rfl (aU ?_)
 refine sCd rfl (λh1=>?_) λh1=>?_
 ·exfalso;first|omega|(simp at h1;done)|(simp_all;done)
 refine aU7 ?_
 refine o_p (Qe7 rfl rfl rfl Qda) rfl (aU ?_)
 refine sCd rfl (λh2=>?_) λh2=>?_
 ·exfalso;first|omega|(simp at h2;done)|(simp_all;done)
 refine aU ?_
 exact QcM rfl (λw' h'=>⟨(),rfl,trivial,h'.ent aEt⟩)
theorem c93a(w:World)(b:Nat)(a:Option Addr)(n cap:Nat)(xs:List Value)(s:List UInt8)(hw:HS w (fps [.blk b 157 2 [.pointer none,.slice a n cap],.own (.slice a n cap) 5 1 n xs]) [.blk b 157 2 [.pointer none,.slice a n cap],.own (.slice a n cap) 5 1 n xs] w)(hl:n+s.length<=1000000000):CE 93 #[.pointer (some ⟨b,0,none⟩),.string (bs s)] w (fps [.blk b 157 2 [.pointer none,.slice a n cap],.own (.slice a n cap) 5 1 n xs]) (λg:Option Addr×Nat=>.tuple #[.int .i64 (s.length:Int),.nilIface]) (λg=>True) λg=>[.blk b 157 2 [.pointer (some ⟨b,0,none⟩),.slice g.1 (n+s.length) g.2],.own (.slice g.1 (n+s.length) g.2) 5 1 (n+s.length) (xs++s.map bv)]:=by
 refine eW2 Tryz.func93 Tryz.ntmps93 hw ?_
 refine aU8 ?_
 refine o_h (QT (Cs:=[.blk b 157 2 [.pointer none,.slice a n cap]]) rfl Qno rfl aPs (λw1 h1 hf=>Qri w1 b _ hf)) rfl (λ_ _=>aU9 ?_)
 refine o_h (Qcz rfl rfl rfl Q1 Tryz.underlying9 QcQ rfl aPk om (by simp only[maxLen];omega)) rfl (λb1 _=>aU7 ?_)
 refine o_p (QN rfl rfl Tryz.underlying9) rfl (aU3 ?_)
 exact Qf (rs:=[.tmp 4,.tmp 5]) rfl (.tmp rfl (.tmp rfl (.nil))) (λw' h'=>⟨b1,rfl,trivial,h'.ent aEt⟩)
theorem c93b(w:World)(b:Nat)(a:Option Addr)(n cap:Nat)(xs:List Value)(s:List UInt8)(hw:HS w (fps [.blk b 157 2 [.pointer (some ⟨b,0,none⟩),.slice a n cap],.own (.slice a n cap) 5 1 n xs]) [.blk b 157 2 [.pointer (some ⟨b,0,none⟩),.slice a n cap],.own (.slice a n cap) 5 1 n xs] w)(hl:n+s.length<=1000000000):CE 93 #[.pointer (some ⟨b,0,none⟩),.string (bs s)] w (fps [.blk b 157 2 [.pointer (some ⟨b,0,none⟩),.slice a n cap],.own (.slice a n cap) 5 1 n xs]) (λg:Option Addr×Nat=>.tuple #[.int .i64 (s.length:Int),.nilIface]) (λg=>True) λg=>[.blk b 157 2 [.pointer (some ⟨b,0,none⟩),.slice g.1 (n+s.length) g.2],.own (.slice g.1 (n+s.length) g.2) 5 1 (n+s.length) (xs++s.map bv)]:=by
 refine eW2 Tryz.func93 Tryz.ntmps93 hw ?_
 refine aU8 ?_
 refine o_h (QT (Cs:=[.blk b 157 2 [.pointer (some ⟨b,0,none⟩),.slice a n cap]]) rfl Qno rfl aPs (λw1 h1 hf=>QrB w1 b _ hf)) rfl (λ_ _=>aU9 ?_)
 refine o_h (Qcz rfl rfl rfl Q1 Tryz.underlying9 QcQ rfl aPk om (by simp only[maxLen];omega)) rfl (λb1 _=>aU7 ?_)
 refine o_p (QN rfl rfl Tryz.underlying9) rfl (aU3 ?_)
 exact Qf (rs:=[.tmp 4,.tmp 5]) rfl (.tmp rfl (.tmp rfl (.nil))) (λw' h'=>⟨b1,rfl,trivial,h'.ent aEt⟩)
theorem d95(w:World)(b q cap:Nat)(l:List UInt8)(hw:HS w (fps [.blk b 157 2 [.pointer (some ⟨b,0,none⟩),.slice (some ⟨q,0,none⟩) l.length cap],.own (.slice (some ⟨q,0,none⟩) l.length cap) 5 1 l.length (l.map bv)]) [.blk b 157 2 [.pointer (some ⟨b,0,none⟩),.slice (some ⟨q,0,none⟩) l.length cap],.own (.slice (some ⟨q,0,none⟩) l.length cap) 5 1 l.length (l.map bv)] w)(h0:l≠[])(hcap:l.length<=cap):CE 95 #[.pointer (some ⟨b,0,none⟩)] w (fps [.blk b 157 2 [.pointer (some ⟨b,0,none⟩),.slice (some ⟨q,0,none⟩) l.length cap],.own (.slice (some ⟨q,0,none⟩) l.length cap) 5 1 l.length (l.map bv)]) (λg:Unit=>.string (bs l)) (λg=>True) λg=>[]:=by
 have hl0:0<l.length:=by cases l with|nil=>exact absurd rfl h0|cons=>simp
 refine eW1 Tryz.func95 Tryz.ntmps95 hw ?_
 refine aU5 ?_
 refine Qq [10] Qx ?_
 refine dP 0 ?_
 refine dP 1 ?_
 refine dFa 2 ?_
 refine dLd 3 [[4]] ?_
 refine dV 4 rfl (QhQ rfl rfl om) (dP 5 ?_)
 refine dP 6 ?_
 refine dFa 7 ?_
 refine dLd 8 [[9]] ?_
 refine dV 9 rfl (Qz rfl rfl Tryz.underlying155) (dH 10 rfl (Qfd rfl rfl rfl Tryz.underlying205 (by kernel_rfl) h0 aPk) (λ_ _=>dTu [] ?_))
 refine dP 11 ?_
 refine dNi ?_
 exact rT rfl rfl (λw' h'=>⟨(),rfl,trivial,h'.nil⟩)
theorem c95(w:World)(b:Nat)(a:Option Addr)(cap:Nat)(l:List UInt8)(hw:HS w (fps [.blk b 157 2 [.pointer (some ⟨b,0,none⟩),.slice a l.length cap],.own (.slice a l.length cap) 5 1 l.length (l.map bv)]) [.blk b 157 2 [.pointer (some ⟨b,0,none⟩),.slice a l.length cap],.own (.slice a l.length cap) 5 1 l.length (l.map bv)] w)(h0:l≠[]):CE 95 #[.pointer (some ⟨b,0,none⟩)] w (fps [.blk b 157 2 [.pointer (some ⟨b,0,none⟩),.slice a l.length cap],.own (.slice a l.length cap) 5 1 l.length (l.map bv)]) (λg:Unit=>.string (bs l)) (λg=>True) λg=>[]:=by
  have hl:0<l.length:=by cases l with|nil=>exact absurd rfl h0|cons=>simp
  obtain⟨q,rfl,_,h1,_,_,hb⟩:=HS.own_blk hl (As':=[.blk b 157 2 [.pointer (some ⟨b,0,none⟩),.slice a l.length cap]]) aPk hw;exact d95 w b q cap l hw h0 h1
theorem c54(w:World)(c:Nat)(hc:c<=100000):CR 54 #[.string (bs [0]),.int .i64 (c:Int)] w (.string (bs (List.replicate c 0))):=by
  have h:=Tryz.strings_Repeat (bs [0]) c w om (by simp;omega)
  have e:Lib.repeatL (bs [0]).data.toList c=List.replicate c 0:=by
    have:=Lib.repeatL_replicate 0 1 c
    simpa using this
  rw[e]at h;exact h
end Go.Proofs
namespace Gx
open Go Go.RowKit
def nmB(u:List Int):List UInt8:=u.flatMap le4
theorem Yr(u:List Int):(nmB u).length=4*u.length:=by
 unfold nmB
 induction u with
 | nil=>rfl
 | cons x u ih=>rw[List.flatMap_cons,List.length_append,ih,List.length_cons];show 4+_=_;omega
theorem Qm8{u:List Int}{k:Nat}(h:k<u.length):nmB (u.take (k+1))=nmB (u.take k)++le4 (u.getD k 0):=by
 unfold nmB;rw[Xv (d:=0) h,List.flatMap_append];simp
def Qrg:List UInt8:=[83,68,83,72]
def hd0(nx n:Int):List UInt8:=Qrg++nmB [nx,n]
def QiC(nx n:Int):List UInt8:=hd0 nx n++nmB [Qk3 (hd0 nx n)]
def Qds(m:Int):Nat:=(upT m-m).toNat
def XL(x:SItm):Int:=16+(x.by_.length:Int)
def Qmp(l:List SItm)(k:Nat):List UInt8:=nmB [XD (nth l k).by_,(nth l k).id,(QO (l.take k)).2,XL (nth l k)]++(nth l k).by_++List.replicate (Qds (XL (nth l k))) 0
def XE(nx:Int)(l:List SItm)(k:Nat):List UInt8:=QiC nx (QO l).2++(List.range k).flatMap (Qmp l)
def Qbg(nx:Int)(l:List SItm):List UInt8:=XE nx l l.length
theorem Qni(l:List SItm)(k:Nat):((Qmp l k).length:Int)=upT (16+((nth l k).by_.length:Int)):=by
 unfold Qmp Qds XL;rw[List.length_append,List.length_append,Yr,List.length_replicate];unfold upT;simp only[List.length_cons,List.length_nil];omega
theorem QeQ(nx:Int)(l:List SItm)(k:Nat):XE nx l (k+1)=XE nx l k++Qmp l k:=by
 unfold XE;rw[List.range_succ,List.flatMap_append,<-List.append_assoc];simp
theorem Qdz(nx:Int)(l:List SItm):∀k,k<=l.length->((XE nx l k).length:Int)=(QO (l.take k)).2
 | 0,_=>rfl
 | k+1,h=>by
  rw[QeQ,List.length_append,ZT om];have h1:=Qdz nx l k om;have h2:=Qni l k;simp only[];omega
theorem QdR(nx:Int)(l:List SItm):((Qbg nx l).length:Int)=(QO l).2:=by
 have:=Qdz nx l l.length (Nat.le_refl _)
 rwa[List.take_length]at this
theorem QhM{l:List SItm}:∀n,n<=l.length->∀k,k<n->(QO (l.take n)).1.getD k 0=(QO (l.take k)).2
 | 0,_,k,hk=>absurd hk (Nat.not_lt_zero _)
 | n+1,hn,k,hk=>by
  rw[ZT om];have hl:=Qdo n l om;rcases Nat.lt_or_ge k n with h|h
  ·rw[List.getD_eq_getElem?_getD,List.getElem?_append_left om,<-List.getD_eq_getElem?_getD];exact QhM n om k h
  ·obtain rfl:k=n:=by omega
   rw[List.getD_eq_getElem?_getD,List.getElem?_append_right om,hl];simp
theorem Qb4{l:List SItm}{k:Nat}(h:k<l.length):(QO l).1.getD k 0=(QO (l.take k)).2:=by
 have:=QhM (l:=l) l.length (Nat.le_refl _) k h
 rwa[List.take_length]at this
def Qdp(nx:Int)(l:List SItm):List UInt8:=Qbg nx l++List.replicate (8192-(Qbg nx l).length) 0++Qbg nx l
theorem Qh2{l:List SItm}(hb:∀x∈l,x.by_.length<=100000):∀n,n<=l.length->∀k,k<=n->(QO (l.take k)).2<=(QO (l.take n)).2
  | 0,_,k,hk=>by
    obtain rfl:k=0:=by omega
    exact Int.le_refl _
  | n+1,hn,k,hk=>by
    rcases Nat.lt_or_ge k (n+1)with h|h
    · have h1:=Qh2 hb n om k om
      rw[ZT (show n<l.length by omega)]
      unfold upT
      simp only[]
      omega
    · obtain rfl:k=n+1:=by omega
      exact Int.le_refl _
end Gx
namespace Go.Proofs
open Go Go.RowKit Gx
attribute [local irreducible] Go.Calls Gx.S Gx.O Gx.D Gx.OpP Gx.OpQ Gx.OpH
set_option maxRecDepth 20000
theorem Qqv:QH Tryz.prog 103=true:=by kernel_rfl
theorem QkH:QH Tryz.prog 61=true:=by kernel_rfl
instance:TFn Tryz.prog 61:=⟨QkH⟩
theorem Qp2:Xy Tryz.prog 157=some [.pointer none,.slice none 0 0]:=by kernel_rfl
instance:TFn Tryz.prog 94:=⟨by kernel_rfl⟩
theorem QlP:QH Tryz.prog 93=true:=by kernel_rfl
theorem Qpw:QH Tryz.prog 62=true:=by kernel_rfl
instance:TFn Tryz.prog 54:=⟨by kernel_rfl⟩
theorem QrN:QH Tryz.prog 95=true:=by kernel_rfl
theorem c61(w:World)(ua:Option Addr)(uc:Nat)(u:List Int)(hu:Vl w ua (u.map nv))(hum:u.length<=1000)(hur:∀x∈u,0<=x/\x<4294967296):CR 61 #[.slice ua u.length uc] w (.string (bs (nmB u))):=by
 refine eN1 Tryz.func61 Tryz.ntmps61 ?_
 refine Qq4 ?_
 refine Qt (α:=Nat×Option Addr×Nat) [3,5,8,9,10,11,12,13,14,15,16] (λy=>[(8,.int .i64 (y.1:Int)),(3,.slice y.2.1 (nmB (u.take y.1)).length y.2.2)]) (λy=>HS w [] [.own (.slice y.2.1 (nmB (u.take y.1)).length y.2.2) 5 1 ((nmB (u.take y.1)).length) (((nmB (u.take y.1))).map bv)]) (λy=>y.1<=u.length) (λy=>u.length-y.1) (0,none,0) (Nat.zero_le _) aSx (λw h=>(h.own_nil 5 1).ent aEt) (λ⟨k,ga⟩hk1=>?_)
 dsimp only
 simp only[]at hk1
 refine aU5 ?_
 refine sCd rfl (λh1=>?_) λh1=>?_
 ·have hk:k<u.length:=by omega
  have hst:=Qm8 hk
  have hnl:=Yr (u.take k)
  rw[List.length_take]at hnl
  have hr9:=hur _ (XH (d:=0) hk)
  refine aU5 ?_
  refine o_p (Qa rfl rfl rfl QB (k) om om (hu.some (by rw[List.length_map];omega))) rfl (o_q (Qc rfl rfl Xq ((hu.rd (QaX hk)))) rfl (aU5 ?_))
  refine o_p (Qr rfl rfl Yw Yl) rfl (Qm (show _=Value.int .u32 (u.getD k 0)from by rw[Qeb,Int.emod_eq_of_lt om om]) (o_h (QT (Cs:=[.own (.slice ga.1 (nmB (u.take k)).length ga.2) 5 1 ((nmB (u.take k)).length) (((nmB (u.take k))).map bv)]) rfl Qqv rfl aPs (λw1 h1 hf=>c103 w1 ga.1 ga.2 (nmB (u.take k)) (u.getD k 0) hf om om)) rfl (λgn _=>aT5 ?_)))
  refine aU2 ?_
  exact QR (k+1,gn) (by(try simp only[]);omega) (by(try simp only[]);omega) (by dsimp only;rw[hst];exact aSx) (λw h=>by dsimp only;rw[hst];exact h.ent aEt)
 obtain rfl:k=u.length:=om
 rw[List.take_length]
 refine Qi rfl ?_
 refine aU3 ?_
 refine o_q (Qa4 rfl rfl Tryz.underlying155 Tryz.underlying9 Tryz.underlying5 aPk (QeE _)) rfl (aU2 ?_)
 exact rV (h:=by rw[Qdj];rfl)
set_option maxHeartbeats 2000000 in
theorem c53(w:World)(nx:Int)(a:Option Addr)(cap:Nat)(l:List SItm)(hs:Rw SItm.vals 2 w [] a l)(hm:l.length<=100000)(hb:∀x∈l,x.by_.length<=100000)(hst0:(QX nx l).2=0):CR 53 #[.agg #[.int .i64 nx,.slice a l.length cap]] w (.string (bs (Qbg nx l))):=by
 obtain⟨hnx,hl60,hit9,hpl9⟩:=YS hst0
 have hple:=QoQ hb
 have hsu:=Qoq (hd0 nx (QO l).2)
 have hhl:=QdR nx l
 have hd0l:(hd0 nx (QO l).2).length=12:=rfl
 have hhsl:(QiC nx (QO l).2).length=16:=rfl
 refine eN1 Tryz.func53 Tryz.ntmps53 ?_
 refine aU2 ?_
 refine oBx λb1 _=>?_
 refine aU6 ?_
 refine oCh rfl (λw1 h1=>c52 w1 a cap l (hs.later h1) hm hb) (λgp _=>YZ ?_)
 refine o_h (Qd (cs:=[_,_]) rfl rfl QB Yo rfl rfl rfl) rfl (λb2 _=>?_)
 refine oCq rfl (λw1 h1=>c61 w1 _ _ [nx,(QO l).2] (h1.vl_blk aPk) (by simp) (by intro x hx;simp only[List.mem_cons,List.mem_nil_iff,or_false]at hx;rcases hx with rfl|rfl<;>omega)) (o_p (Zj rfl rfl rfl (by(try simp only[List.length_append,List.length_cons,List.length_nil,List.length_replicate,List.length_take,List.length_drop,Yr,List.length_cons]);omega)) rfl (Qm (show _=Value.string (bs (hd0 nx (QO l).2))from rfl) (aU4 ?_)))
 refine oAl (λb3 _=>?_) Qp2
 refine Q6 (C':=HS w [] [.own (.slice none 0 0) 5 1 0 [],.blk b3 157 2 [.pointer none,.slice none 0 0],.own (.slice gp.1 l.length gp.2) 3 1 l.length ((QO l).1.map nv),.blk b1 24 2 [.int .i64 nx,.slice a l.length cap]]) (λw h=>(h.own_nil 5 1).ent aEt) (aU5 ?_)
 refine oCq rfl (λw1 h1=>c94 w1 (hd0 nx (QO l).2) om) (o_h (Qd (cs:=[_]) rfl rfl QB Yo rfl rfl rfl) rfl (λb4 _=>?_))
 refine oCq rfl (λw1 h1=>c61 w1 _ _ [Qk3 (hd0 nx (QO l).2)] (h1.vl_blk aPk) (by simp) (by intro x hx;simp only[List.mem_cons,List.mem_nil_iff,or_false]at hx;rcases hx with rfl<;>omega)) (o_p (Zj rfl rfl rfl (by(try simp only[List.length_append,List.length_cons,List.length_nil,List.length_replicate,List.length_take,List.length_drop,Yr,List.length_cons]);omega)) rfl (Qm (show _=Value.string (bs (QiC nx (QO l).2))from rfl) (o_h (QT (Cs:=[.blk b3 157 2 [.pointer none,.slice none 0 0],.own (.slice none 0 0) 5 1 0 []]) rfl QlP rfl aPs (λw1 h1 hf=>c93a w1 b3 none 0 0 [] (QiC nx (QO l).2) hf om)) rfl (λg1 _=>YR ?_))))
 refine Qg (L':=[(2,_),(3,_),(6,_),(30,_),(31,_),(32,_)]) aSx (λ_ h=>h) ?_
 refine Qt (α:=Nat×Option Addr×Nat) [7,8,9,32,33,34,35,36,37,38,39,40,41,42,43,44,45,46,47,48,49,50,51,52,53,54,55,56,57,58,59,60,61,62,63] (λy=>[(32,.int .i64 (y.1:Int))]) (λy=>HS w [] [.blk b3 157 2 [.pointer (some ⟨b3,0,none⟩),.slice y.2.1 (XE nx l y.1).length y.2.2],.own (.slice y.2.1 (XE nx l y.1).length y.2.2) 5 1 (XE nx l y.1).length ((XE nx l y.1).map bv),.own (.slice gp.1 l.length gp.2) 3 1 l.length ((QO l).1.map nv),.blk b1 24 2 [.int .i64 nx,.slice a l.length cap]]) (λy=>y.1<=l.length) (λy=>l.length-y.1) (0,g1.1,g1.2) (Nat.zero_le _) aSx (λw h=>by dsimp only;rw[show(XE nx l 0)=QiC nx (QO l).2 from List.append_nil _];exact h.ent aEt) (λ⟨k,ga⟩hk1=>?_)
 dsimp only
 simp only[]at hk1
 refine aU5 ?_
 refine sCd rfl (λh5=>?_) λh5=>?_
 ·have hk:k<l.length:=by omega
  have hrg:=(Qdr (hit9 k hk)).1
  have hbk:(nth l k).by_.length<=100000:=hb _ (XH hk)
  have hpk:=Qa3 hb k om
  have hpm:=Qh2 hb l.length (Nat.le_refl _) k om
  rw[List.take_length]at hpm
  have hhk:=Qdz nx l k om
  have hha:=QbJ (nth l k).by_
  have hup:upT (XL (nth l k))-XL (nth l k)=((Qds (XL (nth l k)):Nat):Int)/\Qds (XL (nth l k))<=16:=by unfold Qds upT XL;omega
  have hil:XL (nth l k)=16+((nth l k).by_.length:Int):=rfl
  have hpl5:=Yu l
  have hsc:XE nx l (k+1)=((XE nx l k)++(nmB [XD (nth l k).by_,(nth l k).id,(QO (l.take k)).2,XL (nth l k)]++(nth l k).by_))++(List.replicate (Qds (XL (nth l k))) (0:UInt8)):=by rw[QeQ];unfold Qmp;rw[<-List.append_assoc]
  refine X0 (λw h=>Vl.some (HS.vl_own (a:=gp.1) (t:=3) h aPk) (by rw[List.length_map];omega)) λhsm=>aU6 ?_
  refine o_p (Qa rfl rfl rfl X6 (k) om om (Rw.some hs om)) rfl (o_q (Qu _ rfl rfl Qae rfl (Rw.rd hs hk)) rfl (oAl (λb6 _=>?_) QaC))
  refine aU7 ?_
  refine o_p (QN rfl rfl Tryz.underlying9) rfl (aT ?_)
  refine Qm (show _=Value.int .i64 (XL (nth l k))from rfl) (aU3 ?_)
  refine Qq [15] Qx ?_
  refine dFa 0 ?_
  refine dLd 1 [[11,2]] ?_
  refine dQ 2 [[11]] rfl (Ql rfl Qpw rfl (λw1 h1=>c62 w1 (nth l k).by_ om)) (dFa 3 ?_)
  refine dLd 4 [[11,10]] ?_
  refine dP 5 ?_
  refine dP 6 ?_
  refine dV 7 rfl (Qa rfl rfl rfl QB (k) om om hsm) (dQ 8 [[11,10]] rfl (Qn rfl rfl Xq (λw h=>(HS.vl_own (a:=gp.1) (t:=3) h aPk).rd (QaX (k:=k) om))) (Qs (show _=Value.int .i64 (QO (l.take k)).2 from by rw[Qb4 hk]) (dP 9 ?_)))
  refine dFa 12 ?_
  refine dLd 13 [[14]] ?_
  refine dH 10 rfl (Qd (cs:=[_,_,_,_]) rfl rfl QB Yo rfl rfl rfl) (λb7 _=>dBa ?_)
  refine dQ 11 [[]] rfl (Ql rfl QkH rfl (λw1 h1=>c61 w1 _ _ [XD (nth l k).by_,(nth l k).id,(QO (l.take k)).2,XL (nth l k)] (h1.vl_blk aPk) (by simp) (by intro x hx;simp only[List.mem_cons,List.mem_nil_iff,or_false]at hx;rcases hx with rfl|rfl|rfl|rfl<;>omega))) (dV 14 rfl (Zj rfl rfl rfl (by(try simp only[List.length_append,List.length_cons,List.length_nil,List.length_replicate,List.length_take,List.length_drop,Yr,List.length_cons]);omega)) (Qs (show _=Value.string (bs (nmB [XD (nth l k).by_,(nth l k).id,(QO (l.take k)).2,XL (nth l k)]++(nth l k).by_))from rfl) (dH 15 rfl (QT (Cs:=[.blk b3 157 2 [.pointer (some ⟨b3,0,none⟩),.slice ga.1 (XE nx l k).length ga.2],.own (.slice ga.1 (XE nx l k).length ga.2) 5 1 (XE nx l k).length ((XE nx l k).map bv)]) rfl QlP rfl aPs (λw1 h1 hf=>c93b w1 b3 ga.1 (XE nx l k).length ga.2 ((XE nx l k).map bv) (nmB [XD (nth l k).by_,(nth l k).id,(QO (l.take k)).2,XL (nth l k)]++(nth l k).by_) hf (by simp only[List.length_append,List.length_replicate,Yr,List.length_cons,List.length_nil];omega))) (λg2 _=>dTu [] ?_))))
  refine dNi ?_
  refine Qg (L':=[(2,_),(3,_),(6,_),(9,_),(30,_),(31,_),(32,_)]) aSx (λ_ h=>h) ?_
  refine aU2 ?_
  refine Q6 (C':=HS w [] [.blk b3 157 2 [.pointer (some ⟨b3,0,none⟩),.slice g2.1 ((XE nx l k)++(nmB [XD (nth l k).by_,(nth l k).id,(QO (l.take k)).2,XL (nth l k)]++(nth l k).by_)).length g2.2],.own (.slice g2.1 ((XE nx l k)++(nmB [XD (nth l k).by_,(nth l k).id,(QO (l.take k)).2,XL (nth l k)]++(nth l k).by_)).length g2.2) 5 1 ((XE nx l k)++(nmB [XD (nth l k).by_,(nth l k).id,(QO (l.take k)).2,XL (nth l k)]++(nth l k).by_)).length (((XE nx l k)++(nmB [XD (nth l k).by_,(nth l k).id,(QO (l.take k)).2,XL (nth l k)]++(nth l k).by_)).map bv),.blk b6 61 2 [.int .i64 (nth l k).id,.string (bs (nth l k).by_)],.own (.slice gp.1 l.length gp.2) 3 1 l.length ((QO l).1.map nv),.blk b1 24 2 [.int .i64 nx,.slice a l.length cap]]) (λw h=>by rw[List.map_append (l₁:=(XE nx l k)),@List.length_append _ (XE nx l k) (nmB [XD (nth l k).by_,(nth l k).id,(QO (l.take k)).2,XL (nth l k)]++(nth l k).by_)];exact h.ent aEt) (oCq rfl (λw1 h1=>c92 w1 (XL (nth l k)) om) (aT2 ?_))
  refine Qm (show _=Value.int .i64 ((Qds (XL (nth l k)):Nat):Int)from by rw[hup.1]) (oCq rfl (λw1 h1=>c54 w1 (Qds (XL (nth l k))) om) (o_h (QT (Cs:=[.blk b3 157 2 [.pointer (some ⟨b3,0,none⟩),.slice g2.1 ((XE nx l k)++(nmB [XD (nth l k).by_,(nth l k).id,(QO (l.take k)).2,XL (nth l k)]++(nth l k).by_)).length g2.2],.own (.slice g2.1 ((XE nx l k)++(nmB [XD (nth l k).by_,(nth l k).id,(QO (l.take k)).2,XL (nth l k)]++(nth l k).by_)).length g2.2) 5 1 ((XE nx l k)++(nmB [XD (nth l k).by_,(nth l k).id,(QO (l.take k)).2,XL (nth l k)]++(nth l k).by_)).length (((XE nx l k)++(nmB [XD (nth l k).by_,(nth l k).id,(QO (l.take k)).2,XL (nth l k)]++(nth l k).by_)).map bv)]) rfl QlP rfl aPs (λw1 h1 hf=>c93b w1 b3 g2.1 ((XE nx l k)++(nmB [XD (nth l k).by_,(nth l k).id,(QO (l.take k)).2,XL (nth l k)]++(nth l k).by_)).length g2.2 (((XE nx l k)++(nmB [XD (nth l k).by_,(nth l k).id,(QO (l.take k)).2,XL (nth l k)]++(nth l k).by_)).map bv) (List.replicate (Qds (XL (nth l k))) (0:UInt8)) hf (by simp only[List.length_append,List.length_replicate,Yr,List.length_cons,List.length_nil];omega))) rfl (λg3 _=>Q6 (C':=HS w [] [.blk b3 157 2 [.pointer (some ⟨b3,0,none⟩),.slice g3.1 (((XE nx l k)++(nmB [XD (nth l k).by_,(nth l k).id,(QO (l.take k)).2,XL (nth l k)]++(nth l k).by_))++(List.replicate (Qds (XL (nth l k))) (0:UInt8))).length g3.2],.own (.slice g3.1 (((XE nx l k)++(nmB [XD (nth l k).by_,(nth l k).id,(QO (l.take k)).2,XL (nth l k)]++(nth l k).by_))++(List.replicate (Qds (XL (nth l k))) (0:UInt8))).length g3.2) 5 1 (((XE nx l k)++(nmB [XD (nth l k).by_,(nth l k).id,(QO (l.take k)).2,XL (nth l k)]++(nth l k).by_))++(List.replicate (Qds (XL (nth l k))) (0:UInt8))).length ((((XE nx l k)++(nmB [XD (nth l k).by_,(nth l k).id,(QO (l.take k)).2,XL (nth l k)]++(nth l k).by_))++(List.replicate (Qds (XL (nth l k))) (0:UInt8))).map bv),.own (.slice gp.1 l.length gp.2) 3 1 l.length ((QO l).1.map nv),.blk b1 24 2 [.int .i64 nx,.slice a l.length cap]]) (λw h=>by rw[List.map_append (l₁:=((XE nx l k)++(nmB [XD (nth l k).by_,(nth l k).id,(QO (l.take k)).2,XL (nth l k)]++(nth l k).by_))),@List.length_append _ ((XE nx l k)++(nmB [XD (nth l k).by_,(nth l k).id,(QO (l.take k)).2,XL (nth l k)]++(nth l k).by_)) (List.replicate (Qds (XL (nth l k))) (0:UInt8))];exact h.ent aEt) (aT4 ?_))))
  refine aU2 ?_
  exact QR (k+1,g3) (by(try simp only[]);omega) (by(try simp only[]);omega) aSx (λw h=>by dsimp only;rw[hsc];exact h.ent aEt)
 obtain rfl:k=l.length:=om
 refine Qi rfl ?_
 refine aU2 ?_
 refine o_h (QT (Cs:=[.blk b3 157 2 [.pointer (some ⟨b3,0,none⟩),.slice ga.1 (Qbg nx l).length ga.2],.own (.slice ga.1 (Qbg nx l).length ga.2) 5 1 (Qbg nx l).length ((Qbg nx l).map bv)]) rfl QrN rfl aPs (λw1 h1 hf=>c95 w1 b3 ga.1 ga.2 (Qbg nx l) hf (by intro e9;rw[e9]at hhl;simp at hhl;omega))) rfl (λ_ _=>aU2 ?_)
 exact rV
instance:TFn Tryz.prog 53:=⟨by kernel_rfl⟩
theorem c23(w:World)(nx:Int)(a:Option Addr)(cap:Nat)(l:List SItm)(hs:Rw SItm.vals 2 w [] a l)(hm:l.length<=100000)(hb:∀x∈l,x.by_.length<=100000):CR 23 #[.agg #[.int .i64 nx,.slice a l.length cap]] w (.tuple #[.string (bs (if(QX nx l).2=0 then Qdp nx l else[])),.int .i64 (QX nx l).2]):=by
 refine eN1 Tryz.func23 Tryz.ntmps23 ?_
 refine aU2 ?_
 refine oBx λb1 _=>?_
 refine aU7 ?_
 refine oCq rfl (λw1 h1=>c31 w1 nx a cap l (hs.later h1) hm hb) (aU7 ?_)
 refine sCd rfl (λh2=>?_) λh2=>?_
 ·have h0:¬(QX nx l).2=0:=h2
  refine aU6 ?_
  exact Qf (rs:=[.tmp 2,.tmp 3]) rfl (.tmp rfl (.tmp rfl (.nil))) (λw' h'=>⟨by rw[if_neg h0];rfl,h'.below⟩)
 have h0:(QX nx l).2=0:=h2
 obtain⟨hnx,hl60,hit9,hpl9⟩:=YS h0
 have hhl:=QdR nx l
 refine aU4 ?_
 refine oCq rfl (λw1 h1=>c53 w1 nx a cap l (hs.later h1) hm hb h0) (aU6 ?_)
 refine o_p (QN rfl rfl Tryz.underlying9) rfl (aT ?_)
 refine Qm (show _=Value.int .i64 ((8192-(Qbg nx l).length:Nat):Int)from congrArg (Value.int .i64) om) (oCq rfl (λw1 h1=>c54 w1 (8192-(Qbg nx l).length) om) (o_p (Zj rfl rfl rfl (by(try simp only[List.length_append,List.length_cons,List.length_nil,List.length_replicate,List.length_take,List.length_drop,List.length_append,List.length_replicate]);omega)) rfl (aU ?_)))
 refine o_p (Zj rfl rfl rfl (by(try simp only[List.length_append,List.length_cons,List.length_nil,List.length_replicate,List.length_take,List.length_drop,List.length_append,List.length_replicate]);omega)) rfl (Qm (show _=Value.string (bs (Qdp nx l))from by rw[Qdp]) (aU3 ?_))
 exact Qf (rs:=[.tmp 2,.tmp 3]) rfl (.tmp rfl (.tmp rfl (.nil))) (λw' h'=>⟨by rw[if_pos h0,h0];rfl,h'.below⟩)
end Go.Proofs
namespace Gx
open Go Go.RowKit
def dA:Dsc:=⟨10,10,false,false,[],[]⟩
def dB:Dsc:=⟨10,10,false,true,[⟨0,0,1,1⟩],[]⟩
def bA:List UInt8:=[1,0,0,0,10,0,0,0,10,0,0,0]
def bB:List UInt8:=[1,2,1,0,10,0,0,0,10,0,0,0,0,0,1,0,1,0,0,0]
def lA:List SItm:=[⟨256,bA⟩]
def lB:List SItm:=[⟨256,bA⟩,⟨257,bB⟩]
theorem aw_1:QbR 256 [] dA=⟨257,lA,256,0⟩:=by kernel_rfl
theorem QqJ:QbR 257 lA dB=⟨258,lB,257,0⟩:=by kernel_rfl
theorem aw_3:(QX 258 lB).2=0:=by kernel_rfl
theorem aw_4:QO lB=([16,48],96):=by kernel_rfl
theorem aw_5:(QX 257 lA).2=0:=by kernel_rfl
theorem aw_6:Qf8 258 lB [257]=0:=by kernel_rfl
theorem aw_7:Qc3 258 lB [257]=⟨258,[⟨257,bB⟩],[256]⟩:=by kernel_rfl
theorem aw_8:(Qdp 257 lA).length=8240:=by
 have h:=QdR 257 lA;rw[show(QO lA).2=48 by kernel_rfl]at h;unfold Qdp;rw[List.length_append,List.length_append,List.length_replicate];omega
end Gx
namespace Go.Proofs
open Go Go.RowKit Gx
attribute [local irreducible] Go.Calls Gx.S Gx.O Gx.D Gx.OpP Gx.OpQ Gx.OpH
set_option maxRecDepth 20000
instance:TFn Tryz.prog 19:=⟨by kernel_rfl⟩
instance:TFn Tryz.prog 20:=⟨by kernel_rfl⟩
theorem Qkx:QH Tryz.prog 18=true:=by kernel_rfl
instance:TFn Tryz.prog 18:=⟨Qkx⟩
theorem Qpe:QH Tryz.prog 21=true:=by kernel_rfl
instance:TFn Tryz.prog 22:=⟨by kernel_rfl⟩
instance:TFn Tryz.prog 23:=⟨by kernel_rfl⟩
instance:TFn Tryz.prog 24:=⟨by kernel_rfl⟩
theorem QdV{α:Type}[Inhabited α]{vals:α->List Value}{sz:Nat}{w:World}:Rw vals sz w [] none ([]:List α):=⟨λh=>absurd h (Nat.lt_irrefl 0)⟩
theorem c25V(w:World)(a:Option Addr)(cap:Nat)(a2:Option Addr)(cap2:Nat)(l:List Int)(hs:Vl w a (l.map nv))(hs2:Vl w a2 (l.map nv))(hm:l.length<=100000):CR 25 #[.slice a l.length cap,.slice a2 l.length cap2] w (.bool true):=by
  have h9:=c25 w a a2 cap cap2 l l hs.rwI hs2.rwI hm hm;rw[decide_eq_true rfl]at h9;exact h9
set_option maxHeartbeats 2000000 in
theorem c4(w:World):CR 4 #[] w (.bool true):=by
 refine eN0 Tryz.func4 Tryz.ntmps4 ?_
 refine aU6 ?_
 refine oCq rfl (λw1 h1=>c19 w1) (oCq rfl (λw1 h1=>c20 w1) (oCh rfl (λw1 h1=>by have h9:=c18 w1 256 none 0 [] dA none 0 none 0 QdV (by decide) (by intro x hx;cases hx) QdV QdV (by decide) (by decide);rw[aw_1]at h9;exact h9) (λgA _=>aU4 ?_)))
 refine oAl (λb1 _=>?_) Zc
 refine aU5 ?_
 refine Xe (α:=Nat×Option Addr×Nat) [4,5,6,22,23,24,25,26,27,28] (λx=>[(4,.pointer (some ⟨x.1,0,none⟩)),(5,.int .i64 257),(6,.int .i64 0)]) (λx=>HS w [] [.blk x.1 24 2 [.int .i64 258,.slice x.2.1 2 x.2.2],.own (.slice x.2.1 lB.length x.2.2) 61 2 lB.length (lB.flatMap SItm.vals),.blk b1 24 2 [.int .i64 257,.slice gA.1 1 gA.2],.own (.slice gA.1 lA.length gA.2) 61 2 lA.length (lA.flatMap SItm.vals)]) (λ_=>True) ?_ ?_
 ·skip
  refine Qq [8] Qx ?_
  refine dLn 0 [[]] ?_
  refine Qgp 1 7 rfl rfl (Q3 rfl Qpe rfl (λw1 h1=>c21 w1)) (X9 rfl Zc) (by kernel_rfl) (λw h=>h.ent aEt) rfl rfl (λgO _=>?_) (λb2 _=>?_)
  ·skip
   refine dBa ?_
   refine Qgp 2 7 rfl rfl (Q3 rfl Qkx rfl (λw1 h1=>by have h9:=c18 w1 257 gA.1 gA.2 lA dB gO.1 gO.2 none 0 (HS.rw_own (l:=lA) sv2 h1 aPk rfl) (by decide) (by intro x hx;simp only[lA,lB,List.mem_cons,List.mem_nil_iff,or_false]at hx;subst hx<;>decide) (HS.rw_own (l:=dB.en) av4 h1 aPk rfl) QdV (by decide) (by decide);rw[QqJ]at h9;exact h9)) (X9 rfl Zc) (by kernel_rfl) (λw h=>h.ent aEt) rfl rfl (λgB _=>?_) (λb3 _=>?_)
   ·skip
    refine dBa ?_
    refine dP 3 ?_
    refine dP 4 ?_
    refine dP 5 ?_
    refine dP 6 ?_
    refine dH 7 rfl (X9 rfl Zc) (λb4 _=>dBa ?_)
    refine dSt 8 ?_ (hl:=(by simp only[Qe,List.length_set,List.length_cons,List.length_nil,List.length_map];omega))
    refine dTu [] ?_
    refine dP 9 ?_
    refine dP 10 ?_
    refine dNi ?_
    exact Qo (b4,gB) trivial aSx (λw h=>h.ent aEt)
   skip
   refine dBa ?_
   refine dH 2 rfl (Q3 rfl Qkx rfl (λw1 h1=>by have h9:=c18 w1 257 gA.1 gA.2 lA dB gO.1 gO.2 none 0 (HS.rw_own (l:=lA) sv2 h1 aPk rfl) (by decide) (by intro x hx;simp only[lA,lB,List.mem_cons,List.mem_nil_iff,or_false]at hx;subst hx<;>decide) (HS.rw_own (l:=dB.en) av4 h1 aPk rfl) QdV (by decide) (by decide);rw[QqJ]at h9;exact h9)) (λgB _=>dBa ?_)
   refine dP 3 ?_
   refine dP 4 ?_
   refine dP 5 ?_
   refine dP 6 ?_
   refine dSt 8 ?_ (hl:=(by simp only[Qe,List.length_set,List.length_cons,List.length_nil,List.length_map];omega))
   refine dTu [] ?_
   refine dP 9 ?_
   refine dP 10 ?_
   refine dNi ?_
   exact Qo (b3,gB) trivial aSx (λw h=>h.ent aEt)
  skip
  refine dBa ?_
  refine dH 1 rfl (Q3 rfl Qpe rfl (λw1 h1=>c21 w1)) (λgO _=>dBa ?_)
  refine dH 2 rfl (Q3 rfl Qkx rfl (λw1 h1=>by have h9:=c18 w1 257 gA.1 gA.2 lA dB gO.1 gO.2 none 0 (HS.rw_own (l:=lA) sv2 h1 aPk rfl) (by decide) (by intro x hx;simp only[lA,lB,List.mem_cons,List.mem_nil_iff,or_false]at hx;subst hx<;>decide) (HS.rw_own (l:=dB.en) av4 h1 aPk rfl) QdV (by decide) (by decide);rw[QqJ]at h9;exact h9)) (λgB _=>dBa ?_)
  refine dP 3 ?_
  refine dP 4 ?_
  refine dP 5 ?_
  refine dP 6 ?_
  refine dSt 8 ?_ (hl:=(by simp only[Qe,List.length_set,List.length_cons,List.length_nil,List.length_map];omega))
  refine dTu [] ?_
  refine dP 9 ?_
  refine dP 10 ?_
  refine dNi ?_
  exact Qo (b2,gB) trivial aSx (λw h=>h.ent aEt)
 intro x hx
 refine aU3 ?_
 refine oCh rfl (λw1 h1=>by have h9:=c22 w1 258 x.2.1 x.2.2 lB (HS.rw_own (l:=lB) sv2 h1 aPk rfl) (by decide) (by intro x hx;simp only[lA,lB,List.mem_cons,List.mem_nil_iff,or_false]at hx;rcases hx with rfl|rfl<;>decide);rw[if_pos aw_3,aw_3,aw_4]at h9;exact h9) (λgP _=>YZ ?_)
 refine oCq rfl (λw1 h1=>by have h9:=c23 w1 257 gA.1 gA.2 lA (HS.rw_own (l:=lA) sv2 h1 aPk rfl) (by decide) (by intro x hx;simp only[lA,lB,List.mem_cons,List.mem_nil_iff,or_false]at hx;subst hx<;>decide);rw[if_pos aw_5,aw_5]at h9;exact h9) (aU7 ?_)
 refine Qg (L':=[(0,_),(2,_),(3,_),(4,_),(5,_),(6,_),(7,_),(8,_),(9,_),(10,_),(11,_)]) aSx (λ_ h=>h) ?_
 refine aU2 ?_
 refine o_h (Qd (cs:=[_]) rfl rfl QB Yo rfl rfl rfl) rfl (λb5 _=>?_)
 refine oCh rfl (λw1 h1=>by have h9:=c24 w1 258 x.2.1 x.2.2 lB (some ⟨b5,0,none⟩) 1 [257] (HS.rw_own (l:=lB) sv2 h1 aPk rfl) (by decide) (by intro x hx;simp only[lA,lB,List.mem_cons,List.mem_nil_iff,or_false]at hx;rcases hx with rfl|rfl<;>decide) (h1.vl_blk aPk) (by decide) (by intro x hx;simp only[List.mem_cons,List.mem_nil_iff,or_false]at hx;subst hx;decide);rw[aw_6,aw_7]at h9;exact h9) (λgC _=>aU4 ?_)
 refine oAl (λb6 _=>?_) Zc
 refine aU9 ?_
 refine XJ 3 49 52 rfl
  (λhg7 _=>by
   refine aU4 ?_
   exact oJt 3 52)
  (λhg9 _=>by
   refine aU2 ?_
   exact oJf 3 52) ?_
 refine aU ?_
 refine XJ 3 53 56 rfl
  (λhg11 _=>by
   refine aU4 ?_
   exact oJt 3 56)
  (λhg13 _=>by
   refine aU2 ?_
   exact oJf 3 56) ?_
 refine aU ?_
 refine XJ 3 57 60 rfl
  (λhg15 _=>by
   refine aU4 ?_
   exact oJt 3 60)
  (λhg17 _=>by
   refine aU2 ?_
   exact oJf 3 60) ?_
 refine aU ?_
 refine XJ 3 61 64 rfl
  (λhg19 _=>by
   refine aU4 ?_
   exact oJt 3 64)
  (λhg21 _=>by
   refine aU2 ?_
   exact oJf 3 64) ?_
 refine aU ?_
 refine XJ 4 65 69 rfl
  (λhg23 _=>by
   refine aU3 ?_
   refine o_h (Qd (cs:=[_,_]) rfl rfl QB Yo rfl rfl rfl) rfl (λb25 _=>aU ?_)
   refine oCq rfl (λw1 h1=>c25V w1 gP.1 gP.2 (some ⟨b25,0,none⟩) 2 [16,48] (HS.vl_own (cs:=[.int .i64 16,.int .i64 48]) h1 aPk) (h1.vl_blk aPk) (by decide)) ?_
   exact oJt 4 69)
  (λhg26 _=>by
   refine aU3 ?_
   exact oJf 4 69) ?_
 refine aU ?_
 refine XJ 3 70 73 rfl
  (λhg28 _=>by
   refine aU4 ?_
   exact oJt 3 73)
  (λhg30 _=>by
   refine aU2 ?_
   exact oJf 3 73) ?_
 refine aU ?_
 refine XJ 3 74 77 rfl
  (λhg32 _=>by
   refine aU4 ?_
   exact oJt 3 77)
  (λhg34 _=>by
   refine aU2 ?_
   exact oJf 3 77) ?_
 refine aU ?_
 refine XJ 4 78 82 rfl
  (λhg36 _=>by
   refine aU3 ?_
   refine o_p (QN rfl rfl Tryz.underlying9) rfl (Qm (show _=Value.int .i64 8240 from by rw[aw_8];rfl) (aU2 ?_))
   exact oJt 4 82)
  (λhg38 _=>by
   refine aU3 ?_
   exact oJf 4 82) ?_
 refine aU ?_
 refine XJ 3 83 86 rfl
  (λhg40 _=>by
   refine aU4 ?_
   exact oJt 3 86)
  (λhg42 _=>by
   refine aU2 ?_
   exact oJf 3 86) ?_
 refine aU ?_
 refine XJ 4 87 91 rfl
  (λhg44 _=>by
   refine aU3 ?_
   refine o_h (Qd (cs:=[_]) rfl rfl QB Yo rfl rfl rfl) rfl (λb46 _=>aU ?_)
   refine oCq rfl (λw1 h1=>c25V w1 gC.2.1 gC.2.2 (some ⟨b46,0,none⟩) 1 [256] (HS.vl_own (cs:=[.int .i64 256]) h1 aPk) (h1.vl_blk aPk) (by decide)) ?_
   exact oJt 4 91)
  (λhg47 _=>by
   refine aU3 ?_
   exact oJf 4 91) ?_
 refine aU ?_
 refine XJ 4 92 96 rfl
  (λhg49 _=>by
   refine aU6 ?_
   exact oJt 4 96)
  (λhg51 _=>by
   refine aU3 ?_
   exact oJf 4 96) ?_
 refine aU2 ?_
 exact rV
end Go.Proofs
namespace Gx
open Go Go.RowKit
theorem QrX(x:UInt8)(l:List UInt8):at1 (x::l) 0=(x.toNat:Int):=rfl
theorem Qru(x:UInt8)(l:List UInt8)(i:Nat):at1 (x::l) (i+1)=at1 l i:=rfl
theorem QeM(u v:List UInt8)(i:Nat):at1 (u++v) (u.length+i)=at1 v i:=by
 unfold at1;rw[List.getD_eq_getElem?_getD,List.getD_eq_getElem?_getD,List.getElem?_append_right om,show u.length+i-u.length=i by omega]
theorem QoA(u v:List UInt8)(i:Nat):at4 (u++v) (u.length+i)=at4 v i:=by
 unfold at4 at2;rw[show u.length+i+1=u.length+(i+1) by omega,show u.length+i+2=u.length+(i+2) by omega,show u.length+(i+2)+1=u.length+(i+2+1) by omega,QeM,QeM,QeM,QeM]
theorem Qhr{x:Int}(r:List UInt8)(h:0<=x/\x<4294967296):at4 (le4 x++r) 0=x:=by
 have e:le4 x++r=by8 x::by8 (x/256)::by8 (x/65536)::by8 (x/16777216)::r:=rfl;rw[e];unfold at4 at2;simp only[Qru,QrX,Qgn,Nat.zero_add,show(2:Nat)=0+1+1 from rfl,show(3:Nat)=0+1+1+1 from rfl];omega
theorem QrH{u:List UInt8}{x:Int}(r:List UInt8)(h:0<=x/\x<4294967296):at4 (u++(le4 x++r)) u.length=x:=by
 have:=QoA u (le4 x++r) 0;rw[Nat.add_zero]at this;rw[this,Qhr r h]
def QpH(l:List SItm)(k:Nat):List UInt8:=nmB [(QO (l.take k)).2,XL (nth l k)]
def Yg(co:Nat)(x:SItm):List UInt8:=if co=3 then nmB [XD x.by_,x.id]else nmB [x.id]
def QI(co:Nat)(l:List SItm)(k:Nat):TEnt:=⟨Yg co (nth l k),QpH l k⟩
def QG(co:Nat)(l:List SItm):List TEnt:=(List.range l.length).map (QI co l)
theorem Xz(co:Nat)(l:List SItm):(QG co l).length=l.length:=by simp[QG]
theorem Xj{co:Nat}{l:List SItm}{k:Nat}(h:k<l.length):nth (QG co l) k=QI co l k:=QP (by unfold QG;rw[List.getElem?_map,List.getElem?_range h];rfl)
theorem Ql1(a b:Int):nmB [a,b]=le4 a++(le4 b++[]):=rfl
theorem Qqo(a:Int):nmB [a]=le4 a++[]:=rfl
theorem QfE{x:SItm}(h:0<=x.id/\x.id<4294967296):at4 (Yg 2 x) 0=x.id/\at4 (Yg 3 x) 0=XD x.by_/\at4 (Yg 3 x) 4=x.id:=by
 have hh:=QbJ x.by_;refine⟨?_,?_,?_⟩
 ·show at4 (nmB [x.id]) 0=_;rw[Qqo,Qhr _ h]
 ·show at4 (nmB [XD x.by_,x.id]) 0=_;rw[Ql1,Qhr _ om]
 ·show at4 (nmB [XD x.by_,x.id]) 4=_;rw[Ql1];exact QrH (u:=le4 (XD x.by_)) [] h
theorem Qob{nx:Int}{l:List SItm}(h:(QX nx l).2=0):∀{i k:Nat},i<k->k<l.length->(nth l i).id<(nth l k).id:=by
 obtain⟨_,_,hit,_⟩:=YS h;intro i k hik
 induction k with
 | zero=>omega
 | succ k ih=>
  intro hk;have h1:=(Qdr (hit (k+1) hk)).2;rw[Nat.add_sub_cancel]at h1
  have h2:(nth l k).id<(nth l (k+1)).id:=by
   rcases h1 with h1|h1
   ·omega
   ·exact h1
  rcases Nat.lt_or_ge i k with h3|h3
  ·have:=ih h3 om;omega
  ·obtain rfl:i=k:=by omega
   exact h2
theorem Qa7{nx:Int}{l:List SItm}(h:(QX nx l).2=0){k:Nat}(hk:k<l.length):256<=(nth l k).id/\(nth l k).id<=2147483646:=by
 obtain⟨hn,_,hit,_⟩:=YS h;have:=(Qdr (hit k hk)).1;omega
theorem ZV{nx:Int}{l:List SItm}{co k:Nat}(hco:co=2\/co=3)(h:(QX nx l).2=0)(hk:k<l.length):XP (co:Int) (QI co l k)=0:=by
 have hi:=Qa7 h hk;obtain⟨e1,e2,e3⟩:=QfE (x:=nth l k) om;have hh:=QbJ (nth l k).by_
 have hv:(QI co l k).val.length<=64:=by
  show(nmB [_,_]).length<=64;rw[Yr];show 4*2<=64;decide
 have hkk:QS (co:Int) (Yg co (nth l k))=true:=by
  rcases hco with rfl|rfl
  ·show(decide ((nmB [(nth l k).id]).length=4)&&Qax _ 0)=true;unfold Qax;rw[e1,Yr];simp;omega
  ·show(decide ((nmB [XD (nth l k).by_,(nth l k).id]).length=8)&&(Qax _ 0&&Qax _ 4))=true;unfold Qax;rw[e2,e3,Yr];simp;omega
 unfold XP YU;rw[show(QI co l k).key=Yg co (nth l k)from rfl,hkk,if_pos rfl,if_pos hv];rfl
theorem QhP{nx:Int}{l:List SItm}{co i k:Nat}(hco:co=2\/co=3)(h:(QX nx l).2=0)(hik:i<k)(hk:k<l.length):¬QM (co:Int) (QI co l i).key (QI co l k).key=0:=by
 have h1:=Qob h hik hk;have hi:=Qa7 h (k:=i) om;have hj:=Qa7 h hk;obtain⟨e1,e2,e3⟩:=QfE (x:=nth l i) om;obtain⟨f1,f2,f3⟩:=QfE (x:=nth l k) om;show¬QM (co:Int) (Yg co (nth l i)) (Yg co (nth l k))=0;have hs:XQ (nth l i).id (nth l k).id= -1:=by unfold XQ;rw[if_pos h1]
 rcases hco with rfl|rfl
 ·show¬XQ (at4 _ 0) (at4 _ 0)=0;rw[e1,f1,hs];decide
 ·show¬(if XQ (at4 _ 0) (at4 _ 0)≠0 then XQ (at4 _ 0) (at4 _ 0)else XQ (at4 _ 4) (at4 _ 4))=0;rw[e2,e3,f2,f3,hs];split
  ·assumption
  ·decide
structure BldC(co mo rm:Int)(lo hi rt:Nat)(E:List TEnt)(k:Nat):Prop where
 zero:∀i,i<k->QcC co mo rm E i=0
 tree:∃T d,Xc (YT co mo rm E k) T/\VT co lo hi rt d T/\∀x,x∈T.flat ↔ ∃i,i<k/\x=nth E i
theorem QhT{co mo rm:Int}{lo hi rt:Nat}{E:List TEnt}(hz:Sz mo rm lo hi rt)(hn:E.length<=118)(he:∀i,i<E.length->XP co (nth E i)=0)(hd:∀i k,i<k->k<E.length->¬QM co (nth E i).key (nth E k).key=0):∀k,k<=E.length->BldC co mo rm lo hi rt E k
 | 0,_=>by
  refine⟨λi hi=>absurd hi (Nat.not_lt_zero i),?_⟩;obtain⟨T,d,h1,h2,h3⟩:=(QeF (co:=co) hz).tree;refine⟨T,d,h1,h2,λx=>⟨λhx=>?_,λ⟨i,hi,_⟩=>absurd hi (Nat.not_lt_zero i)⟩⟩;rw[List.eq_nil_of_length_eq_zero h3]at hx;cases hx
 | k+1,hk=>by
  obtain⟨hz0,T,d,hR,hV,hm⟩:=QhT hz hn he hd k om;have hB:=Qam (l:=E) hz (show k<=119 by omega) hz0;have hx0:=he k om
  have hnf:¬(Qh co (YT co mo rm E k) (nth E k).key).2.2=true:=λhf=>by
   obtain⟨y,hy,hc⟩:=(QiA hR hV (nth E k).key).1 hf;obtain⟨i,hi,rfl⟩:=(hm y).1 hy;exact hd i k hi om hc
  have hb0:QcC co mo rm E k=0:=by rw[QoO hz om hz0,if_pos hx0,if_neg hnf]
  refine⟨λi hi=>(Nat.lt_or_ge i k).elim (hz0 i) λh=>(by have e:i=k:=om;rw[e];exact hb0),?_⟩;have hI:=Qkz hz hR hV (by have:=hB.len;omega) hB.last hx0 hnf;obtain⟨T2,d2,hR2,hV2,hf2⟩:=hI.tree;refine⟨T2,d2,hR2,hV2,λx=>?_⟩;rw[hf2];have e:=List.take_append_drop (plc co T.flat (nth E k).key) T.flat;unfold QF;constructor
  ·intro hx;rcases List.mem_append.1 hx with hx|hx
   ·obtain⟨i,hi,h9⟩:=(hm x).1 (List.mem_of_mem_take hx);exact⟨i,om,h9⟩
   ·rcases List.mem_cons.1 hx with hx|hx
    ·exact⟨k,om,hx⟩
    ·obtain⟨i,hi,h9⟩:=(hm x).1 (List.mem_of_mem_drop hx);exact⟨i,om,h9⟩
  ·rintro⟨i,hi,h9⟩;rcases Nat.lt_or_ge i k with h8|h8
   ·have h7:=(hm x).2 ⟨i,h8,h9⟩;rw[<-e]at h7;rcases List.mem_append.1 h7 with h7|h7
    ·exact List.mem_append_left _ h7
    ·exact List.mem_append_right _ (List.mem_cons_of_mem _ h7)
   ·obtain rfl:i=k:=by omega
    rw[h9];exact List.mem_append_right _ (List.mem_cons_self ..)
theorem QcP{nx:Int}{l:List SItm}{co:Nat}(hco:co=2\/co=3)(h:(QX nx l).2=0){k:Nat}(hk:k<=l.length):BldC (co:Int) 4 2 2 4 2 (QG co l) k:=by
 have hl:=(YS h).2.1;have hz:Sz 4 2 2 4 2:=⟨rfl,rfl,rfl,by decide,by decide,by decide,by decide⟩;refine QhT hz (by rw[Xz];omega) (λi hi=>?_) (λi k hik hkk=>?_) k (by rw[Xz];exact hk)
 ·rw[Xz]at hi;rw[Xj hi];exact ZV hco h hi
 ·rw[Xz]at hkk;rw[Xj hkk,Xj om];exact QhP hco h hik hkk
theorem Qmn{nx:Int}{l:List SItm}{co:Nat}(hco:co=2\/co=3)(h:(QX nx l).2=0):(QU (Qag (co:Int) 4 2 (QG co l)) 0).2=0:=by
 have hB:=(QcP hco h (Nat.le_refl _)).zero;refine QaV.2 λe he=>?_;obtain⟨i,hi,rfl⟩:=List.mem_map.1 he;rw[List.mem_range,Xz]at hi;exact hB i hi
theorem Zg{co:Nat}(x:SItm):(Yg co x).length<=8:=by
 unfold Yg;split
 ·rw[Yr];show 4*2<=8;decide
 ·rw[Yr];show 4*1<=8;decide
theorem QcR{co:Nat}{l:List SItm}{x:TEnt}(h:x∈QG co l):x.key.length<=1000000:=by
 obtain⟨k,_,rfl⟩:=List.mem_map.1 h;exact Nat.le_trans (Zg _) (by decide)
theorem Qiy{co:Nat}{l:List SItm}{k:Nat}(h:k<l.length):(QG co l).take (k+1)=(QG co l).take k++[QI co l k]:=by
 rw[List.take_add_one,QY (by rw[Xz];exact h),Xj h];rfl
theorem Qik{co:Nat}{l:List SItm}{k:Nat}(h:k<=l.length):((QG co l).take k).length=k:=by
 rw[List.length_take,Xz];omega
theorem Qjk(co:Nat)(l:List SItm):(QG co l).take l.length=QG co l:=by
 rw[<-Xz co l,List.take_length]
end Gx
namespace Go.Proofs
open Go Go.RowKit Gx
attribute [local irreducible] Go.Calls Gx.S Gx.O Gx.D Gx.OpP Gx.OpQ Gx.OpH
set_option maxRecDepth 20000
theorem QjV:Xy Tryz.prog 68=some [.int .i64 0,.nilFunc]:=by kernel_rfl
theorem Qpk:YA Tryz.prog 68=some [(0,1),(1,1)]:=by kernel_rfl
theorem Qm1:tsz Tryz.prog 68=some (2,true):=by kernel_rfl
instance:TSz Tryz.prog 68 2 true:=⟨Qm1⟩
theorem Qiz:QH Tryz.prog 80=true:=by kernel_rfl
theorem Qrk:QH Tryz.prog 81=true:=by kernel_rfl
theorem Qpz:QH Tryz.prog 82=true:=by kernel_rfl
theorem c27(w:World):CR 27 #[] w (.agg #[.int .i64 3,.func (.func 60) #[] #[]]):=by
 refine eN0 Tryz.func27 Tryz.ntmps27 ?_
 refine aU2 ?_
 refine oAl (λb1 _=>?_) QjV
 refine aU3 ?_
 refine o_p (QD (cs:=[_,_]) rfl rfl Qpk QjV rfl) rfl (aU2 ?_)
 exact Qf (rs:=[.cell 0 68]) rfl (.cell rfl Qm1 aPk rfl (.nil)) (λw' h'=>⟨rfl,h'.below⟩)
theorem c29(w:World):CR 29 #[] w (.agg #[.int .i64 2,.func (.func 64) #[] #[]]):=by
 refine eN0 Tryz.func29 Tryz.ntmps29 ?_
 refine aU2 ?_
 refine oAl (λb1 _=>?_) QjV
 refine aU3 ?_
 refine o_p (QD (cs:=[_,_]) rfl rfl Qpk QjV rfl) rfl (aU2 ?_)
 exact Qf (rs:=[.cell 0 68]) rfl (.cell rfl Qm1 aPk rfl (.nil)) (λw' h'=>⟨rfl,h'.below⟩)
theorem c60(w:World)(x:SItm)(hi:0<=x.id/\x.id<4294967296)(hb:x.by_.length<=100000):CR 60 #[.agg #[.int .i64 x.id,.string (bs x.by_)]] w (.string (bs (Yg 3 x))):=by
 have hh:=QbJ x.by_
 refine eN1 Tryz.func60 Tryz.ntmps60 ?_
 refine aU2 ?_
 refine oBx λb1 _=>?_
 refine aU3 ?_
 refine Qq [] Qx ?_
 refine dFa 0 ?_
 refine dLd 1 [] ?_
 refine dQ 2 [] rfl (Ql rfl Qpw rfl (λw1 h1=>c62 w1 x.by_ om)) (dFa 3 ?_)
 refine dLd 4 [] ?_
 refine dH 5 rfl (Qd (cs:=[_,_]) rfl rfl QB Yo rfl rfl rfl) (λb2 _=>dBa ?_)
 refine dQ 6 [] rfl (Ql rfl QkH rfl (λw1 h1=>c61 w1 _ _ [XD x.by_,x.id] (h1.vl_blk aPk) (by simp) (by intro x hx;simp only[List.mem_cons,List.mem_nil_iff,or_false]at hx;rcases hx with rfl|rfl<;>omega))) (dP 7 ?_)
 refine dNi ?_
 exact rV
theorem c64(w:World)(x:SItm)(hi:0<=x.id/\x.id<4294967296)(hb:x.by_.length<=100000):CR 64 #[.agg #[.int .i64 x.id,.string (bs x.by_)]] w (.string (bs (Yg 2 x))):=by
 refine eN1 Tryz.func64 Tryz.ntmps64 ?_
 refine aU2 ?_
 refine oBx λb1 _=>?_
 refine aU6 ?_
 refine o_h (Qd (cs:=[_]) rfl rfl QB Yo rfl rfl rfl) rfl (λb2 _=>?_)
 refine oCq rfl (λw1 h1=>c61 w1 _ _ [x.id] (h1.vl_blk aPk) (by simp) (by intro x hx;simp only[List.mem_cons,List.mem_nil_iff,or_false]at hx;rcases hx with rfl<;>omega)) (aU2 ?_)
 exact rV
theorem c82(w:World)(p:Int)(x:SItm)(hp:0<=p/\p<4294967296)(hb:x.by_.length<=100000):CR 82 #[.int .i64 p,.agg #[.int .i64 x.id,.string (bs x.by_)]] w (.string (bs (nmB [p,XL x]))):=by
 have hil:XL x=16+(x.by_.length:Int):=rfl
 have l1:=QbG 4 p
 have l2:=QbG 4 (XL x)
 refine eN2 Tryz.func82 Tryz.ntmps82 ?_
 refine aU2 ?_
 refine oBx λb1 _=>?_
 refine aU3 ?_
 refine Qq [] Qx ?_
 refine dP 0 ?_
 refine dQ 1 [] rfl (Ql rfl Qiz rfl (λw1 h1=>c80 w1 (p) 4 om om)) (dFa 2 ?_)
 refine dLd 3 [] ?_
 refine dV 4 rfl (QN rfl rfl Tryz.underlying9) (dP 5 ?_)
 try refine dWr ?_
 refine Qs (show _=Value.int .i64 (XL x)from rfl) (dQ 6 [] rfl (Ql rfl Qiz rfl (λw1 h1=>c80 w1 (XL x) 4 om om)) (dV 7 rfl (Zj rfl rfl rfl (by(try simp only[List.length_append,List.length_cons,List.length_nil,List.length_replicate,List.length_take,List.length_drop]);omega)) (dP 8 ?_)))
 refine dNi ?_
 exact rV (h:=by rw[Qfl,Qfl];rfl)
theorem c44(w:World)(p:Int)(x:SItm)(hp:0<=p/\p<4294967296)(hi:0<=x.id/\x.id<4294967296)(hb:x.by_.length<=100000):CR 44 #[.agg #[.int .i64 x.id,.string (bs x.by_)],.int .i64 p] w (.agg #[.string (bs (Yg 3 x)),.string (bs (nmB [p,XL x]))]):=by
 have hh:=QbJ x.by_
 have l1:=QbG 4 (XD x.by_)
 have l2:=QbG 4 x.id
 refine eN2 Tryz.func44 Tryz.ntmps44 ?_
 refine aU2 ?_
 refine oBx λb1 _=>?_
 refine oAl (λb2 _=>?_) Xi
 refine aU2 ?_
 refine Qq [12] Qx ?_
 refine dFa 0 ?_
 refine dLd 1 [[]] ?_
 refine dQ 2 [[]] rfl (Ql rfl Qrk rfl (λw1 h1=>c81 w1 x.by_ om)) (dQ 3 [[]] rfl (Ql rfl Qiz rfl (λw1 h1=>c80 w1 (XD x.by_) 4 om om)) (dFa 4 ?_))
 refine dLd 5 [[]] ?_
 refine dQ 6 [[]] rfl (Ql rfl Qiz rfl (λw1 h1=>c80 w1 (x.id) 4 om om)) (dV 7 rfl (Zj rfl rfl rfl (by(try simp only[List.length_append,List.length_cons,List.length_nil,List.length_replicate,List.length_take,List.length_drop]);omega)) (dP 8 ?_))
 refine dLn 9 [[]] ?_
 refine dQ 10 [[]] rfl (Ql rfl Qpz rfl (λw1 h1=>c82 w1 p x hp hb)) (dV 11 rfl (QD (cs:=[_,_]) rfl rfl Qfc Xi rfl) (dSt 12 ?_ (hl:=(by simp only[Qe,List.length_set,List.length_cons,List.length_nil,List.length_map];omega))))
 refine dTu [] ?_
 refine dNi ?_
 exact Qf (rs:=[.cell 4 76]) rfl (.cell rfl Ye aPk rfl (.nil)) (λw' h'=>⟨by rw[Qfl,Qfl];rfl,h'.below⟩)
theorem c45(w:World)(p:Int)(x:SItm)(hp:0<=p/\p<4294967296)(hi:0<=x.id/\x.id<4294967296)(hb:x.by_.length<=100000):CR 45 #[.agg #[.int .i64 x.id,.string (bs x.by_)],.int .i64 p] w (.agg #[.string (bs (Yg 2 x)),.string (bs (nmB [p,XL x]))]):=by
 refine eN2 Tryz.func45 Tryz.ntmps45 ?_
 refine aU2 ?_
 refine oBx λb1 _=>?_
 refine oAl (λb2 _=>?_) Xi
 refine aU2 ?_
 refine Qq [7] Qx ?_
 refine dFa 0 ?_
 refine dLd 1 [[]] ?_
 refine dQ 2 [[]] rfl (Ql rfl Qiz rfl (λw1 h1=>c80 w1 (x.id) 4 om om)) (dP 3 ?_)
 refine dLn 4 [[]] ?_
 refine dQ 5 [[]] rfl (Ql rfl Qpz rfl (λw1 h1=>c82 w1 p x hp hb)) (dV 6 rfl (QD (cs:=[_,_]) rfl rfl Qfc Xi rfl) (dSt 7 ?_ (hl:=(by simp only[Qe,List.length_set,List.length_cons,List.length_nil,List.length_map];omega))))
 refine dTu [] ?_
 refine dNi ?_
 exact Qf (rs:=[.cell 4 76]) rfl (.cell rfl Ye aPk rfl (.nil)) (λw' h'=>⟨by rw[Qfl];rfl,h'.below⟩)
theorem Qpq:QH Tryz.prog 60=true:=by kernel_rfl
theorem QpA:QH Tryz.prog 64=true:=by kernel_rfl
instance:TFd Tryz.prog 68 1 1 66:=⟨by kernel_rfl⟩
instance:TSz Tryz.prog 66 1 false:=⟨by kernel_rfl⟩
theorem Qc5:tfd Tryz.prog 68 0=some (0,3):=by kernel_rfl
instance:TFd Tryz.prog 68 0 0 3:=⟨Qc5⟩
theorem QjQ:QH Tryz.prog 34=true:=by kernel_rfl
theorem Qmd:QH Tryz.prog 63=true:=by kernel_rfl
theorem Qib:QH Tryz.prog 27=true:=by kernel_rfl
theorem QkI:QH Tryz.prog 28=true:=by kernel_rfl
theorem QiS:QH Tryz.prog 29=true:=by kernel_rfl
set_option maxHeartbeats 2000000 in
theorem c34(w:World)(co q:Nat)(nx:Int)(a:Option Addr)(cap:Nat)(l:List SItm)(hs:Rw SItm.vals 2 w [] a l)(hm:l.length<=100000)(hb:∀x∈l,x.by_.length<=100000)(hst0:(QX nx l).2=0)(hq:QH Tryz.prog q=true)(hc:∀(w1:World)(x:SItm),(0<=x.id/\x.id<4294967296)->x.by_.length<=100000->Calls Tryz.prog q (#[]++[.agg #[.int .i64 x.id,.string (bs x.by_)]].toArray++ #[]) w1 λen w2=>en=.returned (.string (bs (Yg co x)))/\Below w1.heap.size w1 w2):CE 34 #[.agg #[.int .i64 (co:Int),.func (.func q) #[] #[]],.agg #[.int .i64 nx,.slice a l.length cap]] w [] (λg:Option Addr×Nat=>.slice g.1 (QG co l).length g.2) (λg=>True) λg=>[.own (.slice g.1 ((QG co l)).length g.2) 76 2 ((QG co l)).length (((QG co l)).flatMap TEnt.vals)]:=by
 obtain⟨hnx,hl60,hit9,hpl9⟩:=YS hst0
 refine eN2 Tryz.func34 Tryz.ntmps34 ?_
 refine aU2 ?_
 refine oBx λb1 _=>?_
 refine oBx λb2 _=>?_
 refine aU6 ?_
 refine oCh rfl (λw1 h1=>c52 w1 a cap l (hs.later h1) hm hb) (λ⟨pa,pc⟩_=>QqB ?_)
 refine Qg (L':=[(2,_),(4,_),(5,_),(7,_),(17,_),(18,_),(19,_)]) aSx (λ_ h=>h) ?_
 refine Qt (α:=Nat×Option Addr×Nat) [7,8,9,19,20,21,22,23,24,25,26,27,28,29,30,31,32,33,34,35,36,37,38,39,40,41,42] (λy=>[(19,.int .i64 (y.1:Int)),(7,.slice y.2.1 ((QG co l).take y.1).length y.2.2)]) (λy=>HS w [] [.own (.slice y.2.1 (((QG co l).take y.1)).length y.2.2) 76 2 (((QG co l).take y.1)).length ((((QG co l).take y.1)).flatMap TEnt.vals),.own (.slice pa l.length pc) 3 1 l.length ((QO l).1.map nv),.blk b2 24 2 [.int .i64 nx,.slice a l.length cap],.blk b1 68 2 [.int .i64 (co:Int),.func (.func q) #[] #[]]]) (λy=>y.1<=l.length) (λy=>l.length-y.1) (0,none,0) (Nat.zero_le _) aSx (λw h=>(h.own_nil 76 2).ent aEt) (λ⟨k,ga,gc⟩hk1=>?_)
 dsimp only
 simp only[]at hk1
 refine aU5 ?_
 refine sCd rfl (λh3=>?_) λh3=>?_
 ·have hk:k<l.length:=by omega
  have hrg:=Qa7 hst0 hk
  have hbk:(nth l k).by_.length<=100000:=hb _ (XH hk)
  have hpk:=Qa3 hb k om
  have hpl5:=Yu l
  have hil:XL (nth l k)=16+((nth l k).by_.length:Int):=rfl
  have hst:=Qiy (co:=co) hk
  have htl:=Qik (co:=co) (l:=l) (k:=k) om
  refine X0 (λw h=>Vl.some (HS.vl_own (a:=pa) (t:=3) h aPk) (by rw[List.length_map];omega)) λhsm=>aU6 ?_
  refine o_p (Qa rfl rfl rfl X6 (k) om om (Rw.some hs om)) rfl (o_q (Qu _ rfl rfl Qae rfl (Rw.rd hs hk)) rfl (oAl (λb4 _=>?_) QaC))
  refine aU3 ?_
  refine Qq [17] Qx ?_
  refine dP 0 ?_
  refine dFa 1 ?_
  refine dLd 2 [[14,4]] ?_
  refine dLn 3 [[14,4]] ?_
  refine dQ 4 [[14]] rfl (X3 rfl rfl hq rfl (λw1 h1=>hc w1 (nth l k) om hbk)) (dP 5 ?_)
  refine dP 6 ?_
  refine dV 7 rfl (Qa rfl rfl rfl QB (k) om om hsm) (dQ 8 [[14,13]] rfl (Qn rfl rfl Xq (λw h=>(HS.vl_own (a:=pa) (t:=3) h aPk).rd (QaX (k:=k) om))) (Qs (show _=Value.int .i64 (QO (l.take k)).2 from by rw[Qb4 hk]) (dFa 9 ?_)))
  refine dLd 10 [[14,13,12,11]] ?_
  refine dV 11 rfl (QN rfl rfl Tryz.underlying9) (dP 12 ?_)
  try refine dWr ?_
  refine Qs (show _=Value.int .i64 (XL (nth l k))from rfl) (dH 13 rfl (Qd (cs:=[_,_]) rfl rfl QB Yo rfl rfl rfl) (λb5 _=>dBa ?_))
  refine dQ 14 [[]] rfl (Ql rfl QkH rfl (λw1 h1=>c61 w1 _ _ [(QO (l.take k)).2,XL (nth l k)] (h1.vl_blk aPk) (by simp) (by intro x hx;simp only[List.mem_cons,List.mem_nil_iff,or_false]at hx;rcases hx with rfl|rfl<;>omega))) (Qs (show _=Value.string (bs (QpH l k))from rfl) (dV 15 rfl (QD (cs:=[_,_]) rfl rfl Qfc Xi rfl) (dH 16 rfl (Qd (cs:=[_,_]) rfl rfl QL Xi rfl rfl rfl) (λb6 _=>dBa ?_))))
  refine dH 17 rfl (Qy (TEnt.vals (QI co l k)) rfl rfl rfl QL Tryz.underlying62 Xi rfl aPk (Q5 aPk) rfl (ev1 _) om (by simp only[maxLen];omega)) (λb7 _=>dTu [] ?_)
  refine dP 18 ?_
  refine dNi ?_
  refine aU ?_
  refine Qg (L':=[(2,_),(4,_),(5,_),(7,_),(17,_),(18,_),(19,_)]) aSx (λ_ h=>h) ?_
  refine aT2 ?_
  refine aU2 ?_
  exact QR (k+1,b7.1,b7.2) (by(try simp only[]);omega) (by(try simp only[]);omega) (by dsimp only;rw[hst,List.length_append];exact aSx) (λw h=>by dsimp only;rw[hst,List.length_append,List.flatMap_append];simp only[List.flatMap_cons,List.flatMap_nil,List.append_nil];exact h.ent aEt)
 obtain rfl:k=l.length:=om
 rw[Qjk]
 refine Qi rfl ?_
 refine aU5 ?_
 exact rT rfl rfl (λw' h'=>⟨(ga,gc),rfl,trivial,h'.ent aEt⟩)
theorem c28e(w:World)(co q:Nat)(nx:Int)(a:Option Addr)(cap:Nat)(l:List SItm)(hs:Rw SItm.vals 2 w [] a l)(hm:l.length<=100000)(hb:∀x∈l,x.by_.length<=100000)(he:¬(QX nx l).2=0):CR 28 #[.agg #[.int .i64 (co:Int),.func (.func q) #[] #[]],.agg #[.int .i64 nx,.slice a l.length cap]] w (.tuple #[.agg #[.int .i64 0,.int .i64 0,.int .i64 0,.slice none 0 0],.int .i64 (QX nx l).2]):=by
 refine eN2 Tryz.func28 Tryz.ntmps28 ?_
 refine aU2 ?_
 refine oBx λb1 _=>?_
 refine oBx λb2 _=>?_
 refine oAl (λb3 _=>?_) Xw
 refine aU6 ?_
 refine oCq rfl (λw1 h1=>c31 w1 nx a cap l (hs.later h1) hm hb) (aU7 ?_)
 refine sCd rfl (λh4=>?_) λh4=>?_
 ·refine aU2 ?_
  refine o_p (QD (cs:=[_,_,_,_]) rfl rfl Qed Xw rfl) rfl (aU4 ?_)
  exact Qf (rs:=[.cell 4 27,.tmp 5]) rfl (.cell rfl Yf aPk rfl (.tmp rfl (.nil))) (λw' h'=>⟨by rfl,h'.below⟩)
 exfalso;exact he h4
set_option maxHeartbeats 2000000 in
theorem c28o(w:World)(co q:Nat)(nx:Int)(a:Option Addr)(cap:Nat)(l:List SItm)(hs:Rw SItm.vals 2 w [] a l)(hm:l.length<=100000)(hb:∀x∈l,x.by_.length<=100000)(hst0:(QX nx l).2=0)(hco:co=2\/co=3)(hq:QH Tryz.prog q=true)(hc:∀(w1:World)(x:SItm),(0<=x.id/\x.id<4294967296)->x.by_.length<=100000->Calls Tryz.prog q (#[]++[.agg #[.int .i64 x.id,.string (bs x.by_)]].toArray++ #[]) w1 λen w2=>en=.returned (.string (bs (Yg co x)))/\Below w1.heap.size w1 w2):CE 28 #[.agg #[.int .i64 (co:Int),.func (.func q) #[] #[]],.agg #[.int .i64 nx,.slice a l.length cap]] w [] (λg:(Nat×Nat)×List LNd=>.tuple #[.agg #[.int .i64 (co:Int),.int .i64 4,.int .i64 2,.slice (some ⟨g.1.1,0,none⟩) g.2.length g.1.2],.int .i64 0]) (λg=>pln g.2=(YT (co:Int) 4 2 (QG co l) l.length)) λg=>[.nodes 76 64 (some ⟨g.1.1,0,none⟩) g.1.2 g.2]:=by
 obtain⟨hnx,hl60,hit9,hpl9⟩:=YS hst0
 have hel:=Xz co l
 refine eN2 Tryz.func28 Tryz.ntmps28 ?_
 refine aU2 ?_
 refine oBx λb1 _=>?_
 refine oBx λb2 _=>?_
 refine oAl (λb3 _=>?_) Xw
 refine aU6 ?_
 refine oCq rfl (λw1 h1=>c31 w1 nx a cap l (hs.later h1) hm hb) (aU7 ?_)
 refine sCd rfl (λh4=>?_) λh4=>?_
 ·exfalso;exact h4 hst0
 refine aU2 ?_
 refine Qq [11] Qx ?_
 refine dFa 0 ?_
 refine dLd 1 [[]] ?_
 refine dLn 2 [[]] ?_
 refine dLn 3 [[]] ?_
 refine Qgp 4 10 rfl rfl (Q3 rfl QjQ rfl (λw1 h1=>c34 w1 co q nx a cap l (hs.later h1) hm hb hst0 hq hc)) (X9 rfl Xw) (by kernel_rfl) (λw h=>h.ent aEt) rfl rfl (λ⟨ea,ec⟩_=>?_) (λb5 _=>?_)
 ·skip
  refine dBa ?_
  refine Qgp 5 10 rfl rfl (Q3 rfl Qmd rfl (λw1 h1=>QpT w1 co 4 2 ea ec (QG co l) (HS.rw_own ev2 h1 aPk rfl) om om om (by decide) (λx hx=>QcR hx) (Qmn hco hst0))) (X9 rfl Xw) (by kernel_rfl) (λw h=>h.ent aEt) rfl rfl (λ⟨⟨gu,cu⟩,LU⟩hLU=>?_) (λb6 _=>?_)
  ·skip
   refine dBa ?_
   refine dP 6 ?_
   refine dP 7 ?_
   refine dP 8 ?_
   refine dP 9 ?_
   refine dH 10 rfl (X9 rfl Xw) (λb7 _=>dBa ?_)
   refine dSt 11 ?_ (hl:=(by simp only[Qe,List.length_set,List.length_cons,List.length_nil,List.length_map];omega))
   refine dTu [] ?_
   refine dP 12 ?_
   refine dP 13 ?_
   refine dNi ?_
   refine aU7 ?_
   exact Qf (rs:=[.cell 4 27,.tmp 5]) rfl (.cell rfl Yf aPk rfl (.tmp rfl (.nil))) (λw' h'=>⟨((gu,cu),LU),rfl,by rw[<-hel];exact hLU,h'.ent aEt⟩)
  skip
  refine dBa ?_
  refine dH 5 rfl (Q3 rfl Qmd rfl (λw1 h1=>QpT w1 co 4 2 ea ec (QG co l) (HS.rw_own ev2 h1 aPk rfl) om om om (by decide) (λx hx=>QcR hx) (Qmn hco hst0))) (λ⟨⟨gu,cu⟩,LU⟩hLU=>dBa ?_)
  refine dP 6 ?_
  refine dP 7 ?_
  refine dP 8 ?_
  refine dP 9 ?_
  refine dSt 11 ?_ (hl:=(by simp only[Qe,List.length_set,List.length_cons,List.length_nil,List.length_map];omega))
  refine dTu [] ?_
  refine dP 12 ?_
  refine dP 13 ?_
  refine dNi ?_
  refine aU7 ?_
  exact Qf (rs:=[.cell 4 27,.tmp 5]) rfl (.cell rfl Yf aPk rfl (.tmp rfl (.nil))) (λw' h'=>⟨((gu,cu),LU),rfl,by rw[<-hel];exact hLU,h'.ent aEt⟩)
 skip
 refine dBa ?_
 refine dH 4 rfl (Q3 rfl QjQ rfl (λw1 h1=>c34 w1 co q nx a cap l (hs.later h1) hm hb hst0 hq hc)) (λ⟨ea,ec⟩_=>dBa ?_)
 refine dH 5 rfl (Q3 rfl Qmd rfl (λw1 h1=>QpT w1 co 4 2 ea ec (QG co l) (HS.rw_own ev2 h1 aPk rfl) om om om (by decide) (λx hx=>QcR hx) (Qmn hco hst0))) (λ⟨⟨gu,cu⟩,LU⟩hLU=>dBa ?_)
 refine dP 6 ?_
 refine dP 7 ?_
 refine dP 8 ?_
 refine dP 9 ?_
 refine dSt 11 ?_ (hl:=(by simp only[Qe,List.length_set,List.length_cons,List.length_nil,List.length_map];omega))
 refine dTu [] ?_
 refine dP 12 ?_
 refine dP 13 ?_
 refine dNi ?_
 refine aU7 ?_
 exact Qf (rs:=[.cell 4 27,.tmp 5]) rfl (.cell rfl Yf aPk rfl (.tmp rfl (.nil))) (λw' h'=>⟨((gu,cu),LU),rfl,by rw[<-hel];exact hLU,h'.ent aEt⟩)
theorem c7e(w:World)(nx:Int)(a:Option Addr)(cap:Nat)(l:List SItm)(hs:Rw SItm.vals 2 w [] a l)(hm:l.length<=100000)(hb:∀x∈l,x.by_.length<=100000)(he:¬(QX nx l).2=0):CR 7 #[.agg #[.int .i64 nx,.slice a l.length cap]] w (.tuple #[.agg #[.int .i64 0,.int .i64 0,.int .i64 0,.slice none 0 0],.int .i64 (QX nx l).2]):=by
 refine eN1 Tryz.func7 Tryz.ntmps7 ?_
 refine aU2 ?_
 refine oBx λb1 _=>?_
 refine oAl (λb2 _=>?_) Xw
 refine aU3 ?_
 refine Qq [5] Qx ?_
 refine dQ 0 [[]] rfl (Ql rfl Qib rfl (λw1 h1=>c27 w1)) (dLn 1 [[]] ?_)
 refine dQ 2 [[]] rfl (Ql rfl QkI rfl (λw1 h1=>c28e w1 3 60 nx a cap l (hs.later h1) hm hb he)) (dP 3 ?_)
 refine dP 4 ?_
 refine dSt 5 ?_ (hl:=(by simp only[Qe,List.length_set,List.length_cons,List.length_nil,List.length_map];omega))
 refine dTu [] ?_
 refine dP 6 ?_
 refine dNi ?_
 exact Qf (rs:=[.cell 2 27,.tmp 3]) rfl (.cell rfl Yf aPk rfl (.tmp rfl (.nil))) (λw' h'=>⟨by rfl,h'.below⟩)
theorem c7o(w:World)(nx:Int)(a:Option Addr)(cap:Nat)(l:List SItm)(hs:Rw SItm.vals 2 w [] a l)(hm:l.length<=100000)(hb:∀x∈l,x.by_.length<=100000)(hst0:(QX nx l).2=0):CE 7 #[.agg #[.int .i64 nx,.slice a l.length cap]] w [] (λg:(Nat×Nat)×List LNd=>.tuple #[.agg #[.int .i64 (3:Int),.int .i64 4,.int .i64 2,.slice (some ⟨g.1.1,0,none⟩) g.2.length g.1.2],.int .i64 0]) (λg=>pln g.2=(YT (3:Int) 4 2 (QG 3 l) l.length)) λg=>[.nodes 76 64 (some ⟨g.1.1,0,none⟩) g.1.2 g.2]:=by
 refine eN1 Tryz.func7 Tryz.ntmps7 ?_
 refine aU2 ?_
 refine oBx λb1 _=>?_
 refine oAl (λb2 _=>?_) Xw
 refine aU3 ?_
 refine Qq [5] Qx ?_
 refine dQ 0 [[]] rfl (Ql rfl Qib rfl (λw1 h1=>c27 w1)) (dLn 1 [[]] ?_)
 refine dH 2 rfl (Q3 rfl QkI rfl (λw1 h1=>c28o w1 3 60 nx a cap l (hs.later h1) hm hb hst0 (by decide) Qpq (λw2 x hi hb2=>c60 w2 x hi hb2))) (λ⟨⟨gu,cu⟩,LU⟩hLU=>dBa ?_)
 refine dP 3 ?_
 refine dP 4 ?_
 refine dSt 5 ?_ (hl:=(by simp only[Qe,List.length_set,List.length_cons,List.length_nil,List.length_map];omega))
 refine dTu [] ?_
 refine dP 6 ?_
 refine dNi ?_
 exact Qf (rs:=[.cell 2 27,.tmp 3]) rfl (.cell rfl Yf aPk rfl (.tmp rfl (.nil))) (λw' h'=>⟨((gu,cu),LU),rfl,hLU,h'.ent aEt⟩)
theorem c9e(w:World)(nx:Int)(a:Option Addr)(cap:Nat)(l:List SItm)(hs:Rw SItm.vals 2 w [] a l)(hm:l.length<=100000)(hb:∀x∈l,x.by_.length<=100000)(he:¬(QX nx l).2=0):CR 9 #[.agg #[.int .i64 nx,.slice a l.length cap]] w (.tuple #[.agg #[.int .i64 0,.int .i64 0,.int .i64 0,.slice none 0 0],.int .i64 (QX nx l).2]):=by
 refine eN1 Tryz.func9 Tryz.ntmps9 ?_
 refine aU2 ?_
 refine oBx λb1 _=>?_
 refine oAl (λb2 _=>?_) Xw
 refine aU3 ?_
 refine Qq [5] Qx ?_
 refine dQ 0 [[]] rfl (Ql rfl QiS rfl (λw1 h1=>c29 w1)) (dLn 1 [[]] ?_)
 refine dQ 2 [[]] rfl (Ql rfl QkI rfl (λw1 h1=>c28e w1 2 64 nx a cap l (hs.later h1) hm hb he)) (dP 3 ?_)
 refine dP 4 ?_
 refine dSt 5 ?_ (hl:=(by simp only[Qe,List.length_set,List.length_cons,List.length_nil,List.length_map];omega))
 refine dTu [] ?_
 refine dP 6 ?_
 refine dNi ?_
 exact Qf (rs:=[.cell 2 27,.tmp 3]) rfl (.cell rfl Yf aPk rfl (.tmp rfl (.nil))) (λw' h'=>⟨by rfl,h'.below⟩)
theorem c9o(w:World)(nx:Int)(a:Option Addr)(cap:Nat)(l:List SItm)(hs:Rw SItm.vals 2 w [] a l)(hm:l.length<=100000)(hb:∀x∈l,x.by_.length<=100000)(hst0:(QX nx l).2=0):CE 9 #[.agg #[.int .i64 nx,.slice a l.length cap]] w [] (λg:(Nat×Nat)×List LNd=>.tuple #[.agg #[.int .i64 (2:Int),.int .i64 4,.int .i64 2,.slice (some ⟨g.1.1,0,none⟩) g.2.length g.1.2],.int .i64 0]) (λg=>pln g.2=(YT (2:Int) 4 2 (QG 2 l) l.length)) λg=>[.nodes 76 64 (some ⟨g.1.1,0,none⟩) g.1.2 g.2]:=by
 refine eN1 Tryz.func9 Tryz.ntmps9 ?_
 refine aU2 ?_
 refine oBx λb1 _=>?_
 refine oAl (λb2 _=>?_) Xw
 refine aU3 ?_
 refine Qq [5] Qx ?_
 refine dQ 0 [[]] rfl (Ql rfl QiS rfl (λw1 h1=>c29 w1)) (dLn 1 [[]] ?_)
 refine dH 2 rfl (Q3 rfl QkI rfl (λw1 h1=>c28o w1 2 64 nx a cap l (hs.later h1) hm hb hst0 (by decide) QpA (λw2 x hi hb2=>c64 w2 x hi hb2))) (λ⟨⟨gu,cu⟩,LU⟩hLU=>dBa ?_)
 refine dP 3 ?_
 refine dP 4 ?_
 refine dSt 5 ?_ (hl:=(by simp only[Qe,List.length_set,List.length_cons,List.length_nil,List.length_map];omega))
 refine dTu [] ?_
 refine dP 6 ?_
 refine dNi ?_
 exact Qf (rs:=[.cell 2 27,.tmp 3]) rfl (.cell rfl Yf aPk rfl (.tmp rfl (.nil))) (λw' h'=>⟨((gu,cu),LU),rfl,hLU,h'.ent aEt⟩)
theorem c32(w:World)(co mo rm:Int)(a:Option Addr)(cap:Nat)(L:List LNd)(hs:Nt w [] a L)(hB:Bd (pln L))(hkl:∀i,i<L.length->∀x∈(nth L i).es,x.key.length<=1000000):CR 32 #[.agg #[.int .i64 co,.int .i64 mo,.int .i64 rm,.slice a L.length cap]] w (.int .i64 (QZ (⟨co,mo,rm,pln L⟩:Tre)).2):=by
 refine eN1 Tryz.func32 Tryz.ntmps32 ?_
 refine aU2 ?_
 refine oBx λb1 _=>?_
 refine aU5 ?_
 refine oCq rfl (λw1 h1=>c66 w1 co mo rm a cap L (hs.later h1.nil) hB hkl) (YZ ?_)
 exact rV
end Go.Proofs
