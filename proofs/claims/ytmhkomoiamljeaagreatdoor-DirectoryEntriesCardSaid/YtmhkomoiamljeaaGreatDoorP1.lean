/- Contracts of the program's functions, proved by walking them with the rules of the Gx texts; without conditions beyond those that each contract names. -/
import Derived.WalkKit
import Derived.Deep.Draws
import Derived.TacticsIn
import Derived.OrdersIn
import Derived.RangeFuncLeaves
import Derived.Lib.Strings
import Derived.Laws.BytesArg
import Derived.Laws.IdiomStrings
import Derived.Deep.Quiet
import Derived.ProofKit
import Derived.OpenShut
import Derived.Laws.StructEq
import Derived.ChangeKeysEq
import Derived.Laws.Externs
import Derived.Lib.Overlaps
import Derived.Carry
import Derived.Laws.Small
import Derived.Lib.Bytealg
import Derived.Shelf.Small.Strs
import Derived.Shelf.Small.Wraps
import Derived.Shelf.Strconv.Itoa0
import Derived.Shelf.Strconv.Itoa1
import Derived.Shelf.LaysM
import Derived.Shelf.Strconv.Itoa2
import Derived.Shelf.Strconv.Itoa3
import Derived.Shelf.Strings.Search1
import Derived.Shelf.Strings.Search2
import Derived.Shelf.Strings.Cut
import Derived.Shelf.Strings.Shaped
import Derived.Shelf.Strings.LastIndex
import Derived.Shelf.Strings.LastIndexAll
import Derived.Shelf.Strings.Prefix
import Derived.Shelf.Slices.Turned
import Derived.Shelf.Slices.Reverse
import Derived.Shelf.Slices.Equal
import Derived.Ground.Names2Prog
import Derived.Shelf.Slices.Clone
import Derived.Shelf.Slices.SearchI
import Derived.Shelf.Slices.Delete
import Derived.Shelf.Slices.Cells
import Derived.Shelf.Slices.Empties
import Derived.Shelf.Slices.Empties2
import Derived.Ground.SlgnProg
import Derived.Shelf.SlicesE.Reverse
import Derived.Shelf.SlicesE.Delete
import Derived.Shelf.SlicesE.Clone
import Derived.Test.YtmhkomoiamljeaaGreatDoorProg
import Derived.KernelRfl
import Derived.Lib.LastIndexByte
import Derived.Lib.ItoaNum
import Derived.Lib.SmallJoins
import Derived.Lib.AppendIntMem
import Derived.RangeFuncRecord
import Derived.Lib.Builder
import Derived.Laws.Pointers
import Derived.Test.YtmhkomoiamljeaaGreatDoorTie
import Derived.Test.YtmhkomoiamljeaaGreatDoorCards
import Derived.SevenTiedAt
import Derived.LaidMore
import Derived.Lay
import Derived.Stop.Joined
import Derived.Test.YtmhkomoiamljeaaGreatDoorP0
set_option linter.unusedSimpArgs false
set_option maxHeartbeats 1000000
set_option linter.unusedVariables false
set_option linter.unusedSectionVars false
set_option linter.unnecessarySimpa false
namespace Go.Proofs
open Go Go.RowKit Gx
attribute [local irreducible] Go.Calls Gx.S Gx.O Gx.D Gx.OpP Gx.OpQ Gx.OpH
set_option maxRecDepth 20000
theorem YY:tsl Tryz.prog 185=some (34,1,8):=by kernel_rfl
theorem Qmu:tsz Tryz.prog 34=some (1,false):=by kernel_rfl
theorem Xr:tsl Tryz.prog 226=some (5,1,1):=by kernel_rfl
theorem QeJ:tsz Tryz.prog 5=some (1,false):=by kernel_rfl
instance:TSz Tryz.prog 5 1 false:=⟨QeJ⟩
theorem QgU:tsl Tryz.prog 69=some (9,1,16):=by kernel_rfl
theorem Qlg:tsz Tryz.prog 9=some (1,false):=by kernel_rfl
instance:TSz Tryz.prog 9 1 false:=⟨Qlg⟩
instance:TFn Tryz.prog 138:=⟨by kernel_rfl⟩
theorem Qf1{ss:List (List UInt8)}{k:Nat}(h:k<ss.length):(ss.map QfN)[k]?=some (.string (bs (ss.getD k []))):=QlY h
theorem YM{w w':World}(h:w'=w):Below w.heap.size w w':=by subst h;exact Below.refl _ _
theorem ib97(w:World)(l:List UInt8)(c:UInt8):Calls Tryz.prog 268 #[.string (bs l),.int .u8 (c.toNat:Int)] w λen w'=>en=.returned (.int .i64 (Lib.indexByte l c))/\Below w.heap.size w w':=
  (Tryz.strings_IndexByte (bs l) (c.toNat:Int) w).mono λe w' h=>⟨by rw[h.1];simp[bs],YM h.2⟩
theorem hs91(w:World)(s p:List UInt8)(hl:s.length<=9223372036854775807):Calls Tryz.prog 206 #[.string (bs s),.string (bs p)] w λen w'=>en=.returned (.bool (p.isSuffixOf s))/\Below w.heap.size w w':=
  (Tryz.strings_HasSuffix (bs s) (bs p) w (by simpa[bs,ByteArray.size]using hl)).mono λe w' h=>⟨by rw[h.1];simp[bs,Lib.hasSuffix],YM h.2⟩
theorem c27(w:World)(n lo hi:Int):CR 27 #[.int .i64 n,.int .i64 lo,.int .i64 hi] w (.bool (decide (lo<=n)&&decide (n<=hi))):=by
 refine eN3 Tryz.func27 Tryz.ntmps27 ?_
 refine Qcf ?_
 refine Qw 4 10 14 rfl
  (λhg1 _=>by
   refine aU6 ?_
   exact oJt 4 14)
  (λhg3 _=>by
   refine aU3 ?_
   exact oJf 4 14) ?_
 refine aU2 ?_
 exact rV
theorem Qfg(w:World)(ok:Bool)(e:Int):CR 138 #[.bool ok,.int .i64 e] w (.int .i64 (cond ok 0 e)):=by
 refine eN2 Tryz.func138 Tryz.ntmps138 ?_
 refine aU9 ?_
 refine sCd rfl (λh1=>?_) λh1=>?_
 ·refine aU4 ?_
  exact rV (h:=by simp_all[QB])
 refine aU6 ?_
 exact rV (h:=by simp_all[QB])
theorem c137(w:World)(a:Option Addr)(cap:Nat)(es:List Int)(hs:Sl w [] a 1 es.length (λi=>[.int .i64 (es.getD i 0)]))(hm:es.length<=1000):CR 137 #[.slice a es.length cap] w (.int .i64 (XA es)):=by
 refine eN1 Tryz.func137 Tryz.ntmps137 ?_
 refine Z2 ?_
 refine QU (α:=Nat) [2,4,7,8,9,10,11,12,13,14] (λk=>[(7,.int .i64 (k:Int))]) (λ_=>_) (λk=>k<=es.length/\XA es=XA (es.drop k)) (λk=>es.length-k) 0 ⟨om,rfl⟩ aSx (λw h=>h) (λk hk=>?_)
 obtain⟨hk1,hk2⟩:=hk
 refine aU5 ?_
 refine sCd rfl (λh1=>?_) λh1=>?_
 ·refine aU5 ?_
  refine o_p (Qh rfl rfl rfl YY _ rfl om (hs.some om)) rfl (o_q (XH rfl rfl Qmu (hs.rd (i:=k) (j:=0) om rfl)) rfl (aU7 ?_))
  refine sCd rfl (λh2=>?_) λh2=>?_
  ·refine aU5 ?_
   exact rV (h:=by simp only[QB];rw[hk2,Y5 om,if_neg (by assumption)])
  refine aT4 ?_
  refine aU2 ?_
  exact QN (k+1) om ⟨om,by rw[hk2,Y5 om,if_pos (by assumption)]⟩ aSx (λw h=>h)
 refine QE rfl ?_
 refine aU4 ?_
 exact rV (h:=by simp only[QB];rw[hk2,QcR om])
theorem f137{w0 w:World}{M:List Nat}{As As':List HA}{b cap n:Nat}{t:TypeId}{tot:Nat}{cs:List Value}(h:HS w0 M As w)(hp:QD As (.blk b t tot cs) As')(hc:cs.all Qfk=true)(hn:cs.length=n)(hl:n<=1000) :
    Calls Tryz.prog 137 #[.slice (some ⟨b,0,none⟩) n cap] w λen w'=>en=.returned (.int .i64 (Xy cs))/\Below w.heap.size w w':=by
  subst hn;have:=c137 w (some ⟨b,0,none⟩) cap (cs.map Go.RowKit.intOf) (by simpa using h.sl_ints hp hc) (by simpa using hl);rw[QbP hc]at this
  simpa using this
theorem c273(w:World)(a:Option Addr)(cap:Nat)(l:List (UInt8))(q:Nat)(cv:Array Value)(es:List Int)(hs:Vl w a (l.map bv))(hm:l.length<=1000000)(hq:Q7 Tryz.prog q=true)(he:es.length=l.length)(hc:∀k w1,k<l.length->HS w [] [] w1->Calls Tryz.prog q (#[]++[.int .u8 ((l.getD k 0).toNat:Int)].toArray++cv) w1 λen w2=>en=.returned (.int .i64 (es.getD k 0))/\Below w1.heap.size w1 w2):CR 273 #[.slice a l.length cap,.func (.func q) #[] cv] w (.tuple #[.int .i64 (XD es 0).1,.int .i64 (XD es 0).2]):=by
 refine eN2 Tryz.func273 Tryz.ntmps273 ?_
 refine QcQ ?_
 refine QU (α:=Nat) [4,5,6,7,8,11,12,13,14,15,16,17,18,19,20,21,22,23] (λk=>[(11,.int .i64 (k:Int))]) (λ_=>HS w [] []) (λk=>k<=l.length/\XD es 0=XD (es.drop k) k) (λk=>l.length-k) 0 ⟨om,rfl⟩ aSx (λw h=>h.ent aEt) (λk hk=>?_)
 obtain⟨hk1,hk2⟩:=hk
 refine aU5 ?_
 refine sCd rfl (λh1=>?_) λh1=>?_
 ·refine aU6 ?_
  refine o_p (Qh rfl rfl rfl Xr (k) om om (hs.some (by rw[List.length_map];omega))) rfl (o_q (XH rfl rfl QeJ ((hs.rd (QbS (k:=k) om)))) rfl (aU7 ?_))
  refine o_q (Qcl rfl rfl hq rfl (λw1 h1=>hc k w1 om (h1.ent aEt))) rfl (aU7 ?_)
  refine sCd rfl (λh2=>?_) λh2=>?_
  ·refine aU7 ?_
   exact Qn (rs:=[.tmp 4,.tmp 5]) rfl (.tmp rfl (.tmp rfl (.nil))) (λw' h'=>⟨by simp only[QB];rw[hk2,ZN om,if_neg (by assumption)],h'.below⟩)
  refine aT4 ?_
  refine aU2 ?_
  exact sBk (k+1) om ⟨om,by rw[hk2,ZN om,if_pos (by assumption)]⟩
 refine QE rfl ?_
 refine aU5 ?_
 exact Qn (rs:=[.tmp 4,.tmp 5]) rfl (.tmp rfl (.tmp rfl (.nil))) (λw' h'=>⟨by simp only[QB];rw[hk2,QdS om],h'.below⟩)
theorem c233(w:World)(a:Option Addr)(cap:Nat)(l:List (List UInt8))(q:Nat)(cv:Array Value)(es:List Int)(hs:Vl w a (l.map QfN))(hm:l.length<=1000000)(hq:Q7 Tryz.prog q=true)(he:es.length=l.length)(hc:∀k w1,k<l.length->HS w [] [] w1->Calls Tryz.prog q (#[]++[.string (bs (l.getD k []))].toArray++cv) w1 λen w2=>en=.returned (.int .i64 (es.getD k 0))/\Below w1.heap.size w1 w2):CR 233 #[.slice a l.length cap,.func (.func q) #[] cv] w (.tuple #[.int .i64 (XD es 0).1,.int .i64 (XD es 0).2]):=by
 refine eN2 Tryz.func233 Tryz.ntmps233 ?_
 refine QcQ ?_
 refine QU (α:=Nat) [4,5,6,7,8,11,12,13,14,15,16,17,18,19,20,21,22,23] (λk=>[(11,.int .i64 (k:Int))]) (λ_=>HS w [] []) (λk=>k<=l.length/\XD es 0=XD (es.drop k) k) (λk=>l.length-k) 0 ⟨om,rfl⟩ aSx (λw h=>h.ent aEt) (λk hk=>?_)
 obtain⟨hk1,hk2⟩:=hk
 refine aU5 ?_
 refine sCd rfl (λh1=>?_) λh1=>?_
 ·refine aU6 ?_
  refine o_p (Qh rfl rfl rfl QgU (k) om om (hs.some (by rw[List.length_map];omega))) rfl (o_q (XH rfl rfl Qlg ((hs.rd (Qf1 (k:=k) om)))) rfl (aU7 ?_))
  refine o_q (Qcl rfl rfl hq rfl (λw1 h1=>hc k w1 om (h1.ent aEt))) rfl (aU7 ?_)
  refine sCd rfl (λh2=>?_) λh2=>?_
  ·refine aU7 ?_
   exact Qn (rs:=[.tmp 4,.tmp 5]) rfl (.tmp rfl (.tmp rfl (.nil))) (λw' h'=>⟨by simp only[QB];rw[hk2,ZN om,if_neg (by assumption)],h'.below⟩)
  refine aT4 ?_
  refine aU2 ?_
  exact sBk (k+1) om ⟨om,by rw[hk2,ZN om,if_pos (by assumption)]⟩
 refine QE rfl ?_
 refine aU5 ?_
 exact Qn (rs:=[.tmp 4,.tmp 5]) rfl (.tmp rfl (.tmp rfl (.nil))) (λw' h'=>⟨by simp only[QB];rw[hk2,QdS om],h'.below⟩)
theorem c274(w:World)(c:UInt8):CR 274 #[.int .u8 (c.toNat:Int)] w (.int .i64 (QeL c)):=by
 have hlt:=c.toNat_lt
 refine eN1 Tryz.func274 Tryz.ntmps274 ?_
 refine aU8 ?_
 refine oCq rfl (λw1 h1=>Qfg w1 _ _) (aU2 ?_)
 exact rV (h:=by simp only[QB,QeL,cond_eq_ite,decide_eq_true_eq];congr 2;(try simp)<;>omega)
theorem c275(w:World)(b:Nat)(t:List UInt8)(c:UInt8)(hr:Rd w [] b 0 (.string (bs t)))(hc:c.toNat<t.length):CR 275 #[.int .u8 (c.toNat:Int),.pointer (some ⟨b,0,none⟩)] w (.int .i64 (Qkb t c)):=by
 have e9:((t.getD c.toNat 0).toNat:Int)=(c.toNat:Int) ↔ t.getD c.toNat 0=c:=⟨λh=>UInt8.toNat_inj.1 om,λh=>by rw[h]⟩
 refine eN2 Tryz.func275 Tryz.ntmps275 ?_
 refine aU6 ?_
 refine o_q (XH rfl rfl Qlg (hr)) rfl (aU ?_)
 refine o_p (Qo rfl rfl rfl Tryz.underlying9 (c.toNat) om om) rfl ?_
 refine aU2 ?_
 refine oCq rfl (λw1 h1=>Qfg w1 _ _) (aU2 ?_)
 exact rV (h:=by simp only[QB,Qkb,cond_eq_ite,decide_eq_true_eq,e9])
theorem Qel:Qs Tryz.prog 5=some [.int .u8 0]:=by kernel_rfl
theorem Qcg:tki Tryz.prog 3=some .i64:=by kernel_rfl
theorem Qdu:tki Tryz.prog 5=some .u8:=by kernel_rfl
instance:TFn Tryz.prog 268:=⟨by kernel_rfl⟩
theorem Qnf:tsz Tryz.prog 135=some (1,false):=by kernel_rfl
instance:TFn Tryz.prog 306:=⟨by kernel_rfl⟩
instance:TFn Tryz.prog 266:=⟨by kernel_rfl⟩
theorem QhL{L:List UInt8}{k:Nat}{x:UInt8}{v:Value}(h:k<L.length)(hv:v=bv x):Qb (L.map bv) (k*1) [v]=(L.set k x).map bv:=by
  subst hv;have h9:=Qba (vals:=byV) (sz:=1) (λ_=>rfl) L k 0 [bv x] (L.getD k 0) x (by rw[List.getElem?_eq_getElem h,List.getD_eq_getElem?_getD,List.getElem?_eq_getElem h];rfl) rfl (by simp);rw[Nat.add_zero]at h9;have e:∀M:List UInt8,M.flatMap byV=M.map bv:=λM=>Qbb bv M;rw[e,e]at h9;exact h9
def QbL(t s:List UInt8)(k:Nat):List UInt8:=(up t s).take k++s.drop k
theorem Qdl{t s:List UInt8}{k:Nat}(h:k<=s.length):(QbL t s k).length=s.length:=by simp[QbL,ZA];omega
theorem QjR{t s:List UInt8}{k:Nat}(h:k<s.length):(QbL t s k).getD k 0=s.getD k 0:=by
  unfold QbL;rw[List.getD_eq_getElem?_getD,List.getElem?_append_right (by simp[ZA];omega),List.getElem?_drop,List.getD_eq_getElem?_getD];congr 2;simp[ZA];omega
theorem QkU{t s:List UInt8}{k:Nat}(h:k<s.length):(QbL t s k).set k (t.getD (s.getD k 0).toNat 0)=QbL t s (k+1):=by
  unfold QbL up;apply List.ext_getElem?;intro j;simp only[List.getElem?_set,List.getElem?_append,List.getElem?_take,List.getElem?_drop,List.length_append,List.length_take,List.length_map,List.length_drop,List.getElem?_map,List.getD_eq_getElem?_getD];have hk:=List.getElem?_eq_getElem h
  grind
theorem QmD(t s:List UInt8):QbL t s 0=s:=by simp[QbL]
theorem QkV(t s:List UInt8):QbL t s s.length=up t s:=by simp[QbL,<-ZA t s]
def Qdx(k:Nat):List UInt8:=Qgl.take k++List.replicate (128-k) 0
theorem QcM:Qgl.length=128:=by simp[Qgl]
theorem QfP{k:Nat}(h:k<=128):(Qdx k).length=128:=by simp[Qdx,QcM];omega
theorem Qf7{k:Nat}(h:k<128):(Qdx k).set k (Qdv k)=Qdx (k+1):=by
  unfold Qdx;have hk:Qgl[k]?=some (Qdv k):=by unfold Qgl;rw[List.getElem?_map,List.getElem?_range h];rfl
  have hl:=QcM;apply List.ext_getElem?;intro j;simp only[List.getElem?_set,List.getElem?_append,List.getElem?_take,List.length_append,List.length_take,List.getElem?_replicate,List.length_replicate]
  grind
theorem Qlw(s:List UInt8)(p:UInt8->Bool):(!((s.map λc=>!p c).any id))=s.all p:=by
  induction s with
  | nil=>rfl
  | cons a s ih=>simp only[List.map_cons,List.any_cons,List.all_cons,id_eq,Bool.not_or,Bool.not_not,ih]
theorem QjJ(w:World)(t s:List UInt8)(hl:t.length=128)(hc:∀c∈s,c.toNat<128)(hm:s.length<=1000000):CR 172 #[.string (bs t),.string (bs s)] w (.string (bs (up t s))):=by
 refine eN2 Tryz.func172 Tryz.ntmps172 ?_
 refine aU7 ?_
 refine o_h (Y6 rfl rfl Tryz.underlying9 Tryz.underlying226 Tryz.underlying5 rfl (by simp only[maxLen];omega)) rfl (λ⟨b1,c2⟩⟨h3,k4⟩=>Qcf ?_)
 refine QU (α:=Nat) [6,7,12,13,14,15,16,17,18,19,20,21,22,23] (λk=>[(12,.int .i64 (k:Int))]) (λk=>HS w [] [.blk b1 5 c2 ((QbL t s k).map bv)]) (λk=>k<=s.length) (λk=>s.length-k) 0 (Nat.zero_le _) aSx (λw h=>by rw[QmD];exact h.ent aEt) (λk hk1=>?_)
 refine aU5 ?_
 refine sCd rfl (λh5=>?_) λh5=>?_
 ·have hk:k<s.length:=by omega
  have hck:=hc (s.getD k 0) (XX hk)
  refine aU6 ?_
  refine o_p (Qh rfl rfl rfl Xr (k) om om rfl) rfl (o_q (XW rfl rfl QeJ (λw h=>by rw[Nat.zero_add];exact h.rd_blk (Mc:=[]) aPk (by rw[Nat.mul_one,QbS (by rw[Qdl hk1];exact hk),QjR hk]) (by simp))) rfl (aU8 ?_))
  refine o_p (Qo rfl rfl rfl Tryz.underlying223 ((s.getD k 0).toNat) om om) rfl ?_
  refine o_p (Qh rfl rfl rfl Xr (k) om om rfl) rfl (Qi (show _=Value.pointer (some ⟨b1,k*1,none⟩)from by rw[Nat.zero_add]) (QgA (YD rfl rfl rfl QeJ rfl aPt (by rw[List.length_map,Qdl hk1];omega) rfl) (λ_ _=>aT4 ?_)))
  refine aU2 ?_
  exact QN (k+1) om om aSx (λw h=>by have h2:=HS.blk_to (b:=b1) h aPk (QhL (L:=QbL t s k) (x:=t.getD (s.getD k 0).toNat 0) (by rw[Qdl hk1];exact hk) rfl);rw[QkU hk]at h2;exact h2.ent aEt)
 obtain rfl:k=s.length:=om
 rw[QkV]
 refine QE rfl ?_
 refine aU3 ?_
 refine o_q (ZD rfl rfl Tryz.underlying226 Tryz.underlying9 Tryz.underlying5 aPk (by simp[ZA]) (Qas _)) rfl (aU2 ?_)
 exact rV (h:=by simp only[Zo];rfl)
theorem c82(w:World):CR 82 #[] w (.string (bs Qgl)):=by
 refine eN0 Tryz.func82 Tryz.ntmps82 ?_
 refine aU6 ?_
 refine o_h (Qgb (n:=128) rfl rfl rfl Xr Qel om om) rfl (λb1 _=>Qcf ?_)
 refine QU (α:=Nat) [2,6,7,8,9,10,11,12,13,14,15,16,17,18,19,20,21,22,23,24,25,26,27] (λk=>[(6,.int .i64 (k:Int))]) (λk=>HS w [] [.blk b1 5 (128*1) ((Qdx k).map bv)]) (λk=>k<=128) (λk=>128-k) 0 (Nat.zero_le _) aSx (λw h=>h.ent aEt) (λk hk1=>?_)
 refine aU5 ?_
 refine sCd rfl (λh2=>?_) λh2=>?_
 ·have hk:k<128:=by omega
  have hkm:k<(Qdx k).length:=by rw[QfP hk1];exact hk
  refine QcQ ?_
  refine o_p (QZ rfl rfl Qcg Qdu) rfl ?_
  refine Qi (show _=bv (UInt8.ofNat k)from by unfold bv;congr 1<;>(rw[UInt8.toNat_ofNat',Qck k om];omega)) (o_p (Qh rfl rfl rfl Xr (k) om om rfl) rfl (Qi (show _=Value.pointer (some ⟨b1,k*1,none⟩)from by rw[Nat.zero_add]) (aU7 ?_)))
  refine Qw 3 16 19 rfl
   (λhg3 _=>by
    refine aU4 ?_
    exact oJt 3 19)
   (λhg5 _=>by
    refine aU2 ?_
    exact oJf 3 19) ?_
  refine aU ?_
  refine sCd rfl (λh7=>?_) λh7=>?_
  ·have hsk:Qdv k=UInt8.ofNat (k-32):=by unfold Qdv;rw[if_pos om]
   refine aT5 ?_
   refine aT ?_
   refine o_p (QZ rfl rfl Qcg Qdu) rfl (Qi (show _=bv (Qdv k)from by rw[hsk];unfold bv;congr 1;rw[UInt8.toNat_ofNat',show((k:Int)-97+65)=((k-32:Nat):Int)from om,Qck _ om];omega) (o_p (Qh rfl rfl rfl Xr (k) om om rfl) rfl (Qi (show _=Value.pointer (some ⟨b1,k*1,none⟩)from by rw[Nat.zero_add]) (aT5 ?_))))
   refine aU2 ?_
   exact QN (k+1) om om aSx (λw h=>by have h1:=HS.blk_to (b:=b1) h aPk (show Qb (Qb ((Qdx k).map bv) (k*1) [bv (UInt8.ofNat k)]) (k*1) [bv (Qdv k)]=((Qdx k).set k (Qdv k)).map bv from by rw[QhL hkm rfl,QhL (by rw[List.length_set];exact hkm) rfl,List.set_set]);rw[Qf7 hk]at h1;exact h1.ent aEt)
  have hsk:Qdv k=UInt8.ofNat k:=by unfold Qdv;rw[if_neg om]
  refine aT4 ?_
  refine aU2 ?_
  exact QN (k+1) om om aSx (λw h=>by have h1:=HS.blk_to (b:=b1) h aPk (QhL (x:=UInt8.ofNat k) hkm rfl);rw[<-hsk,Qf7 hk]at h1;exact h1.ent aEt)
 obtain rfl:k=128:=om
 refine QE rfl ?_
 refine aU3 ?_
 refine o_q (ZD rfl rfl Tryz.underlying226 Tryz.underlying9 Tryz.underlying5 aPk (by simp[QfP]) (Qas _)) rfl (aU2 ?_)
 exact rV (h:=by simp only[Zo];simp[Qdx,QcM,List.take_of_length_le];rfl)
theorem c205(w:World)(c:UInt8):CR 205 #[.int .u8 (c.toNat:Int)] w (.bool (XN c)):=by
 have e1:((32:Int)<=(c.toNat:Int)) ↔ 32<=c.toNat:=om
 have e2:((c.toNat:Int)<=126) ↔ c.toNat<=126:=om
 have e3:decide (Lib.indexByte Q0 c<0)= !(Q0.contains c):=by by_cases h:c∈Q0;(rw[decide_eq_false (λh9=>Zj.1 h9 h)];simp[h]);(rw[decide_eq_true (Zj.2 h)];simp[h])
 refine eN1 Tryz.func205 Tryz.ntmps205 ?_
 refine aU9 ?_
 refine Qw 3 5 8 rfl
  (λhg1 _=>by
   refine aU4 ?_
   exact oJt 3 8)
  (λhg3 _=>by
   refine aU2 ?_
   exact oJf 3 8) ?_
 refine aU ?_
 refine Qw 4 9 13 rfl
  (λhg5 _=>by
   refine aU3 ?_
   refine oCq rfl (λw1 h1=>ib97 w1 Q0 c) (aU2 ?_)
   exact oJt 4 13)
  (λhg7 _=>by
   refine aU3 ?_
   exact oJf 4 13) ?_
 refine aU2 ?_
 exact rV (h:=by simp only[QB,XN,e1,e2,e3])
theorem c267(w:World)(b q:Nat)(cv:Array Value)(c:UInt8)(r:Bool)(hr:Rd w [] b 0 (.func (.func q) #[] cv))(hq:Q7 Tryz.prog q=true)(hc:∀w1,HS w [] [] w1->Calls Tryz.prog q (#[]++[.int .u8 (c.toNat:Int)].toArray++cv) w1 λen w2=>en=.returned (.bool r)/\Below w1.heap.size w1 w2):CR 267 #[.int .u8 (c.toNat:Int),.pointer (some ⟨b,0,none⟩)] w (.bool (!r)):=by
 refine eN2 Tryz.func267 Tryz.ntmps267 ?_
 refine aU6 ?_
 refine o_q (XH rfl rfl Qnf (hr)) rfl (aU ?_)
 refine o_q (Qcl rfl rfl hq rfl (λw1 h1=>hc w1 (h1.ent aEt))) rfl (aU3 ?_)
 exact rV
theorem c306(w:World)(a:Option Addr)(cap:Nat)(l:List UInt8)(q:Nat)(cv:Array Value)(bt:List Bool)(hs:Vl w a (l.map bv))(hm:l.length<=1000000)(hq:Q7 Tryz.prog q=true)(hb:bt.length=l.length)(hc:∀k w1,k<l.length->HS w [] [] w1->Calls Tryz.prog q (#[]++[.int .u8 ((l.getD k 0).toNat:Int)].toArray++cv) w1 λen w2=>en=.returned (.bool (bt.getD k false))/\Below w1.heap.size w1 w2):CR 306 #[.slice a l.length cap,.func (.func q) #[] cv] w (.int .i64 (ixI bt)):=by
 refine eN2 Tryz.func306 Tryz.ntmps306 ?_
 refine Z2 ?_
 refine QU (α:=Nat) [4,5,8,9,10,11,12,13,14,15,16,17,18] (λk=>[(8,.int .i64 (k:Int))]) (λ_=>_) (λk=>k<=l.length/\∀i,i<k->bt.getD i false=false) (λk=>l.length-k) 0 ⟨om,λi h=>absurd h (Nat.not_lt_zero i)⟩ aSx (λw h=>h) (λk hk=>?_)
 obtain⟨hk1,hk2⟩:=hk
 refine aU5 ?_
 refine sCd rfl (λh1=>?_) λh1=>?_
 ·refine QcQ ?_
  refine o_p (Qh rfl rfl rfl Xr (k) om om (hs.some (by rw[List.length_map];omega))) rfl (o_q (XH rfl rfl QeJ ((hs.rd (QbS (k:=k) om)))) rfl (o_q (Qcl rfl rfl hq rfl (λw1 h1=>hc k w1 om (h1.ent aEt))) rfl (aU ?_)))
  refine sCd rfl (λh2=>?_) λh2=>?_
  ·refine aU5 ?_
   exact rV (h:=by have e:=Qgp (l:=bt) (k:=k) om hk2 (λ_=>by assumption);simp only[QB,ixI,e];rw[if_pos om])
  refine aT4 ?_
  refine aU2 ?_
  exact QN (k+1) om ⟨om,λi hi=>(Nat.lt_or_ge i k).elim (hk2 i) (λh=>by obtain rfl:i=k:=om;assumption)⟩ aSx (λw h=>h)
 refine QE rfl ?_
 refine aU4 ?_
 exact rV (h:=by have e:=Qgp (l:=bt) (k:=k) om hk2 (λh=>om);simp only[QB,ixI,e];rw[if_neg om])
theorem c266(w:World)(a:Option Addr)(cap:Nat)(l:List UInt8)(q:Nat)(cv:Array Value)(bt:List Bool)(hs:Vl w a (l.map bv))(hm:l.length<=1000000)(hq:Q7 Tryz.prog q=true)(hb:bt.length=l.length)(hc:∀k w1,k<l.length->HS w [] [] w1->Calls Tryz.prog q (#[]++[.int .u8 ((l.getD k 0).toNat:Int)].toArray++cv) w1 λen w2=>en=.returned (.bool (bt.getD k false))/\Below w1.heap.size w1 w2):CR 266 #[.slice a l.length cap,.func (.func q) #[] cv] w (.bool (bt.any id)):=by
 refine eN2 Tryz.func266 Tryz.ntmps266 ?_
 refine aU8 ?_
 refine oCq rfl (λw1 h1=>c306 w1 a cap l q cv bt (hs.later h1) hm hq hb (λk w2 hk h2=>hc k w2 hk (by simpa using h1.call h2))) (aU3 ?_)
 exact rV (h:=by simp only[QB];rw[<-Qle])
theorem Qna(w:World)(s:List UInt8)(q:Nat)(cv:Array Value)(p:UInt8->Bool)(hm:s.length<=1000000)(hq:Q7 Tryz.prog q=true)(hc:∀k w1,k<s.length->HS w [] [] w1->Calls Tryz.prog q (#[]++[.int .u8 ((s.getD k 0).toNat:Int)].toArray++cv) w1 λen w2=>en=.returned (.bool (p (s.getD k 0)))/\Below w1.heap.size w1 w2):CR 204 #[.string (bs s),.func (.func q) #[] cv] w (.bool (s.all p)):=by
 refine eN2 Tryz.func204 Tryz.ntmps204 ?_
 refine aU2 ?_
 refine oBx λb1 _=>?_
 refine aU5 ?_
 refine o_h (Y6 rfl rfl Tryz.underlying9 Tryz.underlying226 Tryz.underlying5 rfl (by simp only[maxLen];omega)) rfl (λ⟨b2,c3⟩⟨h4,k5⟩=>aU ?_)
 refine oCq rfl (λw1 h1=>c266 w1 _ _ s 267 #[.pointer (some ⟨b1,0,none⟩)] (s.map λc=>!p c) (h1.vl_blk aPk) hm (by kernel_rfl) (by simp) (λk w2 hk h2=>by rw[Z5 (d:=0) hk];exact c267 w2 b1 q cv _ _ ((h1.rd_blk (Mc:=[]) (b:=b1) aPk rfl (by simp)).next h2) hq (λw3 h3=>hc k w3 hk ((h1.call h2).call h3).nil))) (aU3 ?_)
 exact rV (h:=by simp only[QB];rw[Qlw])
instance:TFn Tryz.prog 204:=⟨by kernel_rfl⟩
instance:TFn Tryz.prog 206:=⟨by kernel_rfl⟩
instance:TFn Tryz.prog 139:=⟨by kernel_rfl⟩
theorem Qbv:Qs Tryz.prog 34=some [.int .i64 0]:=by kernel_rfl
instance:TFn Tryz.prog 137:=⟨by kernel_rfl⟩
instance:TFn Tryz.prog 205:=⟨by kernel_rfl⟩
instance:TFn Tryz.prog 273:=⟨by kernel_rfl⟩
instance:TFn Tryz.prog 217:=⟨by kernel_rfl⟩
instance:TFn Tryz.prog 233:=⟨by kernel_rfl⟩
instance:TFn Tryz.prog 146:=⟨by kernel_rfl⟩
theorem Qby{a b:Int}:Xy [.int .i64 a,.int .i64 b]=if a=0 then b else a:=by
  simp only[Xy]
  grind
theorem Qlu{a b c:Int}:Xy [.int .i64 a,.int .i64 b,.int .i64 c]=if a=0 then if b=0 then c else b else a:=by
  simp only[Xy]
  grind
def openE(t:List UInt8)(l:List (List UInt8)):Int:=if(XT t).2=0 then XA (l.map Q2)else(XT t).2
theorem Qlc{s:List UInt8}:Xy [.int .i64 (bif decide (s.length<=32)then 0 else 8),.int .i64 (bif YU s then 0 else 4)]=Q2 s:=by
  rw[Qby];unfold Q2
  by_cases h:s.length<=32
  · simp[h,cond_eq_ite]
  · simp[h]
theorem c139(w:World)(s:List UInt8)(hm:s.length<=1000000):CR 139 #[.string (bs s)] w (.bool (YU s)):=by
 have e1:((s.length:Int)<=32) ↔ s.length<=32:=om
 refine eN1 Tryz.func139 Tryz.ntmps139 ?_
 refine aU9 ?_
 refine Qw 4 5 9 rfl
  (λhg1 _=>by
   refine aU3 ?_
   refine o_p (Qf rfl rfl Tryz.underlying9) rfl (aU2 ?_)
   exact oJt 4 9)
  (λhg3 _=>by
   refine aU3 ?_
   exact oJf 4 9) ?_
 refine aU ?_
 refine Qw 3 10 13 rfl
  (λhg5 _=>by
   refine aU3 ?_
   refine oCq rfl (λw1 h1=>Qna w1 s 205 #[] XN hm (by kernel_rfl) (λk w2 hk h2=>c205 w2 _)) ?_
   exact oJt 3 13)
  (λhg7 _=>by
   refine aU2 ?_
   exact oJf 3 13) ?_
 refine aU ?_
 refine Qw 3 14 17 rfl
  (λhg9 _=>by
   refine aU4 ?_
   exact oJt 3 17)
  (λhg11 _=>by
   refine aU2 ?_
   exact oJf 3 17) ?_
 refine aU ?_
 refine Qw 4 18 22 rfl
  (λhg13 _=>by
   refine aU3 ?_
   refine oCq rfl (λw1 h1=>hs91 w1 s [32] om) (aU2 ?_)
   exact oJt 4 22)
  (λhg15 _=>by
   refine aU3 ?_
   exact oJf 4 22) ?_
 refine aU ?_
 refine Qw 4 23 27 rfl
  (λhg17 _=>by
   refine aU3 ?_
   refine oCq rfl (λw1 h1=>hs91 w1 s [46] om) (aU2 ?_)
   exact oJt 4 27)
  (λhg19 _=>by
   refine aU3 ?_
   exact oJf 4 27) ?_
 refine aU2 ?_
 exact rV (h:=by simp only[QB,YU,e1])
theorem c75(w:World)(s:List UInt8)(hm:s.length<=1000000):CR 75 #[.string (bs s)] w (.int .i64 (Q2 s)):=by
 have e1:((s.length:Int)<=32) ↔ s.length<=32:=om
 refine eN1 Tryz.func75 Tryz.ntmps75 ?_
 refine aU7 ?_
 refine o_p (Qf rfl rfl Tryz.underlying9) rfl (aU ?_)
 refine oCq rfl (λw1 h1=>Qfg w1 _ _) (aU ?_)
 refine oCq rfl (λw1 h1=>c139 w1 s hm) (oCq rfl (λw1 h1=>Qfg w1 _ _) (o_h (Qp (cs:=[_,_]) rfl rfl YY Qbv rfl rfl rfl) rfl (λb1 _=>oCq rfl (λw1 h1=>f137 h1 aPk (by rfl) (by rfl) (by decide)) (aU2 ?_))))
 exact rV (h:=by rw[<-Qlc];simp only[QB,e1])
theorem c218(w:World)(c:UInt8):CR 218 #[.int .u8 (c.toNat:Int)] w (.bool (QhP c)):=by
 have e1:((c.toNat:Int)=63) ↔ c=63:=⟨λh=>UInt8.toNat_inj.1 (by show c.toNat=63;omega),λh=>by rw[h];rfl⟩
 have e2:((c.toNat:Int)=42) ↔ c=42:=⟨λh=>UInt8.toNat_inj.1 (by show c.toNat=42;omega),λh=>by rw[h];rfl⟩
 refine eN1 Tryz.func218 Tryz.ntmps218 ?_
 refine aU9 ?_
 refine oOr 3 5 8 rfl
  (λhg1 _=>by
   refine aU4 ?_
   exact oJf 3 8)
  (λhg3 _=>by
   refine aU2 ?_
   exact oJt 3 8) ?_
 refine aU ?_
 refine oOr 3 9 12 rfl
  (λhg5 _=>by
   refine aU3 ?_
   refine oCq rfl (λw1 h1=>c205 w1 c) ?_
   exact oJf 3 12)
  (λhg7 _=>by
   refine aU2 ?_
   exact oJt 3 12) ?_
 refine aU2 ?_
 exact rV (h:=by simp only[QB,QhP,e1,e2])
theorem c147(w:World)(s:List UInt8)(hm:s.length<=1000000):CR 147 #[.string (bs s)] w (.int .i64 (QfM s)):=by
 have e1:((s.length:Int)<=64) ↔ s.length<=64:=om
 refine eN1 Tryz.func147 Tryz.ntmps147 ?_
 refine aU7 ?_
 refine oCq rfl (λw1 h1=>Qna w1 s 218 #[] QhP hm (by kernel_rfl) (λk w2 hk h2=>c218 w2 _)) (aU5 ?_)
 refine o_p (Qf rfl rfl Tryz.underlying9) rfl (aU ?_)
 refine oCq rfl (λw1 h1=>Qfg w1 _ _) (aU3 ?_)
 refine Qw 2 12 14 rfl
  (λhg1 _=>by
   refine aU2 ?_
   exact oJt 2 14)
  (λhg3 _=>by
   refine aU ?_
   exact oJf 2 14) ?_
 refine oCq rfl (λw1 h1=>Qfg w1 _ _) (o_h (Qp (cs:=[_,_]) rfl rfl YY Qbv rfl rfl rfl) rfl (λb5 _=>oCq rfl (λw1 h1=>f137 h1 aPk (by rfl) (by rfl) (by decide)) (aU2 ?_)))
 exact rV (h:=by simp only[QB,e1];rw[Qby];unfold QfM;by_cases h:s.length<=64<;>simp[h,cond_eq_ite])
theorem c217(w:World)(t:List UInt8)(hm:t.length<=1000000):CR 217 #[.string (bs t)] w (.tuple #[.int .i64 (XT t).1,.int .i64 (XT t).2]):=by
 refine eN1 Tryz.func217 Tryz.ntmps217 ?_
 refine aU2 ?_
 refine oBx λb1 _=>?_
 refine aU7 ?_
 refine o_p (Qf rfl rfl Tryz.underlying9) rfl (aU2 ?_)
 refine sCd rfl (λh2=>?_) λh2=>?_
 ·have hl:¬t.length=128:=by have hq:=h2;omega
  refine aU5 ?_
  exact Qn (rs:=[.tmp 2,.tmp 3]) rfl (.tmp rfl (.tmp rfl (.nil))) (λw' h'=>⟨by rw[XT,if_neg hl];rfl,h'.below⟩)
 have hl:t.length=128:=by have hq:=h2;omega
 refine aU5 ?_
 refine o_h (Y6 rfl rfl Tryz.underlying9 Tryz.underlying226 Tryz.underlying5 rfl (by simp only[maxLen];omega)) rfl (λ⟨b3,c4⟩⟨h5,k6⟩=>oCq rfl (λw1 h1=>c273 w1 _ _ t 274 #[] (t.map QeL) (h1.vl_blk aPk) hm (by kernel_rfl) (by simp) (λk w2 hk h2=>by rw[Z5 (d:=0) hk];exact c274 w2 _)) (Qgz ?_))
 refine sCd rfl (λh7=>?_) λh7=>?_
 ·have h0:¬(XD (t.map QeL) 0).2=0:=h7
  refine aU7 ?_
  exact Qn (rs:=[.tmp 2,.tmp 3]) rfl (.tmp rfl (.tmp rfl (.nil))) (λw' h'=>⟨by rw[XT,if_pos hl,if_neg h0];rfl,h'.below⟩)
 have h0:(XD (t.map QeL) 0).2=0:=h7
 refine aU4 ?_
 refine o_h (Y6 rfl rfl Tryz.underlying9 Tryz.underlying226 Tryz.underlying5 rfl (by simp only[maxLen];omega)) rfl (λ⟨b8,c9⟩⟨h10,k11⟩=>aU ?_)
 refine oCq rfl (λw1 h1=>c273 w1 _ _ t 275 #[.pointer (some ⟨b1,0,none⟩)] (t.map (Qkb t)) (h1.vl_blk aPk) hm (by kernel_rfl) (by simp) (λk w2 hk h2=>by rw[Z5 (d:=0) hk];exact c275 w2 b1 t _ ((h1.rd_blk (Mc:=[]) (b:=b1) aPk rfl (by simp)).next h2) (by have h9:=Qbc.1 h0 _ (List.mem_map.2 ⟨_,XX (d:=0) hk,rfl⟩);unfold QeL at h9;split at h9;(rw[hl];assumption);(exact absurd h9 (by decide))))) (aU5 ?_)
 exact Qn (rs:=[.tmp 2,.tmp 3]) rfl (.tmp rfl (.tmp rfl (.nil))) (λw' h'=>⟨by rw[XT,if_pos hl,if_pos h0];rfl,h'.below⟩)
theorem c146(w:World)(t:List UInt8)(hm:t.length<=1000000):CR 146 #[.string (bs t)] w (.tuple #[.string (bs t),.int .i64 (XT t).2]):=by
 refine eN1 Tryz.func146 Tryz.ntmps146 ?_
 refine aU8 ?_
 refine oCq rfl (λw1 h1=>c217 w1 t hm) (QcQ ?_)
 exact Qn (rs:=[.tmp 2,.tmp 3]) rfl (.tmp rfl (.tmp rfl (.nil))) (λw' h'=>⟨rfl,h'.below⟩)
theorem c173(w:World)(a:Option Addr)(cap:Nat)(l:List (List UInt8))(hs:Vl w a (l.map QfN))(hl:l.length<=1000000)(hml:∀s∈l,s.length<=1000000):CR 173 #[.slice a l.length cap] w (.int .i64 (QbG l)):=by
 have e1:((l.length:Int)<=200) ↔ l.length<=200:=om
 refine eN1 Tryz.func173 Tryz.ntmps173 ?_
 refine aU7 ?_
 refine oCq rfl (λw1 h1=>c233 w1 a cap l 75 #[] (l.map Q2) (hs.later h1) om (by kernel_rfl) (by simp) (λk w2 hk h2=>by rw[Z5 (d:=[]) hk];exact c75 w2 _ (hml _ (XX hk)))) (Qgz ?_)
 refine oCq rfl (λw1 h1=>Qfg w1 _ _) (aU ?_)
 refine o_h (Qp (cs:=[_,_]) rfl rfl YY Qbv rfl rfl rfl) rfl (λb1 _=>oCq rfl (λw1 h1=>f137 h1 aPk (by rfl) (by rfl) (by decide)) (aU2 ?_))
 exact rV (h:=by simp only[QB,e1];rw[Qby,Y9];unfold QbG;by_cases h:l.length<=200<;>simp[h])
theorem c170(w:World)(t:List UInt8)(a:Option Addr)(cap:Nat)(l:List (List UInt8))(hm:t.length<=1000000)(hs:Vl w a (l.map QfN))(hl:l.length<=1000000)(hml:∀s∈l,s.length<=1000000):CR 170 #[.string (bs t),.slice a l.length cap] w (.tuple #[.string (bs t),.int .i64 (openE t l)]):=by
 refine eN2 Tryz.func170 Tryz.ntmps170 ?_
 refine aU8 ?_
 refine oCq rfl (λw1 h1=>c146 w1 t hm) (aU9 ?_)
 refine oCq rfl (λw1 h1=>c233 w1 a cap l 75 #[] (l.map Q2) (hs.later h1) om (by kernel_rfl) (by simp) (λk w2 hk h2=>by rw[Z5 (d:=[]) hk];exact c75 w2 _ (hml _ (XX hk)))) (Qgz ?_)
 refine o_h (Qp (cs:=[_,_]) rfl rfl YY Qbv rfl rfl rfl) rfl (λb1 _=>oCq rfl (λw1 h1=>f137 h1 aPk (by rfl) (by rfl) (by decide)) (aU3 ?_))
 exact Qn (rs:=[.tmp 4,.tmp 5]) rfl (.tmp rfl (.tmp rfl (.nil))) (λw' h'=>⟨by simp only[QB];rw[Qby,Y9];rfl,h'.below⟩)
theorem QfI{t:List UInt8}{l:List (List UInt8)}(h:openE t l=0):(XT t).2=0/\∀s∈l,Q2 s=0:=by
  unfold openE at h;split at h
  · rename_i h1;exact⟨h1,λs hs=>Qft.1 h _ (List.mem_map.2 ⟨s,hs,rfl⟩)⟩
  · rename_i h1;exact absurd h h1
end Go.Proofs
namespace Go.Proofs
open Go Go.RowKit Gx
theorem Qhj{L:List Bool}{k:Nat}{x:Bool}{v:Value}(h:k<L.length)(hv:v=.bool x):Qb (L.map Value.bool) (k*1) [v]=(L.set k x).map Value.bool:=by
 subst hv;have h9:=Qba (vals:=λb:Bool=>[Value.bool b]) (sz:=1) (λ_=>rfl) L k 0 [.bool x] (L.getD k false) x (by rw[List.getElem?_eq_getElem h,List.getD_eq_getElem?_getD,List.getElem?_eq_getElem h];rfl) rfl (by simp);rw[Nat.add_zero,Qbb,Qbb]at h9;exact h9
theorem QeU{l:List Bool}{k:Nat}(h:k<l.length):(l.map Value.bool)[k]?=some (.bool (l.getD k false)):=by
 simp[List.getD_eq_getElem?_getD,List.getElem?_eq_getElem h]
def Qcd(t s r:List UInt8):List Bool:=(List.range (s.length+1)).map (mtR t s r)
def Zx(t s r:List UInt8)(i:Nat):List Bool:=(Qcd t s r).take i++List.replicate (s.length+1-i) false
theorem X2{t s r:List UInt8}:(Qcd t s r).length=s.length+1:=by simp[Qcd]
theorem Qc6{t s r:List UInt8}{i:Nat}(h:i<s.length+1):(Qcd t s r).getD i false=mtR t s r i:=by
 unfold Qcd;rw[List.getD_eq_getElem?_getD,List.getElem?_map,List.getElem?_range h];rfl
theorem Qei{t s r:List UInt8}{i:Nat}(h:i<s.length+1):(Qcd t s r)[i]?=some (mtR t s r i):=by
 unfold Qcd;rw[List.getElem?_map,List.getElem?_range h];rfl
theorem YN{t s r:List UInt8}{i:Nat}(h:i<=s.length+1):(Zx t s r i).length=s.length+1:=by simp[Zx,X2];omega
theorem Qbh{t s r:List UInt8}{i:Nat}(h:i<s.length+1):(Zx t s r i).set i (mtR t s r i)=Zx t s r (i+1):=by
 have h1:=Qei (t:=t) (r:=r) h;have hl:=X2 (t:=t) (s:=s) (r:=r);unfold Zx;apply List.ext_getElem?;intro j;simp only[List.getElem?_set,List.getElem?_append,List.getElem?_take,List.length_append,List.length_take,List.getElem?_replicate,List.length_replicate]
 grind
theorem Qis{t s r:List UInt8}{i:Nat}(h:i<s.length+1)(hf:mtR t s r i=false):Zx t s r i=Zx t s r (i+1):=by
 rw[<-Qbh h,hf];unfold Zx;have hl:=X2 (t:=t) (s:=s) (r:=r);apply List.ext_getElem?;intro j;simp only[List.getElem?_set,List.getElem?_append,List.getElem?_take,List.length_append,List.length_take,List.getElem?_replicate,List.length_replicate]
 grind
theorem Qjs{t s r:List UInt8}{i j:Nat}(h:i<=s.length+1)(hj:j<i):(Zx t s r i).getD j false=mtR t s r j:=by
 unfold Zx;rw[List.getD_eq_getElem?_getD,List.getElem?_append_left (by rw[List.length_take,X2];omega),List.getElem?_take,if_pos hj,Qei om];rfl
theorem Qj2{t s r:List UInt8}:Zx t s r (s.length+1)=Qcd t s r:=by
 unfold Zx;rw[Nat.sub_self,List.replicate_zero,List.append_nil,List.take_of_length_le (by rw[X2];exact Nat.le_refl _)]
theorem QmL{t s r:List UInt8}:Zx t s r 0=List.replicate (s.length+1) false:=by simp[Zx]
theorem QkH{t s:List UInt8}:(List.replicate (s.length+1) false).set 0 true=Qcd t s []:=by
 apply List.ext_getElem?;intro j;rcases Nat.lt_or_ge j (s.length+1)with h|h
 ·rw[Qei h];simp only[List.getElem?_set,List.getElem?_replicate,List.length_replicate,mtR];rcases j with _|j<;>simp[h]
 ·rw[List.getElem?_eq_none (by simpa using h),List.getElem?_eq_none (by rw[X2];exact h)]
theorem Qk2{t s r:List UInt8}{c:UInt8}{i:Nat}(h:c=42):mtR t s (c::r) i=(mtR t s r i||(decide (0<i)&&mtR t s (c::r) (i-1))):=by
 subst h;rcases i with _|i
 ·rw[mtR];simp
 ·rw[mtR];simp
theorem Qgv{t s r:List UInt8}{c:UInt8}{i:Nat}(h:¬c=42):mtR t s (c::r) i=((decide (0<i)&&mtR t s r (i-1))&&(decide (c=63)||decide (t.getD c.toNat 0=t.getD (s.getD (i-1) 0).toNat 0))):=by
 rcases i with _|i
 ·rw[mtR];simp[h]
 ·rw[mtR];simp[h]
theorem QkR{p:List UInt8}{k:Nat}(h:k<p.length):(p.take (k+1)).reverse=p.getD k 0::(p.take k).reverse:=by
 rw[X8 (d:=0) h,List.reverse_append];rfl
end Go.Proofs
namespace Go.Proofs
open Go Go.RowKit Gx
attribute [local irreducible] Go.Calls Gx.S Gx.O Gx.D Gx.OpP Gx.OpQ Gx.OpH
set_option maxRecDepth 20000
theorem Zf:tsl Tryz.prog 228=some (4,1,1):=by kernel_rfl
theorem zr_4:Qs Tryz.prog 4=some [.bool false]:=by kernel_rfl
theorem Qf5:tsz Tryz.prog 4=some (1,false):=by kernel_rfl
theorem mixed:Tryz.prog.follows .mixedOrders=true:=by kernel_rfl
instance:TFn Tryz.prog 147:=⟨by kernel_rfl⟩
theorem QiP:Q7 Tryz.prog 75=true:=by kernel_rfl
instance:TFn Tryz.prog 75:=⟨QiP⟩
instance:TFn Tryz.prog 148:=⟨by kernel_rfl⟩
set_option maxHeartbeats 2000000 in
theorem c148(w:World)(t p s:List UInt8)(hl:t.length=128)(hp:∀c∈p,c.toNat<128)(hs:∀c∈s,c.toNat<128)(hmp:p.length<=1000000)(hms:s.length<=1000000):CR 148 #[.string (bs t),.string (bs p),.string (bs s)] w (.bool (mtU t p s)):=by
 refine eN3 Tryz.func148 Tryz.ntmps148 ?_
 refine aU7 ?_
 refine o_p (Qf rfl rfl Tryz.underlying9) rfl (aT ?_)
 refine o_h (Qgb (n:=(s.length+1)) rfl rfl rfl Zf zr_4 om om) rfl (λb1 _=>aU5 ?_)
 refine o_p (Qh rfl rfl rfl Zf (0) om om rfl) rfl (Qi (show _=Value.pointer (some ⟨b1,0*1,none⟩)from rfl) (QgA (YD rfl rfl rfl Qf5 rfl aPt (by rw[Nat.mul_one,Qk];omega) rfl) (λ_ _=>aU5 ?_)))
 refine o_h (Y6 rfl rfl Tryz.underlying9 Tryz.underlying226 Tryz.underlying5 rfl (by simp only[maxLen];omega)) rfl (λ⟨b2,c3⟩⟨h4,k5⟩=>aU4 ?_)
 refine QU (α:=Nat×Nat) [7,9,10,11,21,22,23,24,25,26,27,28,29,30,31,32,33,34,35,36,37,38,39,40,41,42,43,44,45,46,47,48,49,50,51,52,53,54,55,56,57,58,59,60,61,62,63,64,65,66,67,68,69,70,71,72,73,74,75,76,77,78,79,80,81,82,83,84] (λy=>[(21,.int .i64 (y.1:Int)),(7,.slice (some ⟨y.2,0,none⟩) (s.length+1) (s.length+1))]) (λy=>HS w [] [.blk y.2 4 ((s.length+1)*1) ((Qcd t s (p.take y.1).reverse).map Value.bool),.blk b2 5 c3 (p.map bv)]) (λy=>y.1<=p.length) (λy=>p.length-y.1) (0,b1) (Nat.zero_le _) aSx (λw h=>by have h1:=HS.blk_to (b:=b1) h aPk (show Qb (QW [.bool false] ((s.length+1)*1)) (0*1) [.bool true]=(Qcd t s []).map Value.bool from by rw[Nat.mul_one,QfL,<-List.map_replicate (f:=Value.bool),Qhj (by simp) rfl,QkH]);exact h1.ent aEt) (λ⟨k,b⟩hk1=>?_)
 dsimp only at hk1 ⊢
 refine aU5 ?_
 refine sCd rfl (λh6=>?_) λh6=>?_
 ·have hk:k<p.length:=by omega
  have hpc:=hp (p.getD k 0) (XX hk)
  refine aU5 ?_
  refine o_p (Qh rfl rfl rfl Xr (k) om om rfl) rfl (o_q (XW rfl rfl QeJ (λw h=>by rw[Nat.zero_add];exact h.rd_blk (Mc:=[]) aPk (by rw[Nat.mul_one];exact QbS hk) (by simp))) rfl (aU5 ?_))
  refine o_p (Qf rfl rfl Tryz.underlying9) rfl (aT ?_)
  refine o_h (Qgb (n:=(s.length+1)) rfl rfl rfl Zf zr_4 om om) rfl (λb7 _=>Qcf ?_)
  refine QU (α:=Nat) [11,31,32,33,34,35,36,37,38,39,40,41,42,43,44,45,46,47,48,49,50,51,52,53,54,55,56,57,58,59,60,61,62,63,64,65,66,67,68,69,70,71,72,73,74,75,76,77,78,79,80,81,82] (λi=>[(31,.int .i64 (i:Int))]) (λi=>HS w [] [.blk b7 4 ((s.length+1)*1) ((Zx t s (p.getD k 0::(p.take k).reverse) i).map Value.bool),.blk b 4 ((s.length+1)*1) ((Qcd t s (p.take k).reverse).map Value.bool),.blk b2 5 c3 (p.map bv)]) (λi=>i<=(s.length+1)) (λi=>(s.length+1)-i) 0 (Nat.zero_le _) aSx (λw h=>by have h1:=HS.blk_to (b:=b7) h aPk (show QW [.bool false] ((s.length+1)*1)=(Zx t s (p.getD k 0::(p.take k).reverse) 0).map Value.bool from by rw[Nat.mul_one,QfL,QmL,List.map_replicate]);exact h1.ent aEt) (λi hi1=>?_)
  refine aU5 ?_
  refine sCd rfl (λh8=>?_) λh8=>?_
  ·have hi:i<(s.length+1):=by omega
   refine QnJ ?_
   refine sCd rfl (λh9=>?_) λh9=>?_
   ·have hc42:p.getD k 0=42:=UInt8.toNat_inj.1 (by show(p.getD k 0).toNat=42;have hq:=h9;omega)
    refine aU5 ?_
    refine o_p (Qh rfl rfl rfl Zf (i) om om rfl) rfl (o_q (XW rfl rfl Qf5 (λw h=>by rw[Nat.zero_add];exact h.rd_blk (Mc:=[]) (b:=b) aPk (by rw[Nat.mul_one,QeU (by rw[X2];exact hi),Qc6 hi]) (by simp))) rfl (aU ?_))
    refine oOr 10 43 53 rfl
     (λhg10 _=>by
      refine aU6 ?_
      refine Qw 6 46 52 rfl
       (λhg12 _=>by
        refine aT6 ?_
        refine aU ?_
        refine o_p (Qh rfl rfl rfl Zf (i-1) om om rfl) rfl (aU ?_)
        refine o_q (XW rfl rfl Qf5 (λw h=>by rw[Nat.zero_add];exact h.rd_blk (Mc:=[]) (b:=b7) aPk (by rw[Nat.mul_one,QeU (by rw[YN om];omega),Qjs om (by have hq:=hg12;omega)]) (by simp))) rfl (aU ?_)
        exact oJt 6 52)
       (λhg14 _=>by
        refine aU6 ?_
        exact oJf 6 52) ?_
      exact oJf 5 53)
     (λhg16 _=>by
      refine aU9 ?_
      exact oJt 10 53) ?_
    refine Qi (show _=Value.bool (mtR t s (p.getD k 0::(p.take k).reverse) i)from by congr 1;rw[Qk2 (i:=i) hc42];simp) (o_p (Qh rfl rfl rfl Zf (i) om om rfl) rfl (Qi (show _=Value.pointer (some ⟨b7,i*1,none⟩)from by rw[Nat.zero_add]) (QgA (YD rfl rfl rfl Qf5 rfl aPt (by rw[List.length_map,YN om];omega) rfl) (λ_ _=>aU3 ?_))))
    refine Qj (L':=[(0,_),(1,_),(2,_),(6,_),(7,_),(9,_),(10,_),(12,_),(13,_),(14,_),(15,_),(16,_),(17,_),(18,_),(19,_),(20,_),(21,_),(22,_),(23,_),(24,_),(25,_),(26,_),(27,_),(28,_),(29,_),(30,_),(31,_)]) aSx (λ_ h=>h) ?_
    refine aT2 ?_
    refine aU2 ?_
    exact QN (i+1) om om aSx (λw h=>by have h1:=HS.blk_to (b:=b7) h aPk (Qhj (L:=Zx t s (p.getD k 0::(p.take k).reverse) i) (x:=(mtR t s (p.getD k 0::(p.take k).reverse) i)) (by rw[YN om];omega) rfl);rw[Qbh hi]at h1;exact h1.ent aEt)
   have hc42:¬p.getD k 0=42:=by intro hA;have hq:=h9;rw[hA]at hq;exact hq rfl
   refine aU5 ?_
   refine Qw 6 58 64 rfl
    (λhg18 _=>by
     refine aT6 ?_
     refine aU ?_
     refine o_p (Qh rfl rfl rfl Zf (i-1) om om rfl) rfl (aU ?_)
     refine o_q (XW rfl rfl Qf5 (λw h=>by rw[Nat.zero_add];exact h.rd_blk (Mc:=[]) (b:=b) aPk (by rw[Nat.mul_one,QeU (by rw[X2];omega),Qc6 om]) (by simp))) rfl ?_
     exact oJt 6 64)
    (λhg20 _=>by
     refine aU5 ?_
     exact oJf 6 64) ?_
   refine aU2 ?_
   refine sCd rfl (λh22=>?_) λh22=>?_
   ·have hsi:=hs (s.getD (i-1) 0) (XX (by have hq:=h22;omega))
    have hq5:=h22
    have hpre:(decide (0<i)&&mtR t s (p.take k).reverse (i-1))=true:=by simp;exact⟨om,hq5.2⟩
    have e63:(((p.getD k 0).toNat:Nat):Int)=63 ↔ p.getD k 0=63:=⟨λh=>UInt8.toNat_inj.1 (by show(p.getD k 0).toNat=63;omega),λh=>by rw[h];rfl⟩
    have eT:((t.getD (p.getD k 0).toNat 0).toNat:Int)=((t.getD (s.getD (i-1) 0).toNat 0).toNat:Int) ↔ t.getD (p.getD k 0).toNat 0=t.getD (s.getD (i-1) 0).toNat 0:=⟨λh=>UInt8.toNat_inj.1 om,λh=>by rw[h]⟩
    refine Qj (L':=[(0,_),(1,_),(2,_),(6,_),(7,_),(9,_),(10,_),(11,_),(12,_),(13,_),(14,_),(15,_),(16,_),(17,_),(18,_),(19,_),(20,_),(21,_),(22,_),(23,_),(24,_),(25,_),(26,_),(27,_),(28,_),(29,_),(30,_),(31,_)]) aSx (λ_ h=>h) ?_
    refine Xl [17] mixed ?_
    refine dP 0 ?_
    refine dP 1 ?_
    refine dP 2 ?_
    refine dP 3 ?_
    refine dP 4 ?_
    apply XR 69
    ·exact rfl
    ·intro hg23
     have hs24:=hg23;try simp only[dT]at hs24
     refine dOf 5 69 hg23 ?_
     refine dOf 6 69 hg23 ?_
     refine dOf 7 69 hg23 ?_
     refine dOf 8 69 hg23 ?_
     refine dOf 9 69 hg23 ?_
     refine dOf 10 69 hg23 ?_
     refine dOf 11 69 hg23 ?_
     refine dOf 12 69 hg23 ?_
     refine dOf 13 69 hg23 ?_
     refine dOf 14 69 hg23 ?_
     refine dV 15 rfl (Xa rfl rfl hg23 rfl) (Xg (show _=Value.bool (mtR t s (p.getD k 0::(p.take k).reverse) i)from by rw[Qgv hc42,hpre];first|(have hgA:=of_decide_eq_true hg23;rw[e63]at hgA;rw[decide_eq_true hgA];rfl)|(have hgA:=of_decide_eq_false hg23;rw[e63]at hgA;rw[decide_eq_false hgA,decide_eq_decide.2 eT];rfl)) (dV 16 rfl (Qh rfl rfl rfl Zf (i) om om rfl) (Xg (show _=Value.pointer (some ⟨b7,i*1,none⟩)from by rw[Nat.zero_add]) (Qlp 17 rfl (YD rfl rfl rfl Qf5 rfl aPt (by rw[List.length_map,YN om];omega) rfl) (by kernel_rfl) (λw h=>h.ent aEt) (λ_ _=>?_)))))
     refine dTu [] ?_
     refine dNi ?_
     refine aU2 ?_
     refine Qj (L':=[(0,_),(1,_),(2,_),(6,_),(7,_),(9,_),(10,_),(12,_),(13,_),(14,_),(15,_),(16,_),(17,_),(18,_),(19,_),(20,_),(21,_),(22,_),(23,_),(24,_),(25,_),(26,_),(27,_),(28,_),(29,_),(30,_),(31,_)]) aSx (λ_ h=>h) ?_
     refine aT2 ?_
     refine aU2 ?_
     exact QN (i+1) om om aSx (λw h=>by have h1:=HS.blk_to (b:=b7) h aPk (Qhj (L:=Zx t s (p.getD k 0::(p.take k).reverse) i) (x:=(mtR t s (p.getD k 0::(p.take k).reverse) i)) (by rw[YN om];omega) rfl);rw[Qbh hi]at h1;exact h1.ent aEt)
    intro hg25
    have hs26:=hg25;try simp only[dN]at hs26
    refine dPo 5 69 hg25 ?_
    refine dPo 6 69 hg25 ?_
    refine dVo 7 69 hg25 rfl rfl rfl (Qo rfl rfl rfl Tryz.underlying223 ((p.getD k 0).toNat) om om) ?_
    refine dPo 8 69 hg25 ?_
    refine dPo 9 69 hg25 ?_
    refine dPo 10 69 hg25 ?_
    refine dPo 11 69 hg25 ?_
    try refine dWr ?_
    refine dVo 12 69 hg25 rfl rfl rfl (Qo rfl rfl rfl Tryz.underlying9 (i-1) om om) ?_
    refine dVo 13 69 hg25 rfl rfl rfl (Qo rfl rfl rfl Tryz.underlying223 ((s.getD (i-1) 0).toNat) om om) ?_
    refine dPo 14 69 hg25 ?_
    refine dV 15 rfl (QV rfl rfl hg25 rfl) (Xg (show _=Value.bool (mtR t s (p.getD k 0::(p.take k).reverse) i)from by rw[Qgv hc42,hpre];first|(have hgA:=of_decide_eq_true hg25;rw[e63]at hgA;rw[decide_eq_true hgA];rfl)|(have hgA:=of_decide_eq_false hg25;rw[e63]at hgA;rw[decide_eq_false hgA,decide_eq_decide.2 eT];rfl)) (dV 16 rfl (Qh rfl rfl rfl Zf (i) om om rfl) (Xg (show _=Value.pointer (some ⟨b7,i*1,none⟩)from by rw[Nat.zero_add]) (Qlp 17 rfl (YD rfl rfl rfl Qf5 rfl aPt (by rw[List.length_map,YN om];omega) rfl) (by kernel_rfl) (λw h=>h.ent aEt) (λ_ _=>?_)))))
    refine dTu [] ?_
    refine dNi ?_
    refine aU2 ?_
    refine Qj (L':=[(0,_),(1,_),(2,_),(6,_),(7,_),(9,_),(10,_),(12,_),(13,_),(14,_),(15,_),(16,_),(17,_),(18,_),(19,_),(20,_),(21,_),(22,_),(23,_),(24,_),(25,_),(26,_),(27,_),(28,_),(29,_),(30,_),(31,_)]) aSx (λ_ h=>h) ?_
    refine aT2 ?_
    refine aU2 ?_
    exact QN (i+1) om om aSx (λw h=>by have h1:=HS.blk_to (b:=b7) h aPk (Qhj (L:=Zx t s (p.getD k 0::(p.take k).reverse) i) (x:=(mtR t s (p.getD k 0::(p.take k).reverse) i)) (by rw[YN om];omega) rfl);rw[Qbh hi]at h1;exact h1.ent aEt)
   have hmf:(mtR t s (p.getD k 0::(p.take k).reverse) i)=false:=by rw[Qgv hc42];have hq:=h22;(have eA:(decide (0<i)&&mtR t s (p.take k).reverse (i-1))=false:=by by_cases hz:0<i;(simp[hz];(rcases hq with hq|hq;(exfalso;omega);exact hq));simp[hz]);rw[eA];rfl
   refine aU3 ?_
   refine Qj (L':=[(0,_),(1,_),(2,_),(6,_),(7,_),(9,_),(10,_),(12,_),(13,_),(14,_),(15,_),(16,_),(17,_),(18,_),(19,_),(20,_),(21,_),(22,_),(23,_),(24,_),(25,_),(26,_),(27,_),(28,_),(29,_),(30,_),(31,_)]) aSx (λ_ h=>h) ?_
   refine aT2 ?_
   refine aU2 ?_
   exact QN (i+1) om om aSx (λw h=>by rw[<-Qis hi hmf];exact h.ent aEt)
  obtain rfl:i=(s.length+1):=om
  rw[Qj2,<-QkR hk]
  refine QE rfl ?_
  refine aT7 ?_
  refine aU2 ?_
  exact sBk (k+1,b7) (by show p.length-(k+1)<p.length-k;omega) (by show k+1<=p.length;omega)
 obtain rfl:k=p.length:=om
 rw[List.take_length]
 refine QE rfl ?_
 refine aU4 ?_
 refine o_p (Qf rfl rfl Tryz.underlying9) rfl (o_p (Qh rfl rfl rfl Zf (s.length) om om rfl) rfl (o_q (XW rfl rfl Qf5 (λw h=>by rw[Nat.zero_add];exact h.rd_blk (Mc:=[]) (b:=b) aPk (by rw[Nat.mul_one,QeU (by rw[X2];omega),Qc6 om]) (by simp))) rfl (aU2 ?_)))
 exact rV
def Qep(t p s:List UInt8):Int:=if(XT t).2=0 then if QfM p=0 then Q2 s else QfM p else(XT t).2
theorem Qme{t p s:List UInt8}(h:Qep t p s=0):(XT t).2=0/\QfM p=0/\Q2 s=0:=by
  unfold Qep at h
  grind
theorem c81(w:World)(t p s:List UInt8)(hmt:t.length<=1000000)(hmp:p.length<=1000000)(hms:s.length<=1000000):CR 81 #[.string (bs t),.string (bs p),.string (bs s)] w (.tuple #[.bool (if Qep t p s=0 then mtU t p s else false),.int .i64 (Qep t p s)]):=by
 have he:Xy [.int .i64 (XT t).2,.int .i64 (QfM p),.int .i64 (Q2 s)]=Qep t p s:=by rw[Qlu];rfl
 refine eN3 Tryz.func81 Tryz.ntmps81 ?_
 refine aU8 ?_
 refine oCq rfl (λw1 h1=>c146 w1 t hmt) (Qgz ?_)
 refine oCq rfl (λw1 h1=>c147 w1 p hmp) (aU ?_)
 refine oCq rfl (λw1 h1=>c75 w1 s hms) (o_h (Qp (cs:=[_,_,_]) rfl rfl YY Qbv rfl rfl rfl) rfl (λb1 _=>oCq rfl (λw1 h1=>f137 h1 aPk (by rfl) (by rfl) (by decide)) (aU7 ?_)))
 refine sCd rfl (λh2=>?_) λh2=>?_
 ·have h0:¬Qep t p s=0:=by rw[<-he];exact h2
  refine aU6 ?_
  exact Qn (rs:=[.tmp 6,.tmp 7]) rfl (.tmp rfl (.tmp rfl (.nil))) (λw' h'=>⟨by rw[if_neg h0,<-he];rfl,h'.below⟩)
 have h0:Qep t p s=0:=by rw[<-he];exact h2
 have ho:=Qme h0
 refine aU6 ?_
 refine oCq rfl (λw1 h1=>c148 w1 t p s (QbK ho.1).1 (Qly ho.2.1).2.2 (Qbi ho.2.2) hmp hms) (aU3 ?_)
 exact Qn (rs:=[.tmp 6,.tmp 7]) rfl (.tmp rfl (.tmp rfl (.nil))) (λw' h'=>⟨by rw[if_pos h0,h0];rfl,h'.below⟩)
end Go.Proofs
namespace Go.Proofs
open Go Go.RowKit Gx
theorem Qfb:∀{s:List UInt8}{c:UInt8},0<=Lib.indexByte s c->∃i:Nat,Lib.indexByte s c=(i:Int)/\i<s.length/\s.getD i 0=c/\∀j,j<i->s.getD j 0≠c
 | [],c,h=>absurd h (by simp[Lib.indexByte])
 | b::s,c,h=>by
  unfold Lib.indexByte at h ⊢
  by_cases e:b=c
  ·subst e;exact⟨0,by simp,by simp,by simp,λj hj=>absurd hj (Nat.not_lt_zero j)⟩
  ·have e':(b==c)=false:=by simpa using e
   rw[e']at h ⊢;simp only[Bool.false_eq_true,if_false]at h ⊢;have h1:=Lib.indexByte_ge s c;split at h
   ·exact absurd h (by decide)
   ·rename_i h2;rw[if_neg h2]
    have h3:0<=Lib.indexByte s c:=by
     have:¬Lib.indexByte s c= -1:=by simpa using h2
     omega
    obtain⟨i,i1,i2,i3,i4⟩:=Qfb h3;refine⟨i+1,by rw[i1];rfl,by simp;omega,by simpa using i3,λj hj=>?_⟩;rcases j with _|j
    ·simpa using e
    ·simpa using i4 j om
theorem QjW:∀{s:List UInt8}{i:Nat},i<s.length->s.getD i 0=46->(∀j,j<i->s.getD j 0≠46)->YE s=(s.take i,some (s.drop (i+1)))
 | [],i,h,_,_=>absurd h (Nat.not_lt_zero i)
 | b::s,0,_,h,_=>by
  have:b=46:=by simpa using h
  subst this;simp[YE]
 | b::s,i+1,hl,h,hn=>by
  have h0:b≠46:=by simpa using hn 0 om
  have ih:=QjW (s:=s) (i:=i) (by simpa using hl) (by simpa using h) (λj hj=>by simpa using hn (j+1) om);rw[YE,if_neg h0,ih];rfl
theorem Qkr:∀{s:List UInt8},46 ∉ s->YE s=(s,none)
 | [],_=>rfl
 | b::s,h=>by
  have h0:b≠46:=λe=>h (by rw[e];exact List.mem_cons_self ..);rw[YE,if_neg h0,Qkr (λhm=>h (List.mem_cons_of_mem _ hm))]
theorem Qls{s:List UInt8}(h:0<=Lib.indexByte s 46):∃i:Nat,Lib.indexByte s 46=(i:Int)/\i<s.length/\YE s=(s.take i,some (s.drop (i+1))):=by
 obtain⟨i,h1,h2,h3,h4⟩:=Qfb h;exact⟨i,h1,h2,QjW h2 h3 h4⟩
theorem QkC{s:List UInt8}(h:¬0<=Lib.indexByte s 46):YE s=(s,none):=Qkr (Zj.1 om)
end Go.Proofs
namespace Go.Proofs
open Go Go.RowKit Gx
attribute [local irreducible] Go.Calls Gx.S Gx.O Gx.D Gx.OpP Gx.OpQ Gx.OpH
set_option maxRecDepth 20000
instance:TFn Tryz.prog 324:=⟨by kernel_rfl⟩
instance:TFn Tryz.prog 289:=⟨by kernel_rfl⟩
instance:TFn Tryz.prog 234:=⟨by kernel_rfl⟩
instance:TFn Tryz.prog 235:=⟨by kernel_rfl⟩
theorem zr_9:Qs Tryz.prog 9=some [.string (bs [])]:=by kernel_rfl
instance:TFn Tryz.prog 170:=⟨by kernel_rfl⟩
instance:TFn Tryz.prog 172:=⟨by kernel_rfl⟩
instance:TFn Tryz.prog 171:=⟨by kernel_rfl⟩
theorem ix98(w:World)(s:List UInt8)(c:UInt8):Calls Tryz.prog 324 #[.string (bs s),.string (bs [c])] w λen w'=>en=.returned (.int .i64 (Lib.indexByte s c))/\Below w.heap.size w w':=
  (Tryz.stringslite_Index_one (bs s) c w).mono λe w' h=>⟨by rw[h.1];simp[bs],YM h.2⟩
theorem c289(w:World)(s:List UInt8)(hm:s.length<=1000000):CR 289 #[.string (bs s),.string (bs [46])] w (.tuple #[.string (bs (YE s).1),.string (bs ((YE s).2.getD [])),.bool (YE s).2.isSome]):=by
 refine eN2 Tryz.func289 Tryz.ntmps289 ?_
 refine Qgz ?_
 refine oCq rfl (λw1 h1=>ix98 w1 s 46) (aU7 ?_)
 refine sCd rfl (λh1=>?_) λh1=>?_
 ·obtain⟨i,hi9,hi8,hcd⟩:=Qls h1
  refine aU ?_
  refine Xl [] mixed ?_
  refine dP 0 ?_
  refine dP 1 ?_
  refine dV 2 rfl (XZ i rfl rfl rfl Tryz.underlying9 hi9 om) (dP 3 ?_)
  refine dP 4 ?_
  refine dP 5 ?_
  refine dV 6 rfl (Qf rfl rfl Tryz.underlying9) (dP 7 ?_)
  try refine dWr ?_
  refine Xg (show _=Value.int .i64 ((i+1:Nat):Int)from by rw[hi9];show Value.int .i64 (IntKind.i64.wrap ((i:Int)+1))=.int .i64 ((i:Int)+1);exact Qje om om) (dV 8 rfl (Xj (i+1) rfl rfl rfl Tryz.underlying9 rfl om) (dP 9 ?_))
  refine dP 10 ?_
  refine dP 11 ?_
  refine dNi ?_
  exact Qn (rs:=[.tmp 4,.tmp 5,.tmp 6]) rfl (.tmp rfl (.tmp rfl (.tmp rfl (.nil)))) (λw' h'=>⟨by rw[hcd];rfl,h'.below⟩)
 have hcd:=QkC h1
 refine aU8 ?_
 exact Qn (rs:=[.tmp 4,.tmp 5,.tmp 6]) rfl (.tmp rfl (.tmp rfl (.tmp rfl (.nil)))) (λw' h'=>⟨by rw[hcd];rfl,h'.below⟩)
theorem c234(w:World)(s:List UInt8)(hm:s.length<=1000000):CR 234 #[.string (bs s),.string (bs [46])] w (.tuple #[.string (bs (YE s).1),.string (bs ((YE s).2.getD [])),.bool (YE s).2.isSome]):=by
 refine eN2 Tryz.func234 Tryz.ntmps234 ?_
 refine Qcf ?_
 refine oCq rfl (λw1 h1=>c289 w1 s hm) (aU7 ?_)
 exact Qn (rs:=[.tmp 4,.tmp 5,.tmp 6]) rfl (.tmp rfl (.tmp rfl (.tmp rfl (.nil)))) (λw' h'=>⟨rfl,h'.below⟩)
theorem c290(w:World)(c:UInt8):CR 290 #[.int .u8 (c.toNat:Int)] w (.bool (QaU c)):=by
 have e1:((65:Int)<=(c.toNat:Int)) ↔ 65<=c.toNat:=om
 have e2:((c.toNat:Int)<=90) ↔ c.toNat<=90:=om
 have e3:((48:Int)<=(c.toNat:Int)) ↔ 48<=c.toNat:=om
 have e4:((c.toNat:Int)<=57) ↔ c.toNat<=57:=om
 have e5:decide (0<=Lib.indexByte Qak c)=Qak.contains c:=by by_cases h:c∈Qak;(rw[decide_eq_true (by rcases Int.lt_or_le (Lib.indexByte Qak c) 0 with h9|h9;(exact absurd h (Zj.1 h9));exact h9)];simp[h]);(rw[decide_eq_false (by have:=Zj.2 h;omega)];simp[h])
 refine eN1 Tryz.func290 Tryz.ntmps290 ?_
 refine aU9 ?_
 refine Qw 3 5 8 rfl
  (λhg1 _=>by
   refine aU4 ?_
   exact oJt 3 8)
  (λhg3 _=>by
   refine aU2 ?_
   exact oJf 3 8) ?_
 refine aU ?_
 refine oOr 7 9 16 rfl
  (λhg5 _=>by
   refine aU6 ?_
   refine Qw 3 12 15 rfl
    (λhg7 _=>by
     refine aU5 ?_
     exact oJt 3 15)
    (λhg9 _=>by
     refine aU3 ?_
     exact oJf 3 15) ?_
   exact oJf 5 16)
  (λhg11 _=>by
   refine aU6 ?_
   exact oJt 7 16) ?_
 refine aU ?_
 refine oOr 4 17 21 rfl
  (λhg13 _=>by
   refine aU3 ?_
   refine oCq rfl (λw1 h1=>ib97 w1 Qak c) (aU2 ?_)
   exact oJf 4 21)
  (λhg15 _=>by
   refine aU3 ?_
   exact oJt 4 21) ?_
 refine aU2 ?_
 exact rV (h:=by simp only[QB,QaU,e1,e2,e3,e4,ge_iff_le,e5])
theorem c235(w:World)(s:List UInt8)(m:Nat)(hm:s.length<=1000000):CR 235 #[.string (bs s),.int .i64 (m:Int)] w (.bool (Qg6 s m)):=by
 have e1:((s.length:Int)<=(m:Int)) ↔ s.length<=m:=om
 refine eN2 Tryz.func235 Tryz.ntmps235 ?_
 refine aU9 ?_
 refine Qw 5 7 12 rfl
  (λhg1 _=>by
   refine aU3 ?_
   refine o_p (Qf rfl rfl Tryz.underlying9) rfl (aU4 ?_)
   exact oJt 5 12)
  (λhg3 _=>by
   refine aU4 ?_
   exact oJf 5 12) ?_
 refine aU ?_
 refine Qw 3 13 16 rfl
  (λhg5 _=>by
   refine aU3 ?_
   refine oCq rfl (λw1 h1=>Qna w1 s 290 #[] QaU hm (by kernel_rfl) (λk w2 hk h2=>c290 w2 _)) ?_
   exact oJt 3 16)
  (λhg7 _=>by
   refine aU2 ?_
   exact oJf 3 16) ?_
 refine aU2 ?_
 exact rV (h:=by simp only[QB,Qg6,e1])
theorem Qm0(s:List UInt8):(YE s).1.length<=s.length/\((YE s).2.getD []).length<=s.length:=by
  induction s with
  | nil=>simp[YE]
  | cons c s ih=>
    unfold YE;split
    · simp
    · simp only[List.length_cons];omega
theorem Qno(w:World)(s:List UInt8)(hm:s.length<=1000000):CR 171 #[.string (bs s)] w (.bool (Qad s)):=by
 have hcl:=Qm0 s
 refine eN1 Tryz.func171 Tryz.ntmps171 ?_
 refine aU7 ?_
 refine oCq rfl (λw1 h1=>c234 w1 s hm) (Qgz ?_)
 refine oCq rfl (λw1 h1=>c235 w1 (YE s).1 8 om) (aU ?_)
 refine Qw 7 14 21 rfl
  (λhg1 _=>by
   refine aU6 ?_
   refine oOr 3 17 20 rfl
    (λhg3 _=>by
     refine aU3 ?_
     refine oCq rfl (λw1 h1=>c235 w1 ((YE s).2.getD []) 3 om) (aU ?_)
     exact oJf 3 20)
    (λhg5 _=>by
     refine aU3 ?_
     exact oJt 3 20) ?_
   exact oJt 5 21)
  (λhg7 _=>by
   refine aU6 ?_
   exact oJf 7 21) ?_
 refine aU2 ?_
 exact rV (h:=by simp only[QB,Qad];rcases hc9:(YE s).2 with _|r<;>simp[hc9])
theorem c169(w:World)(t s:List UInt8)(hmt:t.length<=1000000)(hm:s.length<=1000000):CR 169 #[.string (bs t),.string (bs s)] w (.tuple #[.bool (if openE t [s]=0 then !Qad (up t s)else false),.int .i64 (openE t [s])]):=by
 refine eN2 Tryz.func169 Tryz.ntmps169 ?_
 refine aU9 ?_
 refine o_h (Qp (cs:=[_]) rfl rfl QgU zr_9 rfl rfl rfl) rfl (λb1 _=>oCq rfl (λw1 h1=>c170 w1 t _ _ [s] hmt (h1.vl_blk aPk) (by simp) (by intro x hx;simp only[List.mem_cons,List.mem_nil_iff,or_false]at hx;subst hx;assumption)) (Z2 ?_))
 refine sCd rfl (λh2=>?_) λh2=>?_
 ·have h0:¬openE t [s]=0:=h2
  refine aU6 ?_
  exact Qn (rs:=[.tmp 4,.tmp 5]) rfl (.tmp rfl (.tmp rfl (.nil))) (λw' h'=>⟨by rw[if_neg h0];rfl,h'.below⟩)
 have h0:openE t [s]=0:=h2
 have ho:=QfI h0
 have hx:=Qbi (ho.2 s (by simp))
 have hl:=(QbK ho.1).1
 have hul:=ZA t s
 refine aU5 ?_
 refine oCq rfl (λw1 h1=>QjJ w1 t s hl hx hm) (oCq rfl (λw1 h1=>Qno w1 (up t s) om) (aU4 ?_))
 exact Qn (rs:=[.tmp 4,.tmp 5]) rfl (.tmp rfl (.tmp rfl (.nil))) (λw' h'=>⟨by rw[if_pos h0,h0];rfl,h'.below⟩)
end Go.Proofs
namespace Go.Proofs
open Go Go.RowKit Gx
def Za(s:List UInt8):Nat->Nat
 | 0=>0
 | k+1=>if 1<=k/\s.getD k 0=46 then k else Za s k
def Zl(s:List UInt8):Nat:=Za s s.length
theorem Qff(s:List UInt8):∀k,0<k->Za s k<k
 | 0,h=>absurd h (Nat.lt_irrefl 0)
 | k+1,_=>by
  unfold Za;split
  ·omega
  ·rcases Nat.eq_zero_or_pos k with e|e
   ·subst e;simp[Za]
   ·have:=Qff s k e;omega
theorem bs_data{s:List UInt8}{j:Nat}(h:j<s.length):(bs s).data[j]! =s.getD j 0:=by
 simp[bs,h,List.getD_eq_getElem?_getD,List.getElem?_eq_getElem h]
theorem QcE(s:List UInt8):∀k,k<=s.length->(if 0<Lib.lastIdx (bs s) 46 k then Lib.lastIdx (bs s) 46 k=(Za s k:Int)/\0<Za s k else Za s k=0)
 | 0,_=>by simp[Lib.lastIdx,Za]
 | k+1,hk=>by
  have ih:=QcE s k om;unfold Lib.lastIdx Za;rw[bs_data om];have e46:((s.getD k 0).toNat:Int)=46 ↔ s.getD k 0=46:=⟨λh=>UInt8.toNat_inj.1 (by show(s.getD k 0).toNat=46;omega),λh=>by rw[h];rfl⟩
  by_cases h:s.getD k 0=46
  ·rw[if_pos (e46.2 h)];rcases Nat.eq_zero_or_pos k with e|e
   ·subst e;simp[Za]
   ·rw[if_pos om,if_pos ⟨e,h⟩];exact⟨rfl,e⟩
  ·have e2:(if 1<=k/\s.getD k 0=46 then k else Za s k)=Za s k:=if_neg (λh9=>h h9.2);rw[if_neg (λh9=>h (e46.1 h9)),e2];exact ih
theorem Qlh{s:List UInt8}(h:0<Lib.lastIndexByte (bs s) 46):Lib.lastIndexByte (bs s) 46=(Zl s:Int)/\0<Zl s/\Zl s<s.length:=by
 have h1:=QcE s s.length (Nat.le_refl _);have hs:(bs s).size=s.length:=by simp[bs,ByteArray.size]
 unfold Lib.lastIndexByte at h ⊢;rw[hs]at h ⊢;rw[if_pos h]at h1;refine⟨h1.1,h1.2,?_⟩;have h2:=h1.2;rcases Nat.eq_zero_or_pos s.length with e|e
 ·rw[e]at h2;simp[Za]at h2
 ·exact Qff s _ e
theorem QlT{s:List UInt8}(h:¬0<Lib.lastIndexByte (bs s) 46):Zl s=0:=by
 have h1:=QcE s s.length (Nat.le_refl _);have hs:(bs s).size=s.length:=by simp[bs,ByteArray.size]
 unfold Lib.lastIndexByte at h;rw[hs]at h;rw[if_neg h]at h1;exact h1
def X1(s:List UInt8):List UInt8:=if 0<Zl s then s.take (Zl s)else s
def Yc(s:List UInt8):List UInt8:=if 0<Zl s then s.drop (Zl s+1)else[]
def kpB(c:UInt8):List UInt8:=if c=32\/c=46 then[]else if QaU c=true then[c]else[95]
def Yd(t s:List UInt8):List UInt8:=(up t s).flatMap kpB
theorem Qlo(c:UInt8):(kpB c).length<=1:=by
 unfold kpB;split
 ·simp
 ·split<;>simp
theorem QaK(u:List UInt8):(u.flatMap kpB).length<=u.length:=by
 induction u with
 | nil=>simp
 | cons c u ih=>
  rw[List.flatMap_cons,List.length_append,List.length_cons];have:=Qlo c;omega
theorem QhV{c:UInt8}(h:QaU c=true):c.toNat<128:=by
 unfold QaU at h;simp only[Bool.or_eq_true,Bool.and_eq_true,decide_eq_true_eq]at h;rcases h with(h|h)|h
 ·omega
 ·omega
 ·have:c∈Qak:=by simpa using h
  simp only[Qak,List.mem_cons,List.mem_nil_iff,or_false]at this;rcases this with rfl|rfl|rfl|rfl|rfl|rfl|rfl|rfl|rfl|rfl|rfl|rfl|rfl<;>decide
theorem Qhx{t s:List UInt8}:∀c∈Yd t s,c.toNat<128:=by
 intro c hc;obtain⟨x,_,hx⟩:=List.mem_flatMap.1 hc;unfold kpB at hx;split at hx
 ·cases hx
 ·split at hx
  ·rename_i h;rw[List.mem_singleton.1 hx];exact QhV h
  ·rw[List.mem_singleton.1 hx];decide
theorem QfW{t s:List UInt8}:(Yd t s).length<=s.length:=by
 have:=QaK (up t s);rw[ZA]at this;exact this
def Qap(t s:List UInt8):List UInt8:=if Yd t (Yc s)=[]then[]else 46::(Yd t (Yc s)).take 3
def QbQ(n:Nat):List UInt8:=126::Lib.itoa (n:Int)
def Yn(t s:List UInt8)(n:Nat):List UInt8:=(Yd t (X1 s)).take (min 6 (8-(QbQ n).length))++QbQ n++Qap t s
theorem Qnh(n:Nat):∀c∈Lib.decDigits n,48<=c.toNat/\c.toNat<=57:=by
 induction n using Nat.strongRecOn with
 | _ n ih=>
  intro c hc;unfold Lib.decDigits at hc;split at hc
  ·rename_i h;rw[List.mem_singleton.1 hc,UInt8.toNat_ofNat'];omega
  ·rename_i h;rcases List.mem_append.1 hc with h1|h1
   ·exact ih (n/10) om c h1
   ·rw[List.mem_singleton.1 h1,UInt8.toNat_ofNat'];omega
theorem Qf4(n:Nat):Lib.itoa (n:Int)=Lib.decDigits n:=by
 unfold Lib.itoa;rw[if_neg om];rfl
theorem Qla{n:Nat}(h:n<=999):1<=(Lib.decDigits n).length/\(Lib.decDigits n).length<=3:=by
 unfold Lib.decDigits;split
 ·simp
 ·rename_i h1;rw[List.length_append];unfold Lib.decDigits;split
  ·simp
  ·rename_i h2;rw[List.length_append];unfold Lib.decDigits;rw[dif_pos om];simp
theorem Qhi{n:Nat}(h:n<=999):2<=(QbQ n).length/\(QbQ n).length<=4:=by
 unfold QbQ;rw[Qf4,List.length_cons];have:=Qla h;omega
theorem Qnn{n:Nat}:∀c∈QbQ n,c.toNat<128:=by
 intro c hc;unfold QbQ at hc;rcases List.mem_cons.1 hc with rfl|h
 ·decide
 ·rw[Qf4]at h;have:=Qnh n c h;omega
theorem Qjm{t s:List UInt8}:∀c∈Qap t s,c.toNat<128:=by
 intro c hc;unfold Qap at hc;split at hc
 ·cases hc
 ·rcases List.mem_cons.1 hc with rfl|h
  ·decide
  ·exact Qhx c (List.mem_of_mem_take h)
theorem QlH{t s:List UInt8}{n:Nat}:∀c∈Yn t s n,c.toNat<128:=by
 intro c hc;unfold Yn at hc;rcases List.mem_append.1 hc with h|h
 ·rcases List.mem_append.1 h with h|h
  ·exact Qhx c (List.mem_of_mem_take h)
  ·exact Qnn c h
 ·exact Qjm c h
theorem QdR{t s:List UInt8}:(Qap t s).length<=4:=by
 unfold Qap;split
 ·simp
 ·simp;omega
theorem QfE{t s:List UInt8}{n:Nat}(h:n<=999):(Yn t s n).length<=14:=by
 have h1:=Qhi h;have h2:=QdR (t:=t) (s:=s);unfold Yn;rw[List.length_append,List.length_append,List.length_take];omega
def Qek(t s:List UInt8)(ks:List (List UInt8)):Nat->Nat->List UInt8×Int
 | _,0=>([],16)
 | n,f+1=>if up t (Yn t s n)∈ks then Qek t s ks (n+1) f else(Yn t s n,0)
def YR(t s:List UInt8)(ks:List (List UInt8)):List UInt8×Int:=if Yd t (X1 s)=[]then([],3)else Qek t s ks 1 999
theorem Qdi{t s:List UInt8}{ks ks':List (List UInt8)}(h:∀a,a∈ks ↔ a∈ks'):∀f n,Qek t s ks n f=Qek t s ks' n f
 | 0,n=>rfl
 | f+1,n=>by
  unfold Qek
  by_cases hm:up t (Yn t s n)∈ks
  ·rw[if_pos hm,if_pos ((h _).1 hm)];exact Qdi h f (n+1)
  ·rw[if_neg hm,if_neg (λh9=>hm ((h _).2 h9))]
theorem Qeh{t s:List UInt8}{ks ks':List (List UInt8)}(h:∀a,a∈ks ↔ a∈ks'):YR t s ks=YR t s ks':=by
 unfold YR;rw[Qdi h]
end Go.Proofs
namespace Gx
open Go Go.RowKit
section
variable{P:Program}{o:Oper}{L:Qa}{w0:World}{M:List Nat}{As As':List HA}
theorem Qnp{x y z:Operand}{k:IntKind}{a b c:Int}{ts:Array TypeId}(ho:o.op=.call {callee:=.builtin .min,args:=#[x,y,z],argTypes:=ts})(hx:ev L x=some (.int k a))(hy:ev L y=some (.int k b))(hz:ev L z=some (.int k c)):OpP P o L (.int k (if c<(if b<a then b else a)then c else(if b<a then b else a))):=by
 intro ρ w hρ;simp[execOp,ho,resolve,invoke,builtin,Builtin.min_,Builtin.min2,hρ _ _ hx,hρ _ _ hy,hρ _ _ hz]
end
end Gx
namespace Go.Proofs
open Go Go.RowKit Gx
attribute [local irreducible] Go.Calls Gx.S Gx.O Gx.D Gx.OpP Gx.OpQ Gx.OpH
set_option maxRecDepth 20000
instance:TFn Tryz.prog 290:=⟨by kernel_rfl⟩
instance:TFn Tryz.prog 236:=⟨by kernel_rfl⟩
instance:TFn Tryz.prog 237:=⟨by kernel_rfl⟩
instance:TFn Tryz.prog 238:=⟨by kernel_rfl⟩
theorem zv_4:tzv Tryz.prog 4=some (.bool false):=by kernel_rfl
abbrev KS:List UInt8->Value:=λl=>.string (bs l)
theorem it88(w:World)(k:Nat)(hk:k<100):Calls Tryz.prog 238 #[.int .i64 (k:Int)] w λen w'=>en=.returned (.string (bs (Lib.itoa (k:Int))))/\Below w.heap.size w w':=
  (Tryz.strconv_Itoa_small k hk w).mono λe w' h=>⟨by rw[h.1];rfl,YM h.2⟩
theorem li86(w:World)(s:List UInt8)(hm:s.length<=1000000):Calls Tryz.prog 236 #[.string (bs s),.string (bs [46])] w λen w'=>en=.returned (.int .i64 (Lib.lastIndexByte (bs s) 46))/\Below w.heap.size w w':=
  (Tryz.strings_LastIndex_one (bs s) (bs [46]) rfl (by rw[bs_size];omega) w).mono λe w' h=>⟨by rw[h.1];rfl,YM h.2⟩
theorem c237(w:World)(t s:List UInt8)(hl:t.length=128)(hc:∀c∈s,c.toNat<128)(hm:s.length<=1000000):CR 237 #[.string (bs t),.string (bs s)] w (.string (bs (Yd t s))):=by
 have hul:=ZA t s
 refine eN2 Tryz.func237 Tryz.ntmps237 ?_
 refine QcQ ?_
 refine oCq rfl (λw1 h1=>QjJ w1 t s hl hc hm) (o_h (Y6 rfl rfl Tryz.underlying9 Tryz.underlying226 Tryz.underlying5 rfl (by simp only[maxLen];omega)) rfl (λ⟨b1,c2⟩⟨h3,k4⟩=>aU4 ?_))
 refine QU (α:=Nat×(Option Addr×Nat)) [5,7,13,14,15,16,17,18,19,20,21,22,23,24,25,26,27,28,29,30,31,32,33,34,35,36] (λy=>[(13,.int .i64 (y.1:Int)),(5,.slice y.2.1 (((up t s).take y.1).flatMap kpB).length y.2.2)]) (λy=>HS w [] [.own (.slice y.2.1 (((up t s).take y.1).flatMap kpB).length y.2.2) 5 1 (((up t s).take y.1).flatMap kpB).length ((((up t s).take y.1).flatMap kpB).map bv),.blk b1 5 c2 ((up t s).map bv)]) (λy=>y.1<=(up t s).length) (λy=>(up t s).length-y.1) (0,(none,0)) (Nat.zero_le _) aSx (λw h=>(h.own_nil 5 1).ent aEt) (λ⟨k,A⟩hk1=>?_)
 dsimp only at hk1 ⊢
 refine aU5 ?_
 refine sCd rfl (λh5=>?_) λh5=>?_
 ·have hk:k<(up t s).length:=by omega
  have e32:(((up t s).getD k 0).toNat:Int)=32 ↔ (up t s).getD k 0=32:=⟨λh=>UInt8.toNat_inj.1 (by show((up t s).getD k 0).toNat=32;omega),λh=>by rw[h];rfl⟩
  have e46:(((up t s).getD k 0).toNat:Int)=46 ↔ (up t s).getD k 0=46:=⟨λh=>UInt8.toNat_inj.1 (by show((up t s).getD k 0).toNat=46;omega),λh=>by rw[h];rfl⟩
  have hst:((up t s).take (k+1)).flatMap kpB=((up t s).take k).flatMap kpB++kpB ((up t s).getD k 0):=by rw[X8 (d:=0) hk,List.flatMap_append];simp
  have hkl:=QaK ((up t s).take k)
  have htl:((up t s).take k).length<=k:=by simp;omega
  refine aU5 ?_
  refine o_p (Qh rfl rfl rfl Xr (k) om om rfl) rfl (o_q (XW rfl rfl QeJ (λw h=>by rw[Nat.zero_add];exact h.rd_blk (Mc:=[]) (b:=b1) aPk (by rw[Nat.mul_one];exact QbS hk) (by simp))) rfl (aU6 ?_))
  refine o_p (Qo rfl rfl rfl Tryz.underlying9 (0) om (by first|omega|decide)) rfl ?_
  refine aU2 ?_
  refine oOr 4 24 28 rfl
   (λhg6 _=>by
    refine aU3 ?_
    refine o_p (Qo rfl rfl rfl Tryz.underlying9 (0) om (by first|omega|decide)) rfl ?_
    refine aU2 ?_
    exact oJf 4 28)
   (λhg8 _=>by
    refine aU3 ?_
    exact oJt 4 28) ?_
  refine aU2 ?_
  refine sCd rfl (λh10=>?_) λh10=>?_
  ·have hkp:kpB ((up t s).getD k 0)=[]:=by have hq:(((up t s).getD k 0).toNat:Int)=32\/(((up t s).getD k 0).toNat:Int)=46:=h10;rw[e32,e46]at hq;unfold kpB;rw[if_pos hq]
   refine aT5 ?_
   refine aU2 ?_
   exact QN (k+1,A) (by show(up t s).length-(k+1)<(up t s).length-k;omega) (by show k+1<=_;omega) (by(try dsimp only);rw[hst,hkp,List.append_nil];exact aSx) (λw h=>by dsimp only;rw[hst,hkp,List.append_nil];exact h.ent aEt)
  have hq1:¬(((up t s).getD k 0).toNat:Int)=32/\¬(((up t s).getD k 0).toNat:Int)=46:=h10
  rw[e32,e46]at hq1
  refine aU3 ?_
  refine oCq rfl (λw1 h1=>c290 w1 ((up t s).getD k 0)) (aU2 ?_)
  refine sCd rfl (λh11=>?_) λh11=>?_
  ·have hkp:kpB ((up t s).getD k 0)=[(up t s).getD k 0]:=by unfold kpB;rw[if_neg (by rintro(hA|hA);exact hq1.1 hA;exact hq1.2 hA),if_pos h11]
   refine aU3 ?_
   refine o_h (Qp (cs:=[_]) rfl rfl Xr Qel rfl rfl rfl) rfl (λb12 _=>o_h (YH (n:=(((up t s).take k).flatMap kpB).length) [bv ((up t s).getD k 0)] rfl rfl rfl Xr Tryz.underlying226 Qel rfl aPk (Yi aPk) rfl (by intro u hu;simp only[List.mem_cons,List.mem_nil_iff,or_false]at hu;subst hu;rfl) om (by simp only[maxLen];omega)) rfl (λb13 _=>aT6 ?_))
   refine aU2 ?_
   exact QN (k+1,b13) (by show(up t s).length-(k+1)<(up t s).length-k;omega) (by show k+1<=_;omega) (by(try dsimp only);rw[hst,hkp,List.length_append];exact aSx) (λw h=>by dsimp only;rw[hst,hkp,List.length_append,List.map_append];exact h.ent aEt)
  have hkp:kpB ((up t s).getD k 0)=[95]:=by unfold kpB;rw[if_neg (by rintro(hA|hA);exact hq1.1 hA;exact hq1.2 hA),if_neg (by rw[h11];simp)]
  refine aU2 ?_
  refine o_h (Qp (cs:=[_]) rfl rfl Xr Qel rfl rfl rfl) rfl (λb14 _=>o_h (YH (n:=(((up t s).take k).flatMap kpB).length) [bv 95] rfl rfl rfl Xr Tryz.underlying226 Qel rfl aPk (Yi aPk) rfl (by intro u hu;simp only[List.mem_cons,List.mem_nil_iff,or_false]at hu;subst hu;rfl) om (by simp only[maxLen];omega)) rfl (λb15 _=>aT6 ?_))
  refine aU2 ?_
  exact QN (k+1,b15) (by show(up t s).length-(k+1)<(up t s).length-k;omega) (by show k+1<=_;omega) (by(try dsimp only);rw[hst,hkp,List.length_append];exact aSx) (λw h=>by dsimp only;rw[hst,hkp,List.length_append,List.map_append];exact h.ent aEt)
 obtain rfl:k=(up t s).length:=om
 rw[List.take_length]
 refine QE rfl ?_
 refine aU3 ?_
 refine o_q (ZE rfl rfl Tryz.underlying226 Tryz.underlying9 Tryz.underlying5 aPk (Qas _)) rfl (aU2 ?_)
 exact rV (h:=by simp only[Zo];rfl)
set_option maxHeartbeats 2000000 in
theorem c174(w:World)(t s:List UInt8)(r:Nat)(ks:List (List UInt8))(hl:t.length=128)(hc:∀c∈s,c.toNat<128)(hm:s.length<=1000000)(hr:MpR w [] r KS ks)(m9:Nat)(hm9:1<=m9/\m9<=99)(hmn:¬up t (Yn t s m9)∈ks):CR 174 #[.string (bs t),.string (bs s),.map (some r)] w (.tuple #[.string (bs (YR t s ks).1),.int .i64 (YR t s ks).2]):=by
 have hcs:∀c∈X1 s,c.toNat<128:=by intro c hA;unfold X1 at hA;split at hA;exact hc c (List.mem_of_mem_take hA);exact hc c hA
 have hct:∀c∈Yc s,c.toNat<128:=by intro c hA;unfold Yc at hA;split at hA;exact hc c (List.mem_of_mem_drop hA);cases hA
 have hms:(X1 s).length<=1000000:=by unfold X1;split;(rw[List.length_take];omega);exact hm
 have hmt:(Yc s).length<=1000000:=by unfold Yc;split;(rw[List.length_drop];omega);exact Nat.zero_le _
 have hks:=QfW (t:=t) (s:=X1 s)
 have hkt:=QfW (t:=t) (s:=Yc s)
 have h3:=QdR (t:=t) (s:=s)
 refine eN3 Tryz.func174 Tryz.ntmps174 ?_
 refine QnJ ?_
 refine oCq rfl (λw1 h1=>li86 w1 s hm) (aU7 ?_)
 refine QbO (α:=Unit) [8,9,19,20,21,22,23,24,25] (λ_=>[(8,.string (bs (X1 s))),(9,.string (bs (Yc s)))]) (λ_=>HS w [] []) (λ_=>True) ?_ ?_
 ·skip
  refine sCd rfl (λh1=>?_) λh1=>?_
  ·obtain⟨hd1,hd2,hd3⟩:=Qlh h1
   have hst:X1 s=s.take (Zl s):=by rw[X1,if_pos hd2]
   have htl:Yc s=s.drop (Zl s+1):=by rw[Yc,if_pos hd2]
   refine Xl [] mixed ?_
   refine dP 0 ?_
   refine dP 1 ?_
   refine dV 2 rfl (XZ (Zl s) rfl rfl rfl Tryz.underlying9 hd1 om) (dP 3 ?_)
   refine dP 4 ?_
   refine dP 5 ?_
   try refine dWr ?_
   refine Xg (show _=Value.int .i64 ((Zl s+1:Nat):Int)from by rw[hd1];rfl) (dV 6 rfl (Xj (Zl s+1) rfl rfl rfl Tryz.underlying9 rfl om) (dP 7 ?_))
   refine dP 8 ?_
   refine dNi ?_
   exact XQ () trivial (by(try dsimp only);rw[hst,htl];exact aSx) (λw h=>h.ent aEt)
  have hd2:=QlT h1
  have hst:X1 s=s:=by rw[X1,if_neg om]
  have htl:Yc s=[]:=by rw[Yc,if_neg om]
  refine aU ?_
  exact XQ () trivial (by(try dsimp only);rw[hst,htl];exact aSx) (λw h=>h.ent aEt)
 intro _ _
 refine aU4 ?_
 refine oCq rfl (λw1 h1=>c237 w1 t (X1 s) hl hcs hms) (aU2 ?_)
 refine oCq rfl (λw1 h1=>c237 w1 t (Yc s) hl hct hmt) (aU9 ?_)
 refine sCd rfl (λh2=>?_) λh2=>?_
 ·have hz:Yd t (X1 s)=[]:=h2
  refine aU5 ?_
  exact Qn (rs:=[.tmp 6,.tmp 7]) rfl (.tmp rfl (.tmp rfl (.nil))) (λw' h'=>⟨by rw[YR,if_pos hz];rfl,h'.below⟩)
 have hz:¬Yd t (X1 s)=[]:=h2
 refine aU7 ?_
 refine Qj (L':=[(0,_),(2,_),(6,_),(7,_),(8,_),(9,_),(35,_)]) aSx (λ_ h=>h) ?_
 refine QbO (α:=Unit) [9,36,37,38,39,40,41] (λ_=>[(9,.string (bs (Qap t s)))]) (λ_=>HS w [] []) (λ_=>True) ?_ ?_
 ·skip
  refine sCd rfl (λh3=>?_) λh3=>?_
  ·have h3e:Qap t s=[46]++(Yd t (Yc s)).take (min (Yd t (Yc s)).length 3):=by rw[Qap,if_neg h3];rcases Nat.le_total (Yd t (Yc s)).length 3 with hA|hA;(rw[Nat.min_eq_left hA,List.take_length,List.take_of_length_le hA];rfl);(rw[Nat.min_eq_right hA];rfl)
   refine aU3 ?_
   refine o_p (Qf rfl rfl Tryz.underlying9) rfl (o_p (Qjt rfl rfl rfl ) rfl (o_p (XZ (min (Yd t (Yc s)).length 3) rfl rfl rfl Tryz.underlying9 om om) rfl (o_p (Qm rfl rfl rfl (by(try simp only[List.length_append,List.length_cons,List.length_nil,List.length_replicate,List.length_take,List.length_drop]);omega)) rfl (aU2 ?_))))
   exact XQ () trivial (by(try dsimp only);rw[h3e];exact aSx) (λw h=>h.ent aEt)
  have h3e:Qap t s=[]:=by rw[Qap,if_pos h3]
  have h3f:Yd t (Yc s)=[]:=h3
  refine aU ?_
  exact XQ () trivial (by(try dsimp only);rw[h3e,h3f];exact aSx) (λw h=>h.ent aEt)
 intro _ _
 refine aU6 ?_
 refine QU (α:=Nat) [6,7,11,12,13,42,43,44,45,46,47,48,49,50,51,52,53,54,55,56,57,58,59,60,61,62,63,64,65,66,67] (λk=>[(11,.int .i64 (k:Int))]) (λ_=>_) (λk=>1<=k/\k<=m9/\Qek t s ks 1 999=Qek t s ks k (1000-k)) (λk=>1000-k) 1 ⟨om,hm9.1,rfl⟩ aSx (λw h=>h) (λk hkk=>?_)
 obtain⟨hk0,hk1,hk2⟩:=hkk
 refine aU6 ?_
 refine sCd rfl (λh4=>?_) λh4=>?_
 ·have hk:k<=999:=by omega
  have hel:=Qhi hk
  have hel2:(Lib.itoa (k:Int)).length+1=(QbQ k).length:=rfl
  obtain⟨f,hf⟩:∃f,1000-k=f+1:=⟨999-k,om⟩
  have hcl:=QfE (t:=t) (s:=s) hk
  refine aU6 ?_
  refine oCq rfl (λw1 h1=>it88 w1 k om) (o_p (Qm rfl rfl rfl (by(try simp only[List.length_append,List.length_cons,List.length_nil,List.length_replicate,List.length_take,List.length_drop]);omega)) rfl (Qi (show _=Value.string (bs (QbQ k))from rfl) (aU6 ?_)))
  refine o_p (Qf rfl rfl Tryz.underlying9) rfl (aU ?_)
  refine o_p (Qf rfl rfl Tryz.underlying9) rfl (aT ?_)
  refine o_p (Qnp rfl rfl rfl rfl ) rfl (o_p (XZ (min (Yd t (X1 s)).length (min 6 (8-(QbQ k).length))) rfl rfl rfl Tryz.underlying9 om om) rfl (aU ?_))
  refine o_p (Qm rfl rfl rfl (by(try simp only[List.length_append,List.length_cons,List.length_nil,List.length_replicate,List.length_take,List.length_drop]);omega)) rfl (aU ?_)
  refine o_p (Qm rfl rfl rfl (by(try simp only[List.length_append,List.length_cons,List.length_nil,List.length_replicate,List.length_take,List.length_drop]);omega)) rfl (Qi (show _=Value.string (bs (Yn t s k))from by rw[show Yn t s k=(Yd t (X1 s)).take (min (Yd t (X1 s)).length (min 6 (8-(QbQ k).length)))++QbQ k++Qap t s from by rw[Yn,List.take_eq_take_min (i:=min 6 (8-(QbQ k).length)),Nat.min_comm (Yd t (X1 s)).length]]) (aU7 ?_))
  refine oCq rfl (λw1 h1=>QjJ w1 t (Yn t s k) hl QlH (by have:=QfE (t:=t) (s:=s) (n:=k) om;omega)) (o_q (Qeq (K:=KS) rfl rfl rfl Tryz.underlying248 zv_4 (QhA Tryz.underlying9) (hr)) rfl (aU2 ?_))
  refine sCd rfl (λh5=>?_) λh5=>?_
  ·have hin:¬up t (Yn t s k)∈ks:=h5
   refine aU ?_
   refine Qj (L':=[(0,_),(2,_),(8,_),(9,_),(11,_),(13,_),(35,_)]) aSx (λ_ h=>h) ?_
   refine aU5 ?_
   exact Qn (rs:=[.tmp 6,.tmp 7]) rfl (.tmp rfl (.tmp rfl (.nil))) (λw' h'=>⟨by rw[YR,if_neg hz,hk2,hf,Qek,if_neg hin];rfl,h'.below⟩)
  have hin:up t (Yn t s k)∈ks:=h5
  have hne9:k≠m9:=λe=>hmn (by rw[<-e];exact hin)
  refine aU2 ?_
  refine Qj (L':=[(0,_),(2,_),(8,_),(9,_),(11,_),(35,_)]) aSx (λ_ h=>h) ?_
  refine aT3 ?_
  refine aU2 ?_
  exact QN (k+1) om ⟨om,om,by rw[hk2,hf,Qek,if_pos hin,show 1000-(k+1)=f by omega]⟩ aSx (λw h=>h)
 exfalso;omega
instance:TFn Tryz.prog 173:=⟨by kernel_rfl⟩
instance:TFn Tryz.prog 175:=⟨by kernel_rfl⟩
instance:TFn Tryz.prog 174:=⟨by kernel_rfl⟩
noncomputable def QfS(t:List UInt8)(l:List (List UInt8)):List (List UInt8):=(l.map (up t)).foldl Zn []
theorem Qjq{l ks:List (List UInt8)}:∀{x},x∈l.foldl Zn ks ↔ x∈ks\/x∈l:=by
  induction l generalizing ks with
  | nil=>intro x;simp
  | cons a l ih=>
    intro x;rw[List.foldl_cons,ih];unfold Zn;split
    · rename_i h;simp only[List.mem_cons];constructor
      · rintro(h1|h1)
        · exact .inl h1
        · exact .inr (.inr h1)
      · rintro(h1|rfl|h1)
        · exact .inl h1
        · exact .inl h
        · exact .inr h1
    · simp only[List.mem_append,List.mem_cons,List.mem_nil_iff,or_false,or_assoc]
theorem QhK{t:List UInt8}{l:List (List UInt8)}(x:List UInt8):x∈QfS t l ↔ x∈l.map (up t):=by
  unfold QfS;rw[Qjq];simp
theorem QjG{t:List UInt8}{l:List (List UInt8)}{k:Nat}(h:k<l.length):QfS t (l.take (k+1))=Zn (QfS t (l.take k)) (up t (l.getD k [])):=by
  unfold QfS;rw[X8 (d:=[]) h,List.map_append,List.foldl_append];rfl
def Zk(t s:List UInt8)(l:List (List UInt8)):Int:=if openE t [s]=0 then if Qad (up t s)=true then 12 else QbG l else openE t [s]
theorem c175(w:World)(t:List UInt8)(a:Option Addr)(cap:Nat)(l:List (List UInt8))(hl:t.length=128)(hc:∀s∈l,∀c∈s,c.toNat<128)(hs:Vl w a (l.map QfN))(hln:l.length<=1000000)(hml:∀s∈l,s.length<=1000000):CE 175 #[.string (bs t),.slice a l.length cap] w [] (λg:Nat=>.map (some g)) (λg=>True) λg=>[.mp g KS (QfS t l)]:=by
 refine eN2 Tryz.func175 Tryz.ntmps175 ?_
 refine aU6 ?_
 refine o_h (QbM rfl KS) rfl (λb1 _=>Qcf ?_)
 refine QU (α:=Nat) [7,11,12,13,14,15,16,17,18,19] (λk=>[(11,.int .i64 (k:Int))]) (λk=>HS w [] [.mp b1 KS (QfS t (l.take k))]) (λk=>k<=l.length) (λk=>l.length-k) 0 (Nat.zero_le _) aSx (λw h=>h.ent aEt) (λk hk1=>?_)
 refine aU5 ?_
 refine sCd rfl (λh2=>?_) λh2=>?_
 ·have hk:k<l.length:=by omega
  have hgm:=XX (d:=[]) hk
  have hst:=QjG (t:=t) hk
  refine aU5 ?_
  refine o_p (Qh rfl rfl rfl QgU (k) om om (hs.some (by rw[List.length_map];omega))) rfl (o_q (XH rfl rfl Qlg ((hs.rd (Qf1 (k:=k) hk)))) rfl (aU6 ?_))
  refine oCq rfl (λw1 h1=>QjJ w1 t (l.getD k []) hl (hc _ hgm) (hml _ hgm)) (QgA (QbW (K:=KS) (.inl rfl) rfl rfl rfl Tryz.underlying248 (QhA Tryz.underlying9) aPt) (λ_ _=>aT4 ?_))
  refine aU2 ?_
  exact QN (k+1) om om aSx (λw h=>by rw[hst];exact h.ent aEt)
 obtain rfl:k=l.length:=om
 rw[List.take_length]
 refine QE rfl ?_
 refine aU5 ?_
 exact rT rfl rfl (λw' h'=>⟨_,rfl,trivial,h'.ent aEt⟩)
theorem c118(w:World)(t s:List UInt8)(a:Option Addr)(cap:Nat)(l:List (List UInt8))(hmt:t.length<=1000000)(hm:s.length<=1000000)(hs:Vl w a (l.map QfN))(hln:l.length<=1000000)(hml:∀s∈l,s.length<=1000000)(m9:Nat)(hm9:1<=m9/\m9<=99)(hmn:¬up t (Yn t s m9)∈l.map (up t)):CR 118 #[.string (bs t),.string (bs s),.slice a l.length cap] w (.tuple #[.string (bs (if(Zk t s l)=0 then(YR t s (l.map (up t))).1 else[])),.int .i64 (if(Zk t s l)=0 then(YR t s (l.map (up t))).2 else(Zk t s l))]):=by
 refine eN3 Tryz.func118 Tryz.ntmps118 ?_
 refine aU9 ?_
 refine o_h (Qp (cs:=[_]) rfl rfl QgU zr_9 rfl rfl rfl) rfl (λb1 _=>oCq rfl (λw1 h1=>c170 w1 t _ _ [s] hmt (h1.vl_blk aPk) (by simp) (by intro x hx;simp only[List.mem_cons,List.mem_nil_iff,or_false]at hx;subst hx;assumption)) (Z2 ?_))
 refine sCd rfl (λh2=>?_) λh2=>?_
 ·have h0:¬openE t [s]=0:=h2
  have hse:Zk t s l=openE t [s]:=by rw[Zk,if_neg h0]
  refine aU6 ?_
  exact Qn (rs:=[.tmp 6,.tmp 7]) rfl (.tmp rfl (.tmp rfl (.nil))) (λw' h'=>⟨by rw[hse,if_neg h0,if_neg h0];rfl,h'.below⟩)
 have h0:openE t [s]=0:=h2
 have ho:=QfI h0
 have hx:=Qbi (ho.2 s (by simp))
 have hl:=(QbK ho.1).1
 have hul:=ZA t s
 have hse:Xy [.int .i64 (bif !Qad (up t s)then 0 else 12),.int .i64 (QbG l)]=Zk t s l:=by rw[Qby,Zk,if_pos h0];cases Qad (up t s)<;>simp
 refine aU6 ?_
 refine oCq rfl (λw1 h1=>QjJ w1 t s hl hx hm) (oCq rfl (λw1 h1=>Qno w1 (up t s) om) (aU ?_))
 refine oCq rfl (λw1 h1=>Qfg w1 _ _) (aU ?_)
 refine oCq rfl (λw1 h1=>c173 w1 a cap l (hs.later h1) hln hml) (o_h (Qp (cs:=[_,_]) rfl rfl YY Qbv rfl rfl rfl) rfl (λb3 _=>oCq rfl (λw1 h1=>f137 h1 aPk (by rfl) (by rfl) (by decide)) (aU7 ?_)))
 refine sCd rfl (λh4=>?_) λh4=>?_
 ·have h1z:¬Zk t s l=0:=by rw[<-hse];exact h4
  refine aU6 ?_
  exact Qn (rs:=[.tmp 6,.tmp 7]) rfl (.tmp rfl (.tmp rfl (.nil))) (λw' h'=>⟨by rw[<-hse]at h1z ⊢;rw[if_neg h1z,if_neg h1z];rfl,h'.below⟩)
 have h1z:Zk t s l=0:=by rw[<-hse];exact h4
 have hnl:∀q∈l,∀c∈q,c.toNat<128:=by unfold Zk at h1z;rw[if_pos h0]at h1z;split at h1z;(exact absurd h1z (by decide));exactλq hq=>Qbi ((Qik h1z).2 q hq)
 refine aU7 ?_
 refine oCh rfl (λw1 h1=>c175 w1 t a cap l hl hnl (hs.later h1) hln hml) (λb5 _=>oCq rfl (λw1 h1=>c174 w1 t s b5 (QfS t l) hl hx hm (h1.mpr aPk) m9 hm9 (λhm=>hmn ((QhK _).1 hm))) (aU5 ?_))
 exact Qn (rs:=[.tmp 6,.tmp 7]) rfl (.tmp rfl (.tmp rfl (.nil))) (λw' h'=>⟨by rw[if_pos h1z,if_pos h1z,<-Qeh (λx=>QhK (t:=t) (l:=l) x)];rfl,h'.below⟩)
end Go.Proofs
namespace Gx
open Go Go.RowKit
def by8(n:Int):UInt8:=UInt8.ofNat (n%256).toNat
def at1(s:List UInt8)(i:Nat):Int:=((s.getD i 0).toNat:Int)
theorem u8wI(n:Int):IntKind.u8.wrap n=n%256:=by simp[IntKind.wrap,IntKind.signed,IntKind.bits]
theorem QdP(n:Int):((by8 n).toNat:Int)=n%256:=by
 unfold by8;rw[UInt8.toNat_ofNat'];omega
theorem Qhu(n:Int):Value.int .u8 (IntKind.u8.wrap n)=bv (by8 n):=by rw[u8wI,bv,QdP]
theorem Qnv{m n:Int}(h:m%256=n%256):by8 m=by8 n:=by unfold by8;rw[h]
def Xn:Nat->Int->List UInt8
 | 0,_=>[]
 | k+1,n=>by8 n::Xn k (n/256)
theorem QH:∀(k:Nat)(n:Int),(Xn k n).length=k
 | 0,_=>rfl
 | k+1,n=>by rw[Xn,List.length_cons,QH k]
theorem Qie(a b:Nat)(ha:a<9223372036854775808)(hb:b<9223372036854775808):bits .or .i64 (a:Int) (b:Int)=((a ||| b:Nat):Int):=by
 change IntKind.i64.wrap (((BitVec.ofInt 64 (a:Int)) ||| (BitVec.ofInt 64 (b:Int)):BitVec 64).toNat:Int)=_
 rw[BitVec.toNat_or,QaB 64 a om,QaB 64 b om];have:a ||| b<9223372036854775808:=Nat.or_lt_two_pow (n:=63) ha hb
 exact IntWalk.i64_in _ ⟨om,om⟩
theorem Qk4(a b:Nat)(h:a<256):a ||| 256*b=a+256*b:=by
 have h:=Nat.two_pow_add_eq_or_of_lt (i:=8) (b:=a) om b
 grind
theorem QeO(s:List UInt8)(i:Nat):0<=at1 s i/\at1 s i<256:=by
 have:=(s.getD i 0).toNat_lt;unfold at1;omega
theorem QiK(s:List UInt8)(k i:Nat):at1 (s.drop k) i=at1 s (k+i):=by grind[at1]
def Qy(s:List UInt8):Nat->Nat->Int
 | _,0=>0
 | a,k+1=>at1 s a+256*Qy s (a+1) k
theorem Qey(s:List UInt8):∀(k a:Nat),0<=Qy s a k/\Qy s a k<256^k
 | 0,a=>by simp[Qy]
 | k+1,a=>by
  have h1:=Qey s k (a+1);have h2:=QeO s a
  grind[Qy]
theorem Qkh(s:List UInt8)(a:Nat){k:Nat}(h:k<=6):0<=Qy s a k/\Qy s a k<281474976710656:=by
 have h1:=Qey s k a;have h2:∀k≤6,(256:Int)^k<=281474976710656:=by decide
 grind
end Gx
namespace Gx
open Go Go.RowKit
structure TEnt where
 key:List UInt8
 val:List UInt8
deriving DecidableEq,Inhabited
def QdE:List UInt8->List UInt8->Int
 | [],[]=>0
 | [],_::_=>-1
 | _::_,[]=>1
 | a::x,b::y=>if a<b then -1 else if b<a then 1 else QdE x y
def QaX(c:UInt8):UInt8:=if 97<=c/\c<=122 then c-32 else c
end Gx
namespace Gx
open Go Go.RowKit
theorem Qe9:∀a b,Lib.compareBytes a b=QdE a b
 | [],[]=>rfl
 | [],_::_=>rfl
 | _::_,[]=>rfl
 | a::x,b::y=>by
  unfold Lib.compareBytes QdE;rw[Qe9 x y]
section
variable{P:Program}{o:Oper}{L:Qa}
def QnR(P:Program)(f:FuncId):Prop:=∃fn,P.funcs[f]?=some fn/\(fn.name== "runtime.NumGoroutine")=false/\fn.body.isNone=true/\Extern.findNext fn=none/\Extern.find fn=some Extern.BytealgCompare.compare
theorem QbV{f:FuncId}{x y:Operand}{a b:List UInt8}{at':Array TypeId}{C:World->Prop}(ho:o.op=.call {callee:=.value (.func f),args:=#[x,y],argTypes:=at'})(hx:ev L x=some (.string (bs a)))(hy:ev L y=some (.string (bs b)))(hf:QnR P f):OpQ P o L C (.int .i64 (QdE a b)):=by
 intro ρ w hρ hw;obtain⟨fn,h1,h2,h3,h4,h5⟩:=hf;have hcall:=run_callFunc_extern h1 h2 h3 h4 h5 #[.string (bs a),.string (bs b)] w;rw[Lib.run_compareString,bs_data,bs_data,Qe9]at hcall
 have:(execOp ρ o).run P w=.ok (.value (.int .i64 (QdE a b))) w:=by
  unfold execOp;simp only[ho,resolve,Sem.run_bind,hρ (.func f) _ rfl,Deferred.ofValue,Sem.run_pure,Result.andThen_ok,invoke,List.map_toArray,List.map_cons,List.map_nil,hρ _ _ hx,hρ _ _ hy,Array.empty_append,Array.append_empty,hcall]
 rw[this];exact⟨rfl,Below.refl _ _⟩
end
end Gx
namespace Go.Proofs
open Go Go.RowKit Gx
attribute [local irreducible] Go.Calls Gx.S Gx.O Gx.D Gx.OpP Gx.OpQ Gx.OpH
set_option maxRecDepth 20000
theorem Xx:tsl Tryz.prog 124=some (84,2,32):=by kernel_rfl
theorem Xw:tsl Tryz.prog 125=some (3,1,8):=by kernel_rfl
theorem Qan:Qs Tryz.prog 84=some [.string (bs []),.string (bs [])]:=by kernel_rfl
theorem QmE:QmS Tryz.prog 294 124 4:=⟨_,Tryz.func294,rfl,rfl,by kernel_rfl,by kernel_rfl⟩
theorem zr_3:Qs Tryz.prog 3=some [.int .i64 0]:=by kernel_rfl
theorem Qnq:QmS Tryz.prog 329 125 4:=⟨_,Tryz.func329,rfl,rfl,by kernel_rfl,by kernel_rfl⟩
theorem QiX:QnR Tryz.prog 308:=⟨_,Tryz.func308,rfl,rfl,by kernel_rfl,by kernel_rfl⟩
instance:TFn Tryz.prog 270:=⟨by kernel_rfl⟩
instance:TFn Tryz.prog 212:=⟨by kernel_rfl⟩
instance:TFn Tryz.prog 209:=⟨by kernel_rfl⟩
theorem QnW(w:World)(a:Option Addr)(i n m cap:Nat)(xs news:List Value)(b0 c0 tot2:Nat)(hw:HS w (fps [.own (.slice a n cap) 84 2 n xs,.blk b0 84 tot2 news]) [.own (.slice a n cap) 84 2 n xs,.blk b0 84 tot2 news] w)(hm0:0<m)(hl:news.length=m*2)(hn1:∀u∈news,u.oneCell'=true)(hx1:∀u∈xs,u.oneCell'=true)(hmax:(n+m)*32<=140737488355328)(hi:i=n):CE 239 #[.slice a n cap,.int .i64 i,.slice (some ⟨b0,0,none⟩) m c0] w (fps [.own (.slice a n cap) 84 2 n xs,.blk b0 84 tot2 news]) (λg:Option Addr×Nat=>.slice g.1 (n+m) g.2) (λg=>True) λg=>[.own (.slice g.1 (n+m) g.2) 84 2 (n+m) (xs.take (i*2)++news++xs.drop (i*2)),.blk b0 84 tot2 news]:=by
 obtain⟨_,hnc,hcm,hxl⟩:=hw.own_facts .here
 refine eW3 Tryz.func239 Tryz.ntmps239 hw ?_
 refine aU8 ?_
 refine o_p (QC _ _ i n rfl rfl Xx ⟨_,_,rfl,rfl⟩ rfl om om) rfl (QcQ ?_)
 refine sCd rfl (λh1=>?_) λh1=>?_
 ·exfalso;first|omega|(simp at h1;done)|(simp_all;done)
 refine Qjg ?_
 refine sCd rfl (λh2=>?_) λh2=>?_
 ·refine aU4 ?_
  refine o_h (YH news rfl rfl rfl Xx Tryz.underlying124 Qan rfl aPk (Yi aPk) hl hn1 om (by simp only[maxLen];omega)) rfl (λb3 _=>aU2 ?_)
  exact rT rfl rfl (λw' h'=>⟨(_,_),rfl,trivial,by subst hi;rw[List.take_of_length_le om,List.drop_eq_nil_of_le om,List.append_nil];exact h'.ent aEt⟩)
 exfalso;first|omega|(simp at h2;done)|(simp_all;done)
theorem Qoe(w:World)(gg i n m cap:Nat)(xs news:List Value)(b0 c0 tot2:Nat)(M:List Nat)(hw:HS w M [.blk gg 84 (cap*2) xs,.blk b0 84 tot2 news] w)(hnc:n<=cap)(hcm:cap<=maxLen)(hxl:xs.length=n*2)(hm0:0<m)(hl:news.length=m*2)(hn1:∀u∈news,u.oneCell'=true)(hx1:∀u∈xs,u.oneCell'=true)(hmax:(n+m)*32<=140737488355328)(hi:i<n):CE 239 #[.slice (some ⟨gg,0,none⟩) n cap,.int .i64 i,.slice (some ⟨b0,0,none⟩) m c0] w M (λg:Option Addr×Nat=>.slice g.1 (n+m) g.2) (λg=>True) λg=>[.own (.slice g.1 (n+m) g.2) 84 2 (n+m) (xs.take (i*2)++news++xs.drop (i*2)),.blk b0 84 tot2 news]:=by
 have ht2:=(hw.blk_get (.there .here)).len_le
 have hcl:(cut xs 0 (i*2)).length=i*2:=QP _ _ _ om
 refine eW3 Tryz.func239 Tryz.ntmps239 hw ?_
 refine aU8 ?_
 refine o_p (QC _ _ i n rfl rfl Xx ⟨_,_,rfl,rfl⟩ rfl om om) rfl (QcQ ?_)
 refine sCd rfl (λh1=>?_) λh1=>?_
 ·exfalso;first|omega|(simp at h1;done)|(simp_all;done)
 refine Qjg ?_
 refine sCd rfl (λh2=>?_) λh2=>?_
 ·exfalso;first|omega|(simp at h2;done)|(simp_all;done)
 refine aT7 ?_
 refine aU ?_
 refine o_p (Qja rfl rfl Tryz.underlying124) rfl (aU2 ?_)
 refine sCd rfl (λh3=>?_) λh3=>?_
 ·refine aU4 ?_
  refine o_p (QC _ _ 0 i rfl rfl Xx rfl ⟨_,_,rfl,rfl⟩ om om) rfl ?_
  refine Qi (show _=Value.slice (some ⟨gg,0,none⟩) (i) (cap)from by rw[QaE]<;>(congr 1<;>omega)) (aT3 ?_)
  refine aT2 ?_
  refine Qi (show _=Value.int .i64 ((n+m-i:Nat):Int)from by first|rfl|(congr 1<;>first|rfl|omega)) (o_h (YW (m:=n+m-i) (olds:=cut xs 0 (i*2)) rfl rfl rfl Xx Qcg Qan rfl (by decide) om om (YC 0 (i*2) (λ_=>rfl) aPk) hcl om (by simp only[maxLen];omega)) rfl (λ⟨b4,c5⟩⟨h6,k7⟩=>?_))
  refine Qi (show _=Value.slice (some ⟨b4,0,none⟩) (n+m) c5 from by first|rfl|(congr 1<;>first|rfl|omega)) (aU3 ?_)
  refine Qj (L':=[(0,_),(1,_),(2,_),(6,_),(7,_),(8,_),(9,_)]) aSx (λ_ h=>h) ?_
  refine aU3 ?_
  refine o_p (QC _ _ i (n+m) rfl rfl Xx ⟨_,_,rfl,rfl⟩ rfl om om) rfl ?_
  refine Qi (show _=Value.slice (some ⟨b4,i*2,none⟩) (n+m-i) (c5-i)from by rw[XB om]<;>(congr 1<;>omega)) (aU ?_)
  refine o_h (ZP m news rfl rfl rfl Xx aPt om hl (λ_=>rfl) (by simp only[Qk,List.length_append,Qd];omega) (Yi aPk) hn1) rfl (λ_ _=>aU2 ?_)
  refine Xl [8] mixed ?_
  refine dP 0 ?_
  refine dP 1 ?_
  refine dP 2 ?_
  refine dP 3 ?_
  try refine dWr ?_
  refine dV 4 rfl (QC _ _ (i+m) (n+m) rfl rfl Xx ⟨_,_,rfl,om⟩ rfl om om) ?_
  refine Xg (show _=Value.slice (some ⟨b4,(i+m)*2,none⟩) (n-i) (c5-(i+m))from by rw[XB om]<;>(congr 1<;>omega)) (dP 5 ?_)
  refine dP 6 ?_
  refine dV 7 rfl (QC _ _ i n rfl rfl Xx ⟨_,_,rfl,rfl⟩ rfl om om) ?_
  refine Xg (show _=Value.slice (some ⟨gg,i*2,none⟩) (n-i) (cap-i)from by rw[XB om]<;>(congr 1<;>omega)) (dH 8 rfl (ZP (n-i) (cut xs (i*2) ((n-i)*2)) rfl rfl rfl Xx aPt om (QP _ _ _ om) (λ_=>rfl) (by rw[QP _ _ _ om];simp only[Qk,List.length_append,Qd];omega) (YC (i*2) ((n-i)*2) (λ_=>rfl) aPk) (QeB hx1 _ _)) (λ_ _=>dTu [] ?_))
  refine dNi ?_
  refine aU5 ?_
  exact rT rfl rfl (λw' h'=>⟨(some ⟨b4,0,none⟩,c5),rfl,trivial,(HS.to_own (n:=n+m) (xs:=xs.take (i*2)++news++xs.drop (i*2)) (ds:=[]) aPk h' (by have hq:=Qfu (xs:=xs) (news:=news) (z:=QW [.string (bs []),.string (bs [])] ((n+m-i)*2)) (p:=i*2) (q:=m*2) (N:=n*2) hxl om hl (by rw[Qk];omega);rw[List.append_nil];rw[show(i+m)*2=i*2+m*2 from om,show(n-i)*2=n*2-i*2 from om];exact hq) (by simp only[List.length_append,List.length_take,List.length_drop];omega) om om).ent aEt⟩)
 refine aT7 ?_
 refine o_p (QC _ _ 0 (n+m) rfl rfl Xx rfl ⟨_,_,rfl,om⟩ om om) rfl ?_
 refine Qi (show _=Value.slice (some ⟨gg,0,none⟩) (n+m) cap from by rw[QaE]<;>(congr 1<;>omega)) (o_ex (λw h=>HS.blk_full (b:=gg) aPk h) λds=>?_)
 refine Qi9 (λw h=>h.1) λhds=>Qax (λw h=>h.2) (aT10 ?_)
 refine o_p (QC _ _ (i+m) (n+m) rfl rfl Xx ⟨_,_,rfl,om⟩ rfl om om) rfl ?_
 refine Qi (show _=Value.slice (some ⟨gg,(i+m)*2,none⟩) (n-i) (cap-(i+m))from by rw[XB om]<;>(congr 1<;>omega)) (o_q (QcY rfl QmE rfl rfl Xx (hp:=aPk) (hp':=aPk) (by decide) om om) rfl (aU2 ?_))
 refine sCd rfl (λh8=>?_) λh8=>?_
 ·refine aU ?_
  refine Qj (L':=[(0,_),(1,_),(2,_),(6,_),(7,_),(8,_)]) aSx (λ_ h=>h) ?_
  refine Xl [8] mixed ?_
  refine dP 0 ?_
  refine dP 1 ?_
  refine dP 2 ?_
  refine dP 3 ?_
  try refine dWr ?_
  refine dV 4 rfl (QC _ _ (i+m) (n+m) rfl rfl Xx ⟨_,_,rfl,om⟩ rfl om om) ?_
  refine Xg (show _=Value.slice (some ⟨gg,(i+m)*2,none⟩) (n-i) (cap-(i+m))from by rw[XB om]<;>(congr 1<;>omega)) (dP 5 ?_)
  refine dP 6 ?_
  refine dV 7 rfl (QC _ _ i (n+m) rfl rfl Xx ⟨_,_,rfl,rfl⟩ rfl om om) ?_
  refine Xg (show _=Value.slice (some ⟨gg,i*2,none⟩) (n+m-i) (cap-i)from by rw[XB om]<;>(congr 1<;>omega)) (dH 8 rfl (ZP (n-i) (cut (xs++ds) (i*2) ((n-i)*2)) rfl rfl rfl Xx aPt om (QP _ _ _ (by simp only[Qk,List.length_append,Qd];omega)) (λ_=>rfl) (by rw[QP _ _ _ (by simp only[Qk,List.length_append,Qd];omega)];simp only[Qk,List.length_append,Qd];omega) (YC (i*2) ((n-i)*2) (λ_=>rfl) aPk) (Qhm hx1 om)) (λ_ _=>dTu [] ?_))
  refine dNi ?_
  refine aU4 ?_
  refine o_p (QC _ _ i (n+m) rfl rfl Xx ⟨_,_,rfl,rfl⟩ rfl om om) rfl ?_
  refine Qi (show _=Value.slice (some ⟨gg,i*2,none⟩) (n+m-i) (cap-i)from by rw[XB om]<;>(congr 1<;>omega)) (aU ?_)
  refine o_h (ZP m news rfl rfl rfl Xx aPt om hl (λ_=>rfl) (by simp only[Qk,List.length_append,Qd];omega) (Yi aPk) hn1) rfl (λ_ _=>aU6 ?_)
  exact rT rfl rfl (λw' h'=>⟨(some ⟨gg,0,none⟩,cap),rfl,trivial,(HS.to_own (n:=n+m) (xs:=xs.take (i*2)++news++xs.drop (i*2)) (ds:=ds.drop (m*2)) aPk h' (by have hq:=QiQ (xs:=xs) (ds:=ds) (news:=news) (p:=i*2) (q:=m*2) (N:=n*2) hxl om hl om;rw[show(i+m)*2=i*2+m*2 from om,show(n-i)*2=n*2-i*2 from om];exact hq) (by simp only[List.length_append,List.length_take,List.length_drop];omega) om om).ent aEt⟩)
 exfalso;first|omega|(simp at h8;done)|(simp_all;done)
theorem c239(w:World)(a:Option Addr)(i n m cap:Nat)(xs news:List Value)(b0 c0 tot2:Nat)(hw:HS w (fps [.own (.slice a n cap) 84 2 n xs,.blk b0 84 tot2 news]) [.own (.slice a n cap) 84 2 n xs,.blk b0 84 tot2 news] w)(hm0:0<m)(hl:news.length=m*2)(hn1:∀u∈news,u.oneCell'=true)(hx1:∀u∈xs,u.oneCell'=true)(hmax:(n+m)*32<=140737488355328)(hi:i<=n):CE 239 #[.slice a n cap,.int .i64 i,.slice (some ⟨b0,0,none⟩) m c0] w (fps [.own (.slice a n cap) 84 2 n xs,.blk b0 84 tot2 news]) (λg:Option Addr×Nat=>.slice g.1 (n+m) g.2) (λg=>True) λg=>[.own (.slice g.1 (n+m) g.2) 84 2 (n+m) (xs.take (i*2)++news++xs.drop (i*2)),.blk b0 84 tot2 news]:=by
  rcases Nat.lt_or_ge i n with h|h
  · obtain⟨gg,rfl,_,hnc,hcm,hxl,hb⟩:=hw.own_blk om .here;exact Qoe w gg i n m cap xs news b0 c0 tot2 _ hb hnc hcm hxl hm0 hl hn1 hx1 hmax h
  · exact QnW w a i n m cap xs news b0 c0 tot2 hw hm0 hl hn1 hx1 hmax om
theorem Qn8(w:World)(a:Option Addr)(i n m cap:Nat)(xs news:List Value)(b0 c0 tot2:Nat)(hw:HS w (fps [.own (.slice a n cap) 3 1 n xs,.blk b0 3 tot2 news]) [.own (.slice a n cap) 3 1 n xs,.blk b0 3 tot2 news] w)(hm0:0<m)(hl:news.length=m*1)(hn1:∀u∈news,u.oneCell'=true)(hx1:∀u∈xs,u.oneCell'=true)(hmax:(n+m)*8<=140737488355328)(hi:i=n):CE 302 #[.slice a n cap,.int .i64 i,.slice (some ⟨b0,0,none⟩) m c0] w (fps [.own (.slice a n cap) 3 1 n xs,.blk b0 3 tot2 news]) (λg:Option Addr×Nat=>.slice g.1 (n+m) g.2) (λg=>True) λg=>[.own (.slice g.1 (n+m) g.2) 3 1 (n+m) (xs.take (i*1)++news++xs.drop (i*1)),.blk b0 3 tot2 news]:=by
 obtain⟨_,hnc,hcm,hxl⟩:=hw.own_facts .here
 refine eW3 Tryz.func302 Tryz.ntmps302 hw ?_
 refine aU8 ?_
 refine o_p (QC _ _ i n rfl rfl Xw ⟨_,_,rfl,rfl⟩ rfl om om) rfl (QcQ ?_)
 refine sCd rfl (λh1=>?_) λh1=>?_
 ·exfalso;first|omega|(simp at h1;done)|(simp_all;done)
 refine Qjg ?_
 refine sCd rfl (λh2=>?_) λh2=>?_
 ·refine aU4 ?_
  refine o_h (YH news rfl rfl rfl Xw Tryz.underlying125 zr_3 rfl aPk (Yi aPk) hl hn1 om (by simp only[maxLen];omega)) rfl (λb3 _=>aU2 ?_)
  exact rT rfl rfl (λw' h'=>⟨(_,_),rfl,trivial,by subst hi;rw[List.take_of_length_le om,List.drop_eq_nil_of_le om,List.append_nil];exact h'.ent aEt⟩)
 exfalso;first|omega|(simp at h2;done)|(simp_all;done)
theorem QnV(w:World)(gg i n m cap:Nat)(xs news:List Value)(b0 c0 tot2:Nat)(M:List Nat)(hw:HS w M [.blk gg 3 (cap*1) xs,.blk b0 3 tot2 news] w)(hnc:n<=cap)(hcm:cap<=maxLen)(hxl:xs.length=n*1)(hm0:0<m)(hl:news.length=m*1)(hn1:∀u∈news,u.oneCell'=true)(hx1:∀u∈xs,u.oneCell'=true)(hmax:(n+m)*8<=140737488355328)(hi:i<n):CE 302 #[.slice (some ⟨gg,0,none⟩) n cap,.int .i64 i,.slice (some ⟨b0,0,none⟩) m c0] w M (λg:Option Addr×Nat=>.slice g.1 (n+m) g.2) (λg=>True) λg=>[.own (.slice g.1 (n+m) g.2) 3 1 (n+m) (xs.take (i*1)++news++xs.drop (i*1)),.blk b0 3 tot2 news]:=by
 have ht2:=(hw.blk_get (.there .here)).len_le
 have hcl:(cut xs 0 (i*1)).length=i*1:=QP _ _ _ om
 refine eW3 Tryz.func302 Tryz.ntmps302 hw ?_
 refine aU8 ?_
 refine o_p (QC _ _ i n rfl rfl Xw ⟨_,_,rfl,rfl⟩ rfl om om) rfl (QcQ ?_)
 refine sCd rfl (λh1=>?_) λh1=>?_
 ·exfalso;first|omega|(simp at h1;done)|(simp_all;done)
 refine Qjg ?_
 refine sCd rfl (λh2=>?_) λh2=>?_
 ·exfalso;first|omega|(simp at h2;done)|(simp_all;done)
 refine aT7 ?_
 refine aU ?_
 refine o_p (Qja rfl rfl Tryz.underlying125) rfl (aU2 ?_)
 refine sCd rfl (λh3=>?_) λh3=>?_
 ·refine aU4 ?_
  refine o_p (QC _ _ 0 i rfl rfl Xw rfl ⟨_,_,rfl,rfl⟩ om om) rfl ?_
  refine Qi (show _=Value.slice (some ⟨gg,0,none⟩) (i) (cap)from by rw[QaE]<;>(congr 1<;>omega)) (aT3 ?_)
  refine aT2 ?_
  refine Qi (show _=Value.int .i64 ((n+m-i:Nat):Int)from by first|rfl|(congr 1<;>first|rfl|omega)) (o_h (YW (m:=n+m-i) (olds:=cut xs 0 (i*1)) rfl rfl rfl Xw Qcg zr_3 rfl (by decide) om om (YC 0 (i*1) (λ_=>rfl) aPk) hcl om (by simp only[maxLen];omega)) rfl (λ⟨b4,c5⟩⟨h6,k7⟩=>?_))
  refine Qi (show _=Value.slice (some ⟨b4,0,none⟩) (n+m) c5 from by first|rfl|(congr 1<;>first|rfl|omega)) (aU3 ?_)
  refine Qj (L':=[(0,_),(1,_),(2,_),(6,_),(7,_),(8,_),(9,_)]) aSx (λ_ h=>h) ?_
  refine aU3 ?_
  refine o_p (QC _ _ i (n+m) rfl rfl Xw ⟨_,_,rfl,rfl⟩ rfl om om) rfl ?_
  refine Qi (show _=Value.slice (some ⟨b4,i*1,none⟩) (n+m-i) (c5-i)from by rw[XB om]<;>(congr 1<;>omega)) (aU ?_)
  refine o_h (ZP m news rfl rfl rfl Xw aPt om hl (λ_=>rfl) (by simp only[Qk,List.length_append,Qd];omega) (Yi aPk) hn1) rfl (λ_ _=>aU2 ?_)
  refine Xl [8] mixed ?_
  refine dP 0 ?_
  refine dP 1 ?_
  refine dP 2 ?_
  refine dP 3 ?_
  try refine dWr ?_
  refine dV 4 rfl (QC _ _ (i+m) (n+m) rfl rfl Xw ⟨_,_,rfl,om⟩ rfl om om) ?_
  refine Xg (show _=Value.slice (some ⟨b4,(i+m)*1,none⟩) (n-i) (c5-(i+m))from by rw[XB om]<;>(congr 1<;>omega)) (dP 5 ?_)
  refine dP 6 ?_
  refine dV 7 rfl (QC _ _ i n rfl rfl Xw ⟨_,_,rfl,rfl⟩ rfl om om) ?_
  refine Xg (show _=Value.slice (some ⟨gg,i*1,none⟩) (n-i) (cap-i)from by rw[XB om]<;>(congr 1<;>omega)) (dH 8 rfl (ZP (n-i) (cut xs (i*1) ((n-i)*1)) rfl rfl rfl Xw aPt om (QP _ _ _ om) (λ_=>rfl) (by rw[QP _ _ _ om];simp only[Qk,List.length_append,Qd];omega) (YC (i*1) ((n-i)*1) (λ_=>rfl) aPk) (QeB hx1 _ _)) (λ_ _=>dTu [] ?_))
  refine dNi ?_
  refine aU5 ?_
  exact rT rfl rfl (λw' h'=>⟨(some ⟨b4,0,none⟩,c5),rfl,trivial,(HS.to_own (n:=n+m) (xs:=xs.take (i*1)++news++xs.drop (i*1)) (ds:=[]) aPk h' (by have hq:=Qfu (xs:=xs) (news:=news) (z:=QW [.int .i64 0] ((n+m-i)*1)) (p:=i*1) (q:=m*1) (N:=n*1) hxl om hl (by rw[Qk];omega);rw[List.append_nil];rw[show(i+m)*1=i*1+m*1 from om,show(n-i)*1=n*1-i*1 from om];exact hq) (by simp only[List.length_append,List.length_take,List.length_drop];omega) om om).ent aEt⟩)
 refine aT7 ?_
 refine o_p (QC _ _ 0 (n+m) rfl rfl Xw rfl ⟨_,_,rfl,om⟩ om om) rfl ?_
 refine Qi (show _=Value.slice (some ⟨gg,0,none⟩) (n+m) cap from by rw[QaE]<;>(congr 1<;>omega)) (o_ex (λw h=>HS.blk_full (b:=gg) aPk h) λds=>?_)
 refine Qi9 (λw h=>h.1) λhds=>Qax (λw h=>h.2) (aT10 ?_)
 refine o_p (QC _ _ (i+m) (n+m) rfl rfl Xw ⟨_,_,rfl,om⟩ rfl om om) rfl ?_
 refine Qi (show _=Value.slice (some ⟨gg,(i+m)*1,none⟩) (n-i) (cap-(i+m))from by rw[XB om]<;>(congr 1<;>omega)) (o_q (QcY rfl Qnq rfl rfl Xw (hp:=aPk) (hp':=aPk) (by decide) om om) rfl (aU2 ?_))
 refine sCd rfl (λh8=>?_) λh8=>?_
 ·refine aU ?_
  refine Qj (L':=[(0,_),(1,_),(2,_),(6,_),(7,_),(8,_)]) aSx (λ_ h=>h) ?_
  refine Xl [8] mixed ?_
  refine dP 0 ?_
  refine dP 1 ?_
  refine dP 2 ?_
  refine dP 3 ?_
  try refine dWr ?_
  refine dV 4 rfl (QC _ _ (i+m) (n+m) rfl rfl Xw ⟨_,_,rfl,om⟩ rfl om om) ?_
  refine Xg (show _=Value.slice (some ⟨gg,(i+m)*1,none⟩) (n-i) (cap-(i+m))from by rw[XB om]<;>(congr 1<;>omega)) (dP 5 ?_)
  refine dP 6 ?_
  refine dV 7 rfl (QC _ _ i (n+m) rfl rfl Xw ⟨_,_,rfl,rfl⟩ rfl om om) ?_
  refine Xg (show _=Value.slice (some ⟨gg,i*1,none⟩) (n+m-i) (cap-i)from by rw[XB om]<;>(congr 1<;>omega)) (dH 8 rfl (ZP (n-i) (cut (xs++ds) (i*1) ((n-i)*1)) rfl rfl rfl Xw aPt om (QP _ _ _ (by simp only[Qk,List.length_append,Qd];omega)) (λ_=>rfl) (by rw[QP _ _ _ (by simp only[Qk,List.length_append,Qd];omega)];simp only[Qk,List.length_append,Qd];omega) (YC (i*1) ((n-i)*1) (λ_=>rfl) aPk) (Qhm hx1 om)) (λ_ _=>dTu [] ?_))
  refine dNi ?_
  refine aU4 ?_
  refine o_p (QC _ _ i (n+m) rfl rfl Xw ⟨_,_,rfl,rfl⟩ rfl om om) rfl ?_
  refine Qi (show _=Value.slice (some ⟨gg,i*1,none⟩) (n+m-i) (cap-i)from by rw[XB om]<;>(congr 1<;>omega)) (aU ?_)
  refine o_h (ZP m news rfl rfl rfl Xw aPt om hl (λ_=>rfl) (by simp only[Qk,List.length_append,Qd];omega) (Yi aPk) hn1) rfl (λ_ _=>aU6 ?_)
  exact rT rfl rfl (λw' h'=>⟨(some ⟨gg,0,none⟩,cap),rfl,trivial,(HS.to_own (n:=n+m) (xs:=xs.take (i*1)++news++xs.drop (i*1)) (ds:=ds.drop (m*1)) aPk h' (by have hq:=QiQ (xs:=xs) (ds:=ds) (news:=news) (p:=i*1) (q:=m*1) (N:=n*1) hxl om hl om;rw[show(i+m)*1=i*1+m*1 from om,show(n-i)*1=n*1-i*1 from om];exact hq) (by simp only[List.length_append,List.length_take,List.length_drop];omega) om om).ent aEt⟩)
 exfalso;first|omega|(simp at h8;done)|(simp_all;done)
theorem c302(w:World)(a:Option Addr)(i n m cap:Nat)(xs news:List Value)(b0 c0 tot2:Nat)(hw:HS w (fps [.own (.slice a n cap) 3 1 n xs,.blk b0 3 tot2 news]) [.own (.slice a n cap) 3 1 n xs,.blk b0 3 tot2 news] w)(hm0:0<m)(hl:news.length=m*1)(hn1:∀u∈news,u.oneCell'=true)(hx1:∀u∈xs,u.oneCell'=true)(hmax:(n+m)*8<=140737488355328)(hi:i<=n):CE 302 #[.slice a n cap,.int .i64 i,.slice (some ⟨b0,0,none⟩) m c0] w (fps [.own (.slice a n cap) 3 1 n xs,.blk b0 3 tot2 news]) (λg:Option Addr×Nat=>.slice g.1 (n+m) g.2) (λg=>True) λg=>[.own (.slice g.1 (n+m) g.2) 3 1 (n+m) (xs.take (i*1)++news++xs.drop (i*1)),.blk b0 3 tot2 news]:=by
  rcases Nat.lt_or_ge i n with h|h
  · obtain⟨gg,rfl,_,hnc,hcm,hxl,hb⟩:=hw.own_blk om .here;exact QnV w gg i n m cap xs news b0 c0 tot2 _ hb hnc hcm hxl hm0 hl hn1 hx1 hmax h
  · exact Qn8 w a i n m cap xs news b0 c0 tot2 hw hm0 hl hn1 hx1 hmax om
def QlP(c:Int):Int:=if 97<=c/\c<=122 then c-32 else c
theorem QfX(u:UInt8):QlP (u.toNat:Int)=((QaX u).toNat:Int):=by
  have hu:=u.toNat_lt;unfold QlP QaX
  by_cases h:97<=u/\u<=122
  · have h2:=h;rw[UInt8.le_iff_toNat_le,UInt8.le_iff_toNat_le]at h2;have e97:(97:UInt8).toNat=97:=rfl;have e122:(122:UInt8).toNat=122:=rfl;rw[e97,e122]at h2;rw[if_pos h,if_pos om,UInt8.toNat_sub_of_le _ _ (by rw[UInt8.le_iff_toNat_le];show 32<=_;omega)];show(u.toNat:Int)-32=((u.toNat-32:Nat):Int);omega
  · have h2:=h;rw[UInt8.le_iff_toNat_le,UInt8.le_iff_toNat_le]at h2;have e97:(97:UInt8).toNat=97:=rfl;have e122:(122:UInt8).toNat=122:=rfl;rw[e97,e122]at h2;rw[if_neg h,if_neg om]
theorem c270(w:World)(a b:List UInt8):CR 270 #[.string (bs a),.string (bs b)] w (.int .i64 (QdE a b)):=by
 refine eN2 Tryz.func270 Tryz.ntmps270 ?_
 refine aU8 ?_
 refine o_q (QbV rfl rfl rfl QiX) rfl (aU2 ?_)
 exact rV
theorem c209(w:World)(a b:List UInt8):CR 209 #[.string (bs a),.string (bs b)] w (.int .i64 (QdE a b)):=by
 refine eN2 Tryz.func209 Tryz.ntmps209 ?_
 refine aU8 ?_
 refine oCq rfl (λw1 h1=>c270 w1 _ _) (aU2 ?_)
 exact rV
theorem bset{L:List UInt8}{k:Nat}{x:UInt8}{v:Value}(h:k<L.length)(hv:v=bv x):Qb (L.map bv) (k*1) [v]=(L.set k x).map bv:=by
  subst hv;have h9:=Qba (vals:=byV) (sz:=1) (λ_=>rfl) L k 0 [bv x] (L.getD k 0) x (by rw[List.getElem?_eq_getElem h,List.getD_eq_getElem?_getD,List.getElem?_eq_getElem h];rfl) rfl (by simp);rw[Nat.add_zero]at h9;have e:∀M:List UInt8,M.flatMap byV=M.map bv:=λM=>Qbb bv M;rw[e,e]at h9;exact h9
def QaF(s:List UInt8)(k:Nat):List UInt8:=(s.map QaX).take k++s.drop k
theorem Qaj{s:List UInt8}{k:Nat}(h:k<=s.length):(QaF s k).length=s.length:=by simp[QaF];omega
theorem Qfd{s:List UInt8}{k:Nat}(h:k<s.length):(QaF s k).getD k 0=s.getD k 0:=by
  unfold QaF;rw[List.getD_eq_getElem?_getD,List.getElem?_append_right (by simp;omega),List.getElem?_drop,List.getD_eq_getElem?_getD];congr 2;simp;omega
theorem QfT{s:List UInt8}{k:Nat}(h:k<s.length):(QaF s k).set k (QaX (s.getD k 0))=QaF s (k+1):=by
  unfold QaF;apply List.ext_getElem?;intro j;simp only[List.getElem?_set,List.getElem?_append,List.getElem?_take,List.getElem?_drop,List.length_append,List.length_take,List.length_map,List.length_drop,List.getElem?_map,List.getD_eq_getElem?_getD];have hk:=List.getElem?_eq_getElem h
  grind
theorem QnS(s:List UInt8):QaF s 0=s:=by simp[QaF]
theorem Qkx(s:List UInt8):QaF s s.length=s.map QaX:=by
  unfold QaF;rw[List.drop_length,List.append_nil,List.take_of_length_le (by simp)]
theorem QhX{s:List UInt8}{k:Nat}(h:k<s.length)(hc:QaX (s.getD k 0)=s.getD k 0):QaF s k=QaF s (k+1):=by
  rw[<-QfT h,hc];apply List.ext_getElem?;intro j;rw[List.getElem?_set];split
  · rename_i e;subst e;rw[<-Qfd h,List.getD_eq_getElem?_getD];rw[if_pos (by rw[Qaj om];exact h),List.getElem?_eq_getElem (by rw[Qaj om];exact h)];rfl
  · rfl
theorem Qjb{x:UInt8}(h:97<=x.toNat/\x.toNat<=122):Value.int .u8 (IntKind.u8.wrap (IntKind.u8.wrap ((x.toNat:Int)-97)+65))=bv (QaX x):=by
  have h2:=QfX x;unfold QlP at h2;rw[if_pos om]at h2;rw[show(x.toNat:Int)-97=((x.toNat-97:Nat):Int) by omega,Qck _ om,show((x.toNat-97:Nat):Int)+65=((x.toNat-32:Nat):Int) by omega,Qck _ om];unfold bv;exact congrArg (Value.int .u8) om
theorem Qm1{x:UInt8}(h:¬(97<=x.toNat/\x.toNat<=122)):QaX x=x:=by
  have h2:=QfX x;unfold QlP at h2;rw[if_neg om]at h2;exact UInt8.toNat_inj.1 om
theorem c212(w:World)(s:List UInt8)(hm:s.length<=1000000):CR 212 #[.string (bs s)] w (.string (bs (s.map QaX))):=by
 refine eN1 Tryz.func212 Tryz.ntmps212 ?_
 refine aU7 ?_
 refine o_h (Y6 rfl rfl Tryz.underlying9 Tryz.underlying226 Tryz.underlying5 rfl (by simp only[maxLen];omega)) rfl (λ⟨b1,c2⟩⟨h3,k4⟩=>Qcf ?_)
 refine QU (α:=Nat) [4,5,10,11,12,13,14,15,16,17,18,19,20,21,22,23,24,25,26,27] (λk=>[(10,.int .i64 (k:Int))]) (λk=>HS w [] [.blk b1 5 c2 ((QaF s k).map bv)]) (λk=>k<=s.length) (λk=>s.length-k) 0 (Nat.zero_le _) aSx (λw h=>by rw[QnS];exact h.ent aEt) (λk hk1=>?_)
 refine aU5 ?_
 refine sCd rfl (λh5=>?_) λh5=>?_
 ·have hk:k<s.length:=by omega
  have hb9:=(s.getD k 0).toNat_lt
  refine aU6 ?_
  refine o_p (Qh rfl rfl rfl Xr (k) om om rfl) rfl (o_q (XW rfl rfl QeJ (λw h=>by rw[Nat.zero_add];exact h.rd_blk (Mc:=[]) aPk (by rw[Nat.mul_one,QbS (by rw[Qaj hk1];exact hk),Qfd hk]) (by simp))) rfl (aU8 ?_))
  refine Qw 3 17 20 rfl
   (λhg6 _=>by
    refine aU4 ?_
    exact oJt 3 20)
   (λhg8 _=>by
    refine aU2 ?_
    exact oJf 3 20) ?_
  refine aU ?_
  refine QbO (α:=Unit) [21,22,23,24,25,26] (λ_=>[]) (λ_=>HS w [] [.blk b1 5 c2 ((QaF s (k+1)).map bv)]) (λ_=>True) ?_ ?_
  ·skip
   refine sCd rfl (λh10=>?_) λh10=>?_
   ·have hcc:97<=(s.getD k 0).toNat/\(s.getD k 0).toNat<=122:=by have hq:=h10;omega
    refine aU6 ?_
    try (refine Qi (u8add _ _) ?_)
    refine Qi (Qjb hcc) (o_p (Qh rfl rfl rfl Xr (k) om om rfl) rfl (Qi (show _=Value.pointer (some ⟨b1,k*1,none⟩)from by rw[Nat.zero_add]) (QgA (YD rfl rfl rfl QeJ rfl aPt (by rw[List.length_map,Qaj hk1];omega) rfl) (λ_ _=>aU ?_))))
    exact XQ () trivial aSx (λw h=>by have h2:=HS.blk_to (b:=b1) h aPk (bset (L:=QaF s k) (x:=QaX (s.getD k 0)) (by rw[Qaj hk1];exact hk) rfl);rw[QfT hk]at h2;exact h2.ent aEt)
   have hno:QaX (s.getD k 0)=s.getD k 0:=Qm1 (by have hq:=h10;omega)
   refine aU ?_
   exact XQ () trivial aSx (λw h=>by rw[<-QhX hk hno];exact h.ent aEt)
  intro _ _
  refine aT3 ?_
  refine aU2 ?_
  exact sBk (k+1)
 obtain rfl:k=s.length:=om
 rw[Qkx]
 refine QE rfl ?_
 refine aU3 ?_
 refine o_q (ZD rfl rfl Tryz.underlying226 Tryz.underlying9 Tryz.underlying5 aPk (by simp[List.length_map]) (Qas _)) rfl (aU2 ?_)
 exact rV (h:=by simp only[Zo];rfl)
theorem c211(w:World)(a b:List UInt8)(ha:a.length<=1000000)(hb:b.length<=1000000):CR 211 #[.string (bs a),.string (bs b)] w (.int .i64 (QdE (a.map QaX) (b.map QaX))):=by
 refine eN2 Tryz.func211 Tryz.ntmps211 ?_
 refine aU7 ?_
 refine oCq rfl (λw1 h1=>c212 w1 a ha) (aU ?_)
 refine oCq rfl (λw1 h1=>c212 w1 b hb) (oCq rfl (λw1 h1=>c209 w1 _ _) (aU2 ?_))
 exact rV
end Go.Proofs
namespace Gx
open Go Go.RowKit
structure DEnt where
 nm:List UInt8
 sp:Int
 ot:List UInt8
 re:Int
 sq:Int
 fl:Int
 tm:Int
 al:Int
 sz:Int
deriving DecidableEq,Inhabited
def noE:DEnt:=⟨[],0,[],0,0,0,0,0,0⟩
structure DLnk where
 re:Int
 sq:Int
 sp:Int
 nm:List UInt8
deriving DecidableEq,Inhabited
def noL:DLnk:=⟨0,0,0,[]⟩
def okE(b:Bool)(e:Int):Int:=if b then 0 else e
def Qca(re sq:Int):Int:=okE ((decide (0<=re)&&decide (re<=95))&&(decide (1<=sq)&&decide (sq<=65535))) 2
def Qgq(fl tm al sz:Int):Int:=okE ((decide (0<=fl)&&decide (fl<=7))&&(decide (0<=tm)&&decide (tm<=1000000))&&(decide (0<=al)&&decide (al<=2147483647))&&(decide (0<=sz)&&decide (sz<=2147483647))) 2
def Qcc(sp:Int):Int:=okE (decide (0<=sp)&&decide (sp<=2)) 2
def X3(a b:Int):Int:=if a=0 then b else a
def Qcw(ot:List UInt8):Int:=if ot=[]then 0 else Q2 ot
def Xc(e:DEnt):Int:=X3 (Q2 e.nm) (X3 (Qcc e.sp) (X3 (okE (decide (e.sp=2)==decide (e.ot=[])) 3) (X3 (Qcw e.ot) (X3 (Qca e.re e.sq) (Qgq e.fl e.tm e.al e.sz)))))
def encV(e:DEnt):List UInt8:=Xn 4 e.re++Xn 2 e.sq++Xn 1 e.sp++Xn 1 e.fl++Xn 4 e.tm++Xn 4 e.al++Xn 4 e.sz++e.ot
def Qa6(e:DEnt):TEnt:=⟨e.nm,encV e⟩
def Qv(x:TEnt):DEnt:=⟨x.key,Qy x.val 6 1,x.val.drop 20,Qy x.val 0 4,Qy x.val 4 2,Qy x.val 7 1,Qy x.val 8 4,Qy x.val 12 4,Qy x.val 16 4⟩
def dcE(x:TEnt):Int:=if x.val.length<20 then 3 else Xc (Qv x)
def dcD(x:TEnt):DEnt:=if dcE x=0 then Qv x else noE
def Xh(l:DLnk):Int:=X3 (Qca l.re l.sq) (X3 (Qcc l.sp) (Q2 l.nm))
def Qlf(l:DLnk):List UInt8:=Xn 4 l.re++Xn 2 l.sq++Xn 1 l.sp++Xn 1 (l.nm.length:Int)++l.nm
def Yb(s:List UInt8):DLnk:=⟨Qy s 0 4,Qy s 4 2,Qy s 6 1,s.drop 8⟩
def dlE(s:List UInt8):Int:=if s.length<8 then 3 else X3 (okE (decide (((s.drop 8).length:Int)=Qy s 7 1)) 3) (Xh (Yb s))
def dlD(s:List UInt8):DLnk:=if dlE s=0 then Yb s else noL
theorem Yx(s:List UInt8):∀(k a:Nat),a+k<=s.length->Xn k (Qy s a k)=(s.drop a).take k
 | 0,a,_=>by rw[List.take_zero];rfl
 | k+1,a,h=>by
  have ih:=Yx s k (a+1) om;have hl:=Qey s k (a+1);have h1:=QeO s a;have e1:Qy s a (k+1)=at1 s a+256*Qy s (a+1) k:=rfl
  have e2:(s.drop a).take (k+1)=s.getD a 0::(s.drop (a+1)).take k:=by
   rw[List.drop_eq_getElem_cons om,List.take_succ_cons,List.getD_eq_getElem?_getD,List.getElem?_eq_getElem om];rfl
  rw[e1,e2];show by8 _::Xn k _=_;rw[show(at1 s a+256*Qy s (a+1) k)/256=Qy s (a+1) k by omega,ih];congr 1;have h3:=QdP (at1 s a+256*Qy s (a+1) k);rw[show(at1 s a+256*Qy s (a+1) k)%256=at1 s a by omega]at h3;refine UInt8.toNat_inj.1 ?_;have h4:at1 s a=((s.getD a 0).toNat:Int):=rfl;omega
theorem YB{s:List UInt8}{a k m:Nat}:(s.drop a).take k++(s.drop (a+k)).take m=(s.drop a).take (k+m):=by
 rw[<-List.drop_drop,List.take_add]
theorem Qlm{x:TEnt}(h:20<=x.val.length):Qa6 (Qv x)=x:=by
 obtain⟨key,v⟩:=x;show(⟨key,encV (Qv ⟨key,v⟩)⟩:TEnt)=⟨key,v⟩;congr 1;have h':20<=v.length:=h;show Xn 4 (Qy v 0 4)++Xn 2 (Qy v 4 2)++Xn 1 (Qy v 6 1)++Xn 1 (Qy v 7 1)++Xn 4 (Qy v 8 4)++Xn 4 (Qy v 12 4)++Xn 4 (Qy v 16 4)++v.drop 20=v;rw[Yx v 4 0 om,Yx v 2 4 om,Yx v 1 6 om,Yx v 1 7 om,Yx v 4 8 om,Yx v 4 12 om,Yx v 4 16 om];rw[show(4:Nat)=0+4 from rfl,YB,show(6:Nat)=0+(4+2)from rfl,YB,show(7:Nat)=0+(4+2+1)from rfl,YB,show(8:Nat)=0+(4+2+1+1)from rfl,YB,show(12:Nat)=0+(4+2+1+1+4)from rfl,YB,show(16:Nat)=0+(4+2+1+1+4+4)from rfl,YB];exact List.take_append_drop 20 v
theorem QjD{s:List UInt8}(h:8<=s.length)(h2:((s.drop 8).length:Int)=Qy s 7 1):Qlf (Yb s)=s:=by
 show Xn 4 (Qy s 0 4)++Xn 2 (Qy s 4 2)++Xn 1 (Qy s 6 1)++Xn 1 ((s.drop 8).length:Int)++s.drop 8=s;rw[h2,Yx s 4 0 om,Yx s 2 4 om,Yx s 1 6 om,Yx s 1 7 om];rw[show(4:Nat)=0+4 from rfl,YB,show(6:Nat)=0+(4+2)from rfl,YB,show(7:Nat)=0+(4+2+1)from rfl,YB];exact List.take_append_drop 8 s
end Gx
namespace Gx
open Go Go.RowKit
def HA.obj(b:Nat)(o:Obj):HA:=⟨[b],λw=>w.heap[b]?=some o,λw w' h hk=>(h b (List.mem_singleton.2 rfl)).trans hk⟩
section
variable{w0 w:World}{M:List Nat}{As As':List HA}
theorem HS.allocObj(h:HS w0 M As w)(o:Obj):HS w0 M (.obj w.heap.size o::As) (w.alloc o):=h.alloc o _ rfl (World.alloc_heap_new w o)
theorem HS.obj_get{b:Nat}{o:Obj}(h:HS w0 M As w)(hp:QD As (.obj b o) As'):w.heap[b]?=some o:=h.ok _ hp.mem
theorem HS.putObj{b:Nat}{o:Obj}(h:HS w0 M As w)(hp:QD As (.obj b o) As')(o':Obj):HS w0 M (.obj b o'::As') (w.putObj b o'):=by
 have h1:=h.pick hp;have hb:w.heap[b]?=some o:=h1.head;have hlt:b<w.heap.size:=(Array.getElem?_eq_some_iff.1 hb).1;refine h1.swap (λ_ hx=>hx) rfl rfl rfl (by simp[World.putObj]) (λc hc=>World.putObj_heap_other (λe=>hc (by subst e;exact List.mem_singleton.2 rfl))) (World.putObj_heap_same hlt)
end
def Qeo(P:Program)(l:Nat)(args:Array Value)(w:World)(R:Ending->World->Prop):Prop:=
 ∃f tmps assign body,(Instr.yield l args).run P w=.ok (.round l f tmps assign body) w/\RoundIn Fence.wide 0 P l f tmps assign body w R
section
variable{P:Program}{o:Oper}{L:Qa}
theorem Ql8{C:World->Prop}{G:Type}{V:G->Value}{F:G->Prop}{C':G->World->Prop}{x:Operand}{args:Array Operand}{vs:List Value}{ts:Array TypeId}{l:Nat}(ho:o.op=.call {callee:=.value x,args:=args,argTypes:=ts})(hx:ev L x=some (.func (.yield l) #[] #[]))
  (ha:evs L args.toList=some vs)(hy:∀w,C w->Qeo P l vs.toArray w λe w'=>∃g,e=.returned (V g)/\F g/\C' g w'):OpH P o L C V F C':=by
 intro ρ w hρ hw;obtain⟨f,tmps,assign,body,hr,hR⟩:=hy w hw;have e1:args.map ρ=vs.toArray:=by rw[<-Qa7 hρ ha,<-List.map_toArray]
 unfold execOp;simp only[ho,resolve,Sem.run_bind,hρ _ _ hx,Deferred.ofValue,e1,Sem.run_pure,Result.andThen_ok,invoke,Array.empty_append,hr];exact RoundIn.mono hR λe w'⟨g,he,hf,hc⟩=>⟨V g,he,g,rfl,hf,hc⟩
end
def rdy(fid:FuncId)(tmps:Array Value)(ps:Array Tmp)(assign body:Code)(D:Nat):Loop:={state:=.ready,pending:=none,fn:=fid,tmps:=tmps,params:=ps,assign:=assign,body:=body,defers:=D}
section
variable{X:Ctx}{k:List KI}{L:Qa}{w0:World}{M:List Nat}{As As':List HA}
theorem Qf8{C:World->Prop}{l:Nat}(hrd:X.rd=some l)(h:∀w,C w->∃r,w.heap[l]?=some (.loop r)/\X.R (.returned (.bool true)) (w.putObj l (.loop {r with state:=.ready,pending:=none}))):S X [] L C:=by
 intro a w ha hw;show(match X.rd with|none=>bodyPostM X.F 0 X.P X.fn X.R .normal a w|some l=>roundPost X.P l X.R .normal a w);rw[hrd];obtain⟨r,h1,h2⟩:=h w hw;exact⟨_,_,run_endRound none h1,h2⟩
theorem Qks{l D:Nat}{fid:FuncId}{tmps:Array Value}{ps:Array Tmp}{assign body:Code}(hrd:X.rd=some l)(hp:QD As (.obj l (.loop {rdy fid tmps ps assign body D with state:=.busy})) As')(h:∀w,HS w0 M (.obj l (.loop (rdy fid tmps ps assign body D))::As') w->X.R (.returned (.bool true)) w):S X [] L (HS w0 M As):=
 Qf8 hrd λw hw=>⟨_,hw.obj_get hp,h _ (hw.putObj hp _)⟩
theorem Qbq(d:List Nat):∀k,post {X with df:=d} k=post X k
 | []=>by funext e a w;rfl
 | Sum.inl c::k=>by funext e a w;cases e<;>simp only[post,Qbq d k]
 | Sum.inr (Sum.inl id)::k=>by funext e a w;cases e<;>simp only[post,Qbq d k]
 | Sum.inr (Sum.inr J)::k=>by funext e a w;cases e<;>simp only[post,Qbq d k]
end
end Gx
namespace Gx
open Go Go.RowKit
theorem QmR{X:Ctx}{k:List KI}{L:Qa}{C:World->Prop}{α:Type}{c:Code}(md:List Nat)(Lm:α->Qa)(I:α->Prop)(h1:S X (.c c::.join (AtI X.n X.df (λx=>Lm x++QaO md L) (λ_=>C) I)::k) L C)(h2:∀x,I x->S X k (Lm x++QaO md L) C):S X (.c c::k) L C:=
 QbO md Lm (λ_=>C) I h1 h2
end Gx
namespace Gx
open Go Go.RowKit
section
variable{w0 w:World}{M:List Nat}{As As':List HA}{p:Prop}
theorem Qnw{X:Ctx}{L:Qa}{D:Nat}(hr:X.fn.results= #[])(hp:QD As (.obj D (.deferred (some []))) As')(h:∀w,HS w0 M As' w->X.R (.returned (.tuple #[])) w)(hrd:X.rd=none:=by rfl)(hdf:X.df=[D]:=by rfl):S X [] L (HS w0 M As):=by
 intro a w ha hw;show(match X.rd with|none=>bodyPostM X.F 0 X.P X.fn X.R .normal a w|some l=>roundPost X.P l X.R .normal a w);rw[hrd];show LeavesInM X.F 0 X.P X.fn a.tmps X.R a.defers .returning w;rw[ha.defers,hdf];have h1:=(hw.putObj hp (.deferred none)).tail;exact⟨by simp,.inl ⟨D,_,rfl,run_takeDeferred (hw.obj_get hp),.tuple #[],results_none hr _ _ _,h _ h1⟩⟩
end
end Gx
namespace Go.Proofs
open Go Go.RowKit Gx
attribute [local irreducible] Go.Calls Gx.S Gx.O Gx.D Gx.OpP Gx.OpQ Gx.OpH
set_option maxRecDepth 20000
instance:TFd Tryz.prog 26 0 0 3:=⟨by kernel_rfl⟩
instance:TSz Tryz.prog 3 1 false:=⟨by kernel_rfl⟩
instance:TFn Tryz.prog 78:=⟨by kernel_rfl⟩
instance:TFd Tryz.prog 26 1 1 3:=⟨by kernel_rfl⟩
theorem Qfr:Q7 Tryz.prog 77=true:=by kernel_rfl
instance:TFn Tryz.prog 77:=⟨Qfr⟩
instance:TFd Tryz.prog 28 0 0 3:=⟨by kernel_rfl⟩
instance:TFd Tryz.prog 28 1 1 3:=⟨by kernel_rfl⟩
instance:TFd Tryz.prog 28 2 2 3:=⟨by kernel_rfl⟩
instance:TFd Tryz.prog 28 3 3 3:=⟨by kernel_rfl⟩
instance:TFd Tryz.prog 30 0 0 26:=⟨by kernel_rfl⟩
theorem QkG:tsz Tryz.prog 26=some (2,true):=by kernel_rfl
instance:TSz Tryz.prog 26 2 true:=⟨QkG⟩
theorem Qml:Q7 Tryz.prog 89=true:=by kernel_rfl
instance:TFd Tryz.prog 30 1 2 28:=⟨by kernel_rfl⟩
instance:TSz Tryz.prog 28 4 true:=⟨by kernel_rfl⟩
theorem QnN:Q7 Tryz.prog 108=true:=by kernel_rfl
theorem QkE:Q7 Tryz.prog 62=true:=by kernel_rfl
instance:TFd Tryz.prog 66 2 2 9:=⟨by kernel_rfl⟩
instance:TFd Tryz.prog 66 0 0 9:=⟨by kernel_rfl⟩
instance:TFd Tryz.prog 66 1 1 3:=⟨by kernel_rfl⟩
theorem Qjl:Q7 Tryz.prog 160=true:=by kernel_rfl
instance:TFd Tryz.prog 66 3 3 26:=⟨by kernel_rfl⟩
instance:TFd Tryz.prog 66 4 5 28:=⟨by kernel_rfl⟩
instance:TSz Tryz.prog 166 1 false:=⟨by kernel_rfl⟩
theorem Qhf:Qs Tryz.prog 26=some [.int .i64 0,.int .i64 0]:=by kernel_rfl
theorem ZO:Q7 Tryz.prog 100=true:=by kernel_rfl
theorem Qmy:Yj Tryz.prog 26=some [(0,1),(1,1)]:=by kernel_rfl
theorem c78(w:World)(n lo hi:Int):CR 78 #[.int .i64 n,.int .i64 lo,.int .i64 hi] w (.bool (decide (lo<=n)&&decide (n<=hi))):=by
 refine eN3 Tryz.func78 Tryz.ntmps78 ?_
 refine Qcf ?_
 refine Qw 4 10 14 rfl
  (λhg1 _=>by
   refine aU6 ?_
   exact oJt 4 14)
  (λhg3 _=>by
   refine aU3 ?_
   exact oJf 4 14) ?_
 refine aU2 ?_
 exact rV
theorem c77(w:World)(ok:Bool)(e:Int):CR 77 #[.bool ok,.int .i64 e] w (.int .i64 (cond ok 0 e)):=by
 refine eN2 Tryz.func77 Tryz.ntmps77 ?_
 refine aU9 ?_
 refine sCd rfl (λh1=>?_) λh1=>?_
 ·refine aU4 ?_
  exact rV (h:=by simp_all[QB])
 refine aU6 ?_
 exact rV (h:=by simp_all[QB])
theorem c62(w:World)(a:Option Addr)(cap:Nat)(es:List Int)(hs:Sl w [] a 1 es.length (λi=>[.int .i64 (es.getD i 0)]))(hm:es.length<=1000):CR 62 #[.slice a es.length cap] w (.int .i64 (XA es)):=by
 refine eN1 Tryz.func62 Tryz.ntmps62 ?_
 refine Z2 ?_
 refine QU (α:=Nat) [2,4,7,8,9,10,11,12,13,14] (λk=>[(7,.int .i64 (k:Int))]) (λ_=>_) (λk=>k<=es.length/\XA es=XA (es.drop k)) (λk=>es.length-k) 0 ⟨om,rfl⟩ aSx (λw h=>h) (λk hk=>?_)
 obtain⟨hk1,hk2⟩:=hk
 refine aU5 ?_
 refine sCd rfl (λh1=>?_) λh1=>?_
 ·refine aU5 ?_
  refine o_p (Qh rfl rfl rfl YY _ rfl om (hs.some om)) rfl (o_q (XH rfl rfl Qmu (hs.rd (i:=k) (j:=0) om rfl)) rfl (aU7 ?_))
  refine sCd rfl (λh2=>?_) λh2=>?_
  ·refine aU5 ?_
   exact rV (h:=by simp only[QB];rw[hk2,Y5 om,if_neg (by assumption)])
  refine aT4 ?_
  refine aU2 ?_
  exact QN (k+1) om ⟨om,by rw[hk2,Y5 om,if_pos (by assumption)]⟩ aSx (λw h=>h)
 refine QE rfl ?_
 refine aU4 ?_
 exact rV (h:=by simp only[QB];rw[hk2,QcR om])
theorem f62{w0 w:World}{M:List Nat}{As As':List HA}{b cap n:Nat}{t:TypeId}{tot:Nat}{cs:List Value}(h:HS w0 M As w)(hp:QD As (.blk b t tot cs) As')(hc:cs.all Qfk=true)(hn:cs.length=n)(hl:n<=1000) :
    Calls Tryz.prog 62 #[.slice (some ⟨b,0,none⟩) n cap] w λen w'=>en=.returned (.int .i64 (Xy cs))/\Below w.heap.size w w':=by
  subst hn;have:=c62 w (some ⟨b,0,none⟩) cap (cs.map Go.RowKit.intOf) (by simpa using h.sl_ints hp hc) (by simpa using hl);rw[QbP hc]at this
  simpa using this
theorem Ql0(X v:Int)(hX:0<=X/\X<281474976710656)(hv:0<=v/\v<256):Value.int .i64 (Gx.bits .or .i64 (IntKind.i64.wrap (X*2^8)) v)=.int .i64 (v+256*X):=by
  obtain⟨x,rfl⟩:=Int.eq_ofNat_of_zero_le hX.1;obtain⟨y,rfl⟩:=Int.eq_ofNat_of_zero_le hv.1
  have hw:IntKind.i64.wrap ((x:Int)*2^8)=((256*x:Nat):Int):=by
    have h9:=Qje (e:=(x:Int)*2^8) om om;injection h9 with h8 h7
    rw[h7];omega
  have e:(256*x ||| y:Nat)=y+256*x:=by rw[Nat.or_comm];exact Qk4 y x om
  rw[hw,Qie _ _ om om,e];exact congrArg (Value.int .i64) om
theorem XJ(s:List UInt8)(a:Nat):∀(k b:Nat),Qy (s.drop a) b k=Qy s (a+b) k
  | 0,b=>rfl
  | k+1,b=>by
    show at1 (s.drop a) b+256*Qy (s.drop a) (b+1) k=at1 s (a+b)+256*Qy s (a+b+1) k;rw[XJ s a k (b+1),QiK];rfl
theorem QlD(a b c d e f:Int):Xy [.int .i64 a,.int .i64 b,.int .i64 c,.int .i64 d,.int .i64 e,.int .i64 f]=X3 a (X3 b (X3 c (X3 d (X3 e f)))):=by
  simp only[Xy,X3]
  grind
theorem QlJ(a b:Int):Xy [.int .i64 a,.int .i64 b]=X3 a b:=by
  simp only[Xy,X3]
  grind
theorem QlZ(a b c:Int):Xy [.int .i64 a,.int .i64 b,.int .i64 c]=X3 a (X3 b c):=by
  simp only[Xy,X3]
  grind
theorem c89(w:World)(re sq:Int):CR 89 #[.agg #[.int .i64 re,.int .i64 sq]] w (.int .i64 (Qca re sq)):=by
 refine eN1 Tryz.func89 Tryz.ntmps89 ?_
 refine aU2 ?_
 refine oBx λb1 _=>?_
 refine aU6 ?_
 refine oCq rfl (λw1 h1=>c78 w1 _ _ _) (aU ?_)
 refine Qw 4 6 10 rfl
  (λhg2 _=>by
   refine aU5 ?_
   refine oCq rfl (λw1 h1=>c78 w1 _ _ _) ?_
   exact oJt 4 10)
  (λhg4 _=>by
   refine aU3 ?_
   exact oJf 4 10) ?_
 refine oCq rfl (λw1 h1=>c77 w1 _ _) (aU2 ?_)
 exact rV (h:=by simp only[QB,Qca,okE,cond_eq_ite])
theorem c108(w:World)(fl tm al sz:Int):CR 108 #[.agg #[.int .i64 fl,.int .i64 tm,.int .i64 al,.int .i64 sz]] w (.int .i64 (Qgq fl tm al sz)):=by
 refine eN1 Tryz.func108 Tryz.ntmps108 ?_
 refine aU2 ?_
 refine oBx λb1 _=>?_
 refine aU6 ?_
 refine oCq rfl (λw1 h1=>c78 w1 _ _ _) (aU ?_)
 refine Qw 4 7 11 rfl
  (λhg2 _=>by
   refine aU5 ?_
   refine oCq rfl (λw1 h1=>c78 w1 _ _ _) ?_
   exact oJt 4 11)
  (λhg4 _=>by
   refine aU3 ?_
   exact oJf 4 11) ?_
 refine aU ?_
 refine Qw 4 12 16 rfl
  (λhg6 _=>by
   refine aU5 ?_
   refine oCq rfl (λw1 h1=>c78 w1 _ _ _) ?_
   exact oJt 4 16)
  (λhg8 _=>by
   refine aU3 ?_
   exact oJf 4 16) ?_
 refine aU ?_
 refine Qw 4 17 21 rfl
  (λhg10 _=>by
   refine aU5 ?_
   refine oCq rfl (λw1 h1=>c78 w1 _ _ _) ?_
   exact oJt 4 21)
  (λhg12 _=>by
   refine aU3 ?_
   exact oJf 4 21) ?_
 refine aU5 ?_
 refine oCq rfl (λw1 h1=>c77 w1 _ _) (aU2 ?_)
 exact rV (h:=by simp only[QB,Qgq,okE,cond_eq_ite])
theorem c160(w:World)(n:Int):CR 160 #[.int .i64 n] w (.bool (decide (0<=n)&&decide (n<=2))):=by
 refine eN1 Tryz.func160 Tryz.ntmps160 ?_
 refine aU7 ?_
 refine oCq rfl (λw1 h1=>c78 w1 _ _ _) (aU2 ?_)
 exact rV
theorem c97(w:World)(e:DEnt)(hnm:e.nm.length<=1000000)(hot:e.ot.length<=1000000):CR 97 #[.agg #[.string (bs e.nm),.int .i64 e.sp,.string (bs e.ot),.int .i64 e.re,.int .i64 e.sq,.int .i64 e.fl,.int .i64 e.tm,.int .i64 e.al,.int .i64 e.sz]] w (.int .i64 (Xc e)):=by
 refine eN1 Tryz.func97 Tryz.ntmps97 ?_
 refine aU2 ?_
 refine oBx λb1 _=>?_
 refine QcQ ?_
 refine QmR (α:=Unit) [3,7,8,9] (λ_=>[(3,.int .i64 (Qcw e.ot))]) (λ_=>True) ?_ ?_
 ·skip
  refine sCd rfl (λh2=>?_) λh2=>?_
  ·have ho:Qcw e.ot=Q2 e.ot:=if_neg (by have hq:=h2;simpa using hq)
   refine aU3 ?_
   refine oCq rfl (λw1 hh=>c75 w1 e.ot hot) (aU2 ?_)
   exact XQ () trivial (by rw[ho];exact aSx) (λw h=>h.ent aEt)
  have ho:Qcw e.ot=0:=if_pos (by have hq:=h2;simpa using hq)
  refine aU ?_
  exact XQ () trivial (by rw[ho];exact aSx) (λw h=>h.ent aEt)
 intro _ _
 refine aU ?_
 refine Xl [] mixed ?_
 refine dFa 0 ?_
 refine dLd 1 [] ?_
 refine dQ 2 [] rfl (Ql rfl QiP rfl (λw1 hh=>c75 w1 e.nm hnm)) (dFa 3 ?_)
 refine dLd 4 [] ?_
 refine dQ 5 [] rfl (Ql rfl Qjl rfl (λw1 h1=>c160 w1 _)) (dQ 6 [] rfl (Ql rfl Qfr rfl (λw1 h1=>c77 w1 _ _)) (dFa 7 ?_))
 refine dLd 8 [] ?_
 refine dP 9 ?_
 refine dFa 10 ?_
 refine dLd 11 [] ?_
 refine dP 12 ?_
 refine dV 13 rfl (QcP rfl rfl rfl Tryz.underlying4) (dQ 14 [] rfl (Ql rfl Qfr rfl (λw1 h1=>c77 w1 _ _)) (dP 15 ?_))
 refine dFa 16 ?_
 refine dLn 17 [] ?_
 refine dQ 18 [] rfl (Ql rfl Qml rfl (λw1 h1=>c89 w1 _ _)) (dFa 19 ?_)
 refine dLn 20 [] ?_
 refine dQ 21 [] rfl (Ql rfl QnN rfl (λw1 h1=>c108 w1 _ _ _ _)) (dH 22 rfl (Qp (cs:=[_,_,_,_,_,_]) rfl rfl YY Qbv rfl rfl rfl) (λb3 _=>dBa ?_))
 refine dQ 23 [] rfl (Ql rfl QkE rfl (λw1 h1=>f62 h1 aPk (by rfl) (by rfl) (by decide))) (dP 24 ?_)
 refine dNi ?_
 exact rV (h:=by rw[QlD];simp only[QB,Xc,Qcc,okE,cond_eq_ite])
theorem Qen(w:World)(n:Int)(c:Nat)(hn:0<=n/\n<=9223372036854775807)(hc:c<=1000):CR 103 #[.int .i64 n,.int .i64 (c:Int)] w (.string (bs (Xn c n))):=by
 refine eN2 Tryz.func103 Tryz.ntmps103 ?_
 refine QnJ ?_
 refine QU (α:=Nat×Int×List UInt8×Option Addr×Nat) [0,5,7,8,9,10,11,12,13,14,15,16] (λx=>[(7,.int .i64 (x.1:Int)),(0,.int .i64 x.2.1),(5,.slice x.2.2.2.1 x.2.2.1.length x.2.2.2.2)]) (λx=>HS w [] [.own (.slice x.2.2.2.1 x.2.2.1.length x.2.2.2.2) 5 1 (x.2.2.1.length) ((x.2.2.1).map bv)]) (λx=>x.1<=c/\x.2.2.1.length=x.1/\(0<=x.2.1/\x.2.1<=9223372036854775807)/\Xn c n=x.2.2.1++Xn (c-x.1) x.2.1) (λx=>c-x.1) (0,n,[],none,0) ⟨Nat.zero_le _,rfl,hn,rfl⟩ aSx (λw h=>(h.own_nil 5 1).ent aEt) (λ⟨k,m,p,ga,gc⟩hx=>?_)
 dsimp only
 obtain⟨hk1,hpl,hm,hst⟩:=hx
 simp only[]at hk1 hpl hm hst
 refine aU5 ?_
 refine sCd rfl (λh1=>?_) λh1=>?_
 ·have hk:k<c:=by omega
  refine aU7 ?_
  refine o_p (QZ rfl rfl Qcg Qdu) rfl (Qi (show _=bv (by8 m)from Qhu m) (o_h (Qp (cs:=[_]) rfl rfl Xr Qel rfl rfl rfl) rfl (λb2 _=>o_h (YH _ rfl rfl rfl Xr Tryz.underlying226 Qel rfl aPk (Yi aPk) rfl (by intro u hu;simp only[List.mem_cons,List.mem_nil_iff,or_false]at hu;subst hu;rfl) om (by simp only[maxLen];omega)) rfl (λb3 _=>aU4 ?_))))
  refine o_p (Qmj rfl rfl rfl (by decide) 8 rfl) rfl (Qi (show _=Value.int .i64 (m/256)from rfl) (aT5 ?_))
  refine aU2 ?_
  exact QN (k+1,m/256,p++[by8 m],b3.1,b3.2) (by(try simp only[]);omega) ⟨by(try simp only[]);omega,by simp[hpl],by(try simp only[]);omega,by simp only[];rw[hst,show c-k=(c-(k+1))+1 by omega,Xn,List.append_assoc];rfl⟩ (by dsimp only;rw[List.length_append];exact aSx) (λw h=>by dsimp only;rw[List.length_append,List.map_append];exact h.ent aEt)
 obtain rfl:k=c:=om
 rw[Nat.sub_self,Xn,List.append_nil]at hst
 refine QE rfl ?_
 refine aU3 ?_
 refine o_q (ZE rfl rfl Tryz.underlying226 Tryz.underlying9 Tryz.underlying5 aPk (Qas _)) rfl (aU2 ?_)
 exact rV (h:=by rw[Zo,hst];rfl)
theorem QeK(w:World)(b:Nat)(s:List UInt8)(c:Nat)(hw:HS w (fps [.blk b 166 1 [.string (bs s)]]) [.blk b 166 1 [.string (bs s)]] w)(hc:c<=7)(hcl:c<=s.length)(hm:s.length<=1000000):CE 100 #[.pointer (some ⟨b,0,none⟩),.int .i64 (c:Int)] w (fps [.blk b 166 1 [.string (bs s)]]) (λg:Unit=>.int .i64 (Qy s 0 c)) (λg=>True) λg=>[.blk b 166 1 [.string (bs (s.drop c))]]:=by
 refine eW2 Tryz.func100 Tryz.ntmps100 hw ?_
 refine aT13 ?_
 refine aU3 ?_
 refine QU (α:=Nat) [5,6,9,10,11,12,13,14,15,16,17,18,19,20,21] (λj=>[(6,.int .i64 ((j:Int)-1)),(5,.int .i64 (Qy s j (c-j)))]) (λ_=>_) (λj=>j<=c) (λj=>j) c (Nat.le_refl _) (by rw[Nat.sub_self];exact aSx) (λw h=>h) (λj hj=>?_)
 refine aU6 ?_
 refine sCd rfl (λh1=>?_) λh1=>?_
 ·obtain⟨i,rfl⟩:∃i,j=i+1:=⟨j-1,om⟩
  have hst:Qy s i (c-i)=at1 s i+256*Qy s (i+1) (c-(i+1)):=by rw[show c-i=(c-(i+1))+1 by omega];rfl
  have hb1:=QeO s i
  have hn6:=Qkh s (i+1) (k:=c-(i+1)) om
  have hb9:=(s.getD i 0).toNat_lt
  refine aU5 ?_
  refine o_p (Qmf rfl rfl rfl (by decide) 8 rfl) rfl (aU4 ?_)
  refine o_p (Qo rfl rfl rfl Tryz.underlying166 (i) om om) rfl ?_
  refine o_p (QZ rfl rfl Qdu Qcg) rfl ?_
  try refine oWr ?_
  refine aU ?_
  refine Qi (show _=Value.int .i64 (Qy s i (c-i))from by rw[hst];exact Ql0 _ _ hn6 hb1) (aT6 ?_)
  refine aU2 ?_
  exact QN i om om (by rw[show((i:Int)-1)=((i+1:Nat):Int)-1-1 from om];exact aSx) (λw h=>h)
 obtain rfl:j=0:=om
 rw[Nat.sub_zero]
 refine QE rfl ?_
 refine aU7 ?_
 refine o_p (Xj c rfl rfl rfl Tryz.underlying166 rfl om) rfl (aU8 ?_)
 exact rT rfl rfl (λw' h'=>⟨(),rfl,trivial,h'.ent aEt⟩)
theorem c99(w:World)(b:Nat)(s:List UInt8)(hw:HS w (fps [.blk b 166 1 [.string (bs s)]]) [.blk b 166 1 [.string (bs s)]] w)(hcl:6<=s.length)(hm:s.length<=1000000):CE 99 #[.pointer (some ⟨b,0,none⟩)] w (fps [.blk b 166 1 [.string (bs s)]]) (λg:Unit=>.agg #[.int .i64 (Qy s 0 4),.int .i64 (Qy s 4 2)]) (λg=>True) λg=>[.blk b 166 1 [.string (bs (s.drop 6))]]:=by
 refine eW1 Tryz.func99 Tryz.ntmps99 hw ?_
 refine aU2 ?_
 refine oAl (λb1 _=>?_) Qhf
 refine aU4 ?_
 refine o_h (X6 (Cs:=[.blk b 166 1 [.string (bs s)]]) rfl ZO rfl aPs (λw1 h1 hf=>QeK w1 b s 4 hf om (by(try simp only[List.length_drop]);omega) (by(try simp only[List.length_drop]);omega))) rfl (λ_ _=>aU5 ?_)
 refine o_h (X6 (Cs:=[.blk b 166 1 [.string (bs (s.drop 4))]]) rfl ZO rfl aPs (λw1 h1 hf=>QeK w1 b (s.drop 4) 2 hf om (by(try simp only[List.length_drop]);omega) (by(try simp only[List.length_drop]);omega))) rfl (λ_ _=>aU6 ?_)
 refine o_p (QO (cs:=[_,_]) rfl rfl Qmy Qhf rfl) rfl (aU2 ?_)
 exact Qn (rs:=[.cell 2 26]) rfl (.cell rfl QkG aPk rfl (.nil)) (λw' h'=>⟨(),by rw[XJ];rfl,trivial,by have h2:=h'.pick (A:=.blk b 166 1 [.string (bs ((s.drop 4).drop 2))]) aPk;rw[List.drop_drop]at h2;exact h2.ent aEt⟩)
theorem ZL:Q7 Tryz.prog 103=true:=by kernel_rfl
theorem Qkg:Qs Tryz.prog 28=some [.int .i64 0,.int .i64 0,.int .i64 0,.int .i64 0]:=by kernel_rfl
theorem Qi3:Q7 Tryz.prog 102=true:=by kernel_rfl
theorem QgZ:Yj Tryz.prog 84=some [(0,1),(1,1)]:=by kernel_rfl
theorem Qbw:tsz Tryz.prog 84=some (2,true):=by kernel_rfl
instance:TSz Tryz.prog 84 2 true:=⟨Qbw⟩
theorem ZT:Qs Tryz.prog 66=some [.string (bs []),.int .i64 0,.string (bs []),.int .i64 0,.int .i64 0,.int .i64 0,.int .i64 0,.int .i64 0,.int .i64 0]:=by kernel_rfl
instance:TFd Tryz.prog 84 1 1 9:=⟨by kernel_rfl⟩
theorem QdQ:Yj Tryz.prog 66=some [(0,1),(1,1),(2,1),(3,2),(5,4)]:=by kernel_rfl
theorem QaS:tsz Tryz.prog 66=some (9,true):=by kernel_rfl
instance:TSz Tryz.prog 66 9 true:=⟨QaS⟩
theorem QjH:Qs Tryz.prog 166=some [.string (bs [])]:=by kernel_rfl
instance:TFd Tryz.prog 84 0 0 9:=⟨by kernel_rfl⟩
theorem Qmt:Q7 Tryz.prog 99=true:=by kernel_rfl
instance:TFn Tryz.prog 97:=⟨by kernel_rfl⟩
instance:TFn Tryz.prog 98:=⟨by kernel_rfl⟩
theorem QdO{b:Bool}{e:Int}(he:e≠0)(h:okE b e=0):b=true:=by
  unfold okE at h;cases b with
  | true=>rfl
  | false=>exact absurd h he
theorem Qac{a b:Int}(h:X3 a b=0):a=0/\b=0:=by
  unfold X3 at h;split at h
  · exact⟨by assumption,h⟩
  · exact absurd h (by assumption)
theorem Qeg{e:DEnt}(h:Xc e=0):Q2 e.nm=0/\Qcw e.ot=0/\(0<=e.sp/\e.sp<=2)/\((0<=e.re/\e.re<=95)/\1<=e.sq/\e.sq<=65535)/\(0<=e.fl/\e.fl<=7)/\(0<=e.tm/\e.tm<=1000000)/\(0<=e.al/\e.al<=2147483647)/\0<=e.sz/\e.sz<=2147483647:=by
  obtain⟨a1,h⟩:=Qac h;obtain⟨a2,h⟩:=Qac h;obtain⟨a3,h⟩:=Qac h;obtain⟨a4,h⟩:=Qac h;obtain⟨a5,a6⟩:=Qac h;have b2:=QdO (by decide) a2;have b5:=QdO (by decide) a5;have b6:=QdO (by decide) a6;simp only[Bool.and_eq_true,decide_eq_true_eq]at b2 b5 b6;exact⟨a1,a4,b2,b5,b6.1.1.1,b6.1.1.2,b6.1.2,b6.2⟩
theorem c102(w:World)(re sq:Int)(hre:0<=re/\re<=9223372036854775807)(hsq:0<=sq/\sq<=9223372036854775807):CR 102 #[.agg #[.int .i64 re,.int .i64 sq]] w (.string (bs (Xn 4 re++Xn 2 sq))):=by
 refine eN1 Tryz.func102 Tryz.ntmps102 ?_
 refine aU2 ?_
 refine oBx λb1 _=>?_
 refine aU3 ?_
 refine Xl [] mixed ?_
 refine dFa 0 ?_
 refine dLd 1 [] ?_
 refine dQ 2 [] rfl (Ql rfl ZL rfl (λw1 h1=>Qen w1 re 4 hre (by decide))) (dFa 3 ?_)
 refine dLd 4 [] ?_
 refine dQ 5 [] rfl (Ql rfl ZL rfl (λw1 h1=>Qen w1 sq 2 hsq (by decide))) (dV 6 rfl (Qm rfl rfl rfl (by(try simp only[List.length_append,List.length_cons,List.length_nil,List.length_replicate,List.length_take,List.length_drop,QH]);omega)) (dP 7 ?_))
 refine dNi ?_
 exact rV
theorem c98(w:World)(e:DEnt)(hnm:e.nm.length<=1000000)(hot:e.ot.length<=1000000)(hre:0<=e.re/\e.re<=9223372036854775807)(hsq:0<=e.sq/\e.sq<=9223372036854775807)(hsp:0<=e.sp/\e.sp<=9223372036854775807)(hfl:0<=e.fl/\e.fl<=9223372036854775807)(htm:0<=e.tm/\e.tm<=9223372036854775807)(hal:0<=e.al/\e.al<=9223372036854775807)(hsz:0<=e.sz/\e.sz<=9223372036854775807):CR 98 #[.agg #[.string (bs e.nm),.int .i64 e.sp,.string (bs e.ot),.int .i64 e.re,.int .i64 e.sq,.int .i64 e.fl,.int .i64 e.tm,.int .i64 e.al,.int .i64 e.sz]] w (.agg #[.string (bs (Qa6 e).key),.string (bs (Qa6 e).val)]):=by
 refine eN1 Tryz.func98 Tryz.ntmps98 ?_
 refine aU2 ?_
 refine oBx λb1 _=>?_
 refine oAl (λb2 _=>?_) Qan
 refine aU5 ?_
 refine oAl (λb3 _=>?_) Qkg
 refine aU3 ?_
 refine Xl [29] mixed ?_
 refine dFa 0 ?_
 refine dLd 1 [[]] ?_
 refine dFa 2 ?_
 refine dLn 3 [[]] ?_
 refine dQ 4 [[]] rfl (Ql rfl Qi3 rfl (λw1 h1=>c102 w1 e.re e.sq hre hsq)) (dFa 5 ?_)
 refine dLd 6 [[]] ?_
 refine dQ 7 [[]] rfl (Ql rfl ZL rfl (λw1 h1=>Qen w1 e.sp 1 hsp (by decide))) (dV 8 rfl (Qm rfl rfl rfl (by(try simp only[List.length_append,List.length_cons,List.length_nil,List.length_replicate,List.length_take,List.length_drop,QH]);omega)) (dFa 9 ?_))
 refine dLd 10 [[]] ?_
 refine dQ 11 [[]] rfl (Ql rfl ZL rfl (λw1 h1=>Qen w1 e.fl 1 hfl (by decide))) (dV 12 rfl (Qm rfl rfl rfl (by(try simp only[List.length_append,List.length_cons,List.length_nil,List.length_replicate,List.length_take,List.length_drop,QH]);omega)) (dFa 13 ?_))
 refine dLd 14 [[]] ?_
 refine dQ 15 [[]] rfl (Ql rfl ZL rfl (λw1 h1=>Qen w1 e.tm 4 htm (by decide))) (dV 16 rfl (Qm rfl rfl rfl (by(try simp only[List.length_append,List.length_cons,List.length_nil,List.length_replicate,List.length_take,List.length_drop,QH]);omega)) (dFa 17 ?_))
 refine dLd 18 [[]] ?_
 refine dQ 19 [[]] rfl (Ql rfl ZL rfl (λw1 h1=>Qen w1 e.al 4 hal (by decide))) (dV 20 rfl (Qm rfl rfl rfl (by(try simp only[List.length_append,List.length_cons,List.length_nil,List.length_replicate,List.length_take,List.length_drop,QH]);omega)) (dFa 21 ?_))
 refine dLd 22 [[]] ?_
 refine dQ 23 [[]] rfl (Ql rfl ZL rfl (λw1 h1=>Qen w1 e.sz 4 hsz (by decide))) (dV 24 rfl (Qm rfl rfl rfl (by(try simp only[List.length_append,List.length_cons,List.length_nil,List.length_replicate,List.length_take,List.length_drop,QH]);omega)) (dFa 25 ?_))
 refine dLd 26 [[]] ?_
 refine dV 27 rfl (Qm rfl rfl rfl (by(try simp only[List.length_append,List.length_cons,List.length_nil,List.length_replicate,List.length_take,List.length_drop,QH]);omega)) (dV 28 rfl (QO (cs:=[_,_]) rfl rfl QgZ Qan rfl) (dSt 29 ?_ (hl:=(by simp only[Qd,List.length_set,List.length_cons,List.length_nil,List.length_map];omega))))
 refine dTu [] ?_
 refine dNi ?_
 exact Qn (rs:=[.cell 2 84]) rfl (.cell rfl Qbw aPk rfl (.nil)) (λw' h'=>⟨by rfl,h'.below⟩)
theorem c40(w:World)(x:TEnt)(hk:x.key.length<=1000000)(hv:x.val.length<=1000000):CR 40 #[.agg #[.string (bs x.key),.string (bs x.val)]] w (.tuple #[.agg #[.string (bs (dcD x).nm),.int .i64 (dcD x).sp,.string (bs (dcD x).ot),.int .i64 (dcD x).re,.int .i64 (dcD x).sq,.int .i64 (dcD x).fl,.int .i64 (dcD x).tm,.int .i64 (dcD x).al,.int .i64 (dcD x).sz],.int .i64 (dcE x)]):=by
 refine eN1 Tryz.func40 Tryz.ntmps40 ?_
 refine aU2 ?_
 refine oBx λb1 _=>?_
 refine oAl (λb2 _=>?_) ZT
 refine aU7 ?_
 refine o_p (Qf rfl rfl Tryz.underlying9) rfl (aU2 ?_)
 refine sCd rfl (λh3=>?_) λh3=>?_
 ·have hl20:x.val.length<20:=by have hq:=h3;omega
  have hE:dcE x=3:=if_pos hl20
  have hD:dcD x=noE:=if_neg (by rw[hE];decide)
  refine aU2 ?_
  refine o_p (QO (cs:=[_,_,_,_,_,_,_,_,_]) rfl rfl QdQ ZT rfl) rfl (aU3 ?_)
  exact Qn (rs:=[.cell 2 66,.tmp 3]) rfl (.cell rfl QaS aPk rfl (.tmp rfl (.nil))) (λw' h'=>⟨by rw[hD,hE];rfl,h'.below⟩)
 have hl20:¬x.val.length<20:=by have hq:=h3;omega
 have hE:dcE x=Xc (Qv x):=if_neg hl20
 refine aU5 ?_
 refine oAl (λb4 _=>?_) QjH
 refine aU6 ?_
 refine o_p (QO (cs:=[_,_,_,_,_,_,_,_,_]) rfl rfl QdQ ZT rfl) rfl (oAl (λb5 _=>?_) ZT)
 refine aU4 ?_
 refine o_h (X6 (Cs:=[.blk b4 166 1 [.string (bs x.val)]]) rfl Qmt rfl aPs (λw1 h1 hf=>c99 w1 b4 x.val hf om hv)) rfl (λ_ _=>aU5 ?_)
 refine o_h (X6 (Cs:=[.blk b4 166 1 [.string (bs (x.val.drop 6))]]) rfl ZO rfl aPs (λw1 h1 hf=>QeK w1 b4 (x.val.drop 6) 1 hf om (by simp only[List.length_drop];omega) (by simp only[List.length_drop];omega))) rfl (λ_ _=>Qi (show _=Value.int .i64 (Qy x.val 6 1)from by rw[XJ]) (aU5 ?_))
 refine o_h (X6 (Cs:=[.blk b4 166 1 [.string (bs ((x.val.drop 6).drop 1))]]) rfl ZO rfl aPs (λw1 h1 hf=>QeK w1 b4 ((x.val.drop 6).drop 1) 1 hf om (by simp only[List.length_drop];omega) (by simp only[List.length_drop];omega))) rfl (λ_ _=>Qi (show _=Value.int .i64 (Qy x.val 7 1)from by rw[List.drop_drop,XJ]) (aU6 ?_))
 refine o_h (X6 (Cs:=[.blk b4 166 1 [.string (bs (((x.val.drop 6).drop 1).drop 1))]]) rfl ZO rfl aPs (λw1 h1 hf=>QeK w1 b4 (((x.val.drop 6).drop 1).drop 1) 4 hf om (by simp only[List.length_drop];omega) (by simp only[List.length_drop];omega))) rfl (λ_ _=>Qi (show _=Value.int .i64 (Qy x.val 8 4)from by rw[List.drop_drop,List.drop_drop,XJ]) (aU6 ?_))
 refine o_h (X6 (Cs:=[.blk b4 166 1 [.string (bs ((((x.val.drop 6).drop 1).drop 1).drop 4))]]) rfl ZO rfl aPs (λw1 h1 hf=>QeK w1 b4 ((((x.val.drop 6).drop 1).drop 1).drop 4) 4 hf om (by simp only[List.length_drop];omega) (by simp only[List.length_drop];omega))) rfl (λ_ _=>Qi (show _=Value.int .i64 (Qy x.val 12 4)from by rw[List.drop_drop,List.drop_drop,List.drop_drop,XJ]) (aU6 ?_))
 refine o_h (X6 (Cs:=[.blk b4 166 1 [.string (bs (((((x.val.drop 6).drop 1).drop 1).drop 4).drop 4))]]) rfl ZO rfl aPs (λw1 h1 hf=>QeK w1 b4 (((((x.val.drop 6).drop 1).drop 1).drop 4).drop 4) 4 hf om (by simp only[List.length_drop];omega) (by simp only[List.length_drop];omega))) rfl (λ_ _=>Qi (show _=Value.int .i64 (Qy x.val 16 4)from by rw[List.drop_drop,List.drop_drop,List.drop_drop,List.drop_drop,XJ]) (aU5 ?_))
 refine Qj (L':=[(2,_),(3,_),(4,_),(5,_)]) aSx (λ_ h=>h) ?_
 refine aU2 ?_
 refine Qi (show _=Value.string (bs (x.val.drop 20))from by rw[List.drop_drop,List.drop_drop,List.drop_drop,List.drop_drop,List.drop_drop]) (aU7 ?_)
 refine Qi (show _=.agg #[.string (bs (Qv x).nm),.int .i64 (Qv x).sp,.string (bs (Qv x).ot),.int .i64 (Qv x).re,.int .i64 (Qv x).sq,.int .i64 (Qv x).fl,.int .i64 (Qv x).tm,.int .i64 (Qv x).al,.int .i64 (Qv x).sz]from rfl) (Qax (C':=HS w [] [.blk b5 66 9 [.string (bs (Qv x).nm),.int .i64 (Qv x).sp,.string (bs (Qv x).ot),.int .i64 (Qv x).re,.int .i64 (Qv x).sq,.int .i64 (Qv x).fl,.int .i64 (Qv x).tm,.int .i64 (Qv x).al,.int .i64 (Qv x).sz],.blk b2 66 9 [.string (bs []),.int .i64 0,.string (bs []),.int .i64 0,.int .i64 0,.int .i64 0,.int .i64 0,.int .i64 0,.int .i64 0]]) (λw h=>h.ent aEt) (oCq rfl (λw1 h1=>c97 w1 (Qv x) hk (by show(x.val.drop 20).length<=_;rw[List.length_drop];omega)) (aU7 ?_)))
 refine sCd rfl (λh6=>?_) λh6=>?_
 ·have hz:¬Xc (Qv x)=0:=by have hq:=h6;exact hq
  have hD:dcD x=noE:=if_neg (by rw[hE];exact hz)
  refine aU2 ?_
  refine o_p (QO (cs:=[_,_,_,_,_,_,_,_,_]) rfl rfl QdQ ZT rfl) rfl (aU4 ?_)
  exact Qn (rs:=[.cell 2 66,.tmp 3]) rfl (.cell rfl QaS aPk rfl (.tmp rfl (.nil))) (λw' h'=>⟨by rw[hD,hE];rfl,h'.below⟩)
 have hz:Xc (Qv x)=0:=by have hq:=h6;simpa using hq
 have hD:dcD x=Qv x:=if_pos (by rw[hE];exact hz)
 refine aU4 ?_
 refine Qi (show _=.agg #[.string (bs (Qv x).nm),.int .i64 (Qv x).sp,.string (bs (Qv x).ot),.int .i64 (Qv x).re,.int .i64 (Qv x).sq,.int .i64 (Qv x).fl,.int .i64 (Qv x).tm,.int .i64 (Qv x).al,.int .i64 (Qv x).sz]from rfl) (aU3 ?_)
 exact Qn (rs:=[.cell 2 66,.tmp 3]) rfl (.cell rfl QaS aPk rfl (.tmp rfl (.nil))) (λw' h'=>⟨by rw[hD,hE,hz];rfl,h'.below⟩)
theorem c39(w:World)(e:DEnt)(hnm:e.nm.length<=1000000)(hot:e.ot.length<=1000000):CR 39 #[.agg #[.string (bs e.nm),.int .i64 e.sp,.string (bs e.ot),.int .i64 e.re,.int .i64 e.sq,.int .i64 e.fl,.int .i64 e.tm,.int .i64 e.al,.int .i64 e.sz]] w (.tuple #[.agg #[.string (bs (if Xc e=0 then Qa6 e else⟨[],[]⟩).key),.string (bs (if Xc e=0 then Qa6 e else⟨[],[]⟩).val)],.int .i64 (Xc e)]):=by
 refine eN1 Tryz.func39 Tryz.ntmps39 ?_
 refine aU2 ?_
 refine oBx λb1 _=>?_
 refine oAl (λb2 _=>?_) Qan
 refine aU6 ?_
 refine oCq rfl (λw1 h1=>c97 w1 e hnm hot) (aU7 ?_)
 refine sCd rfl (λh3=>?_) λh3=>?_
 ·have hz:¬Xc e=0:=by have hq:=h3;exact hq
  refine aU2 ?_
  refine o_p (QO (cs:=[_,_]) rfl rfl QgZ Qan rfl) rfl (aU4 ?_)
  exact Qn (rs:=[.cell 2 84,.tmp 3]) rfl (.cell rfl Qbw aPk rfl (.tmp rfl (.nil))) (λw' h'=>⟨by rw[if_neg hz];rfl,h'.below⟩)
 have hz:Xc e=0:=by have hq:=h3;simpa using hq
 have h0:=Qeg hz
 refine aU4 ?_
 refine oCq rfl (λw1 h1=>c98 w1 e hnm hot om om om om om om om) (aU3 ?_)
 exact Qn (rs:=[.cell 2 84,.tmp 3]) rfl (.cell rfl Qbw aPk rfl (.tmp rfl (.nil))) (λw' h'=>⟨by rw[if_pos hz,hz];rfl,h'.below⟩)
instance:TFn Tryz.prog 67:=⟨by kernel_rfl⟩
theorem Qct{s:List UInt8}{c:UInt8}(h:0<s.length):[c].isSuffixOf s=decide (s.getD (s.length-1) 0=c):=by
  rcases List.eq_nil_or_concat s with e|⟨r,x,e⟩
  · subst e;simp at h
  · rw[List.concat_eq_append]at e;subst e
    have e1:(r++[x]).getD ((r++[x]).length-1) 0=x:=by
      rw[List.getD_eq_getElem?_getD,List.length_append,List.length_singleton,Nat.add_sub_cancel,List.getElem?_append_right (Nat.le_refl _),Nat.sub_self];rfl
    rw[e1,Bool.eq_iff_iff,List.isSuffixOf_iff_suffix,decide_eq_true_eq];constructor
    · rintro⟨t,ht⟩;have:=List.append_inj_right' ht rfl
      simpa using this.symm
    · rintro rfl;exact⟨r,rfl⟩
theorem QjI{s:List UInt8}{p:UInt8->Bool}{k:Nat}(h:k<s.length):(s.take (k+1)).all p=((s.take k).all p&&p (s.getD k 0)):=by
  rw[X8 (d:=0) h,List.all_append];simp
theorem Qlj{s:List UInt8}{p:UInt8->Bool}{k:Nat}(h:k<s.length)(hp:p (s.getD k 0)=false):s.all p=false:=by
  rw[List.all_eq_false];exact⟨s.getD k 0,XX h,by rw[hp];simp⟩
theorem QiR{s:List UInt8}(h:0<s.length)(hl:s.length<=32)(h1:¬s=[46,46])(h2:¬s.getD (s.length-1) 0=32)(h3:¬s.getD (s.length-1) 0=46):YU s=s.all XN:=by
  unfold YU;rw[Qct h,Qct h,decide_eq_false h1,decide_eq_false h2,decide_eq_false h3,decide_eq_false (by intro e;rw[e]at h;simp at h),decide_eq_true hl];simp
theorem QkK{s:List UInt8}(h:s=[]\/s=[46,46]\/(0<s.length/\(s.getD (s.length-1) 0=32\/s.getD (s.length-1) 0=46))):YU s=false:=by
  unfold YU;rcases h with h|h|⟨h0,h|h⟩
  · simp[h]
  · simp[h]
  · rw[Qct h0,decide_eq_true h];simp
  · rw[Qct (c:=46) h0,decide_eq_true h];simp
theorem c67(w:World)(c:UInt8):CR 67 #[.int .u8 (c.toNat:Int)] w (.bool (XN c)):=by
 have hns:¬c∈Q0->(Q0.contains c)=false:=by intro h;simpa using h
 refine eN1 Tryz.func67 Tryz.ntmps67 ?_
 refine Qcf ?_
 refine oOr 3 6 9 rfl
  (λhg1 _=>by
   refine aU4 ?_
   exact oJf 3 9)
  (λhg3 _=>by
   refine aU2 ?_
   exact oJt 3 9) ?_
 refine aU ?_
 refine sCd rfl (λh5=>?_) λh5=>?_
 ·refine aU4 ?_
  exact rV (h:=by unfold XN;simp only[QB];by_cases hA:32<=c.toNat;(by_cases hB:c.toNat<=126;(exfalso;omega);simp[hA,hB]);simp[hA])
 have hc1:32<=c.toNat/\c.toNat<=126:=by have hq:=h5;omega
 refine aU7 ?_
 refine QU (α:=Nat) [2,3,10,11,12,13,14,15,16,17] (λk=>[(3,.int .i64 (k:Int))]) (λ_=>_) (λk=>k<=9/\∀j,j<k->¬Q0.getD j 0=c) (λk=>9-k) 0 ⟨Nat.zero_le _,λj h=>absurd h (Nat.not_lt_zero j)⟩ aSx (λw h=>h) (λk hkk=>?_)
 obtain⟨hk1,hk2⟩:=hkk
 refine aU6 ?_
 refine sCd rfl (λh6=>?_) λh6=>?_
 ·have hk:k<Q0.length:=by show k<9;omega
  refine aU6 ?_
  refine o_p (Qo rfl rfl rfl Tryz.underlying9 (k) om (by show k<9;omega)) rfl ?_
  refine aU3 ?_
  refine sCd rfl (λh7=>?_) λh7=>?_
  ·have hin:c∈Q0:=by have hq2:((Q0.getD k 0).toNat:Int)=(c.toNat:Int):=h7;have e9:Q0.getD k 0=c:=UInt8.toNat_inj.1 om;rw[<-e9];exact XX hk
   refine aU4 ?_
   exact rV (h:=by unfold XN;simp[QB,hin])
  have hne:¬Q0.getD k 0=c:=by intro hA;have hq:¬((Q0.getD k 0).toNat:Int)=(c.toNat:Int):=h7;rw[hA]at hq;exact hq rfl
  refine aT5 ?_
  refine aU2 ?_
  exact QN (k+1) om ⟨om,λj hj=>(Nat.lt_succ_iff_lt_or_eq.1 hj).elim (hk2 j) (λe=>by rw[e];exact hne)⟩ aSx (λw h=>h)
 have hni:¬c∈Q0:=by intro hm;obtain⟨j,hj,e⟩:=Qku (d:=0) hm;exact hk2 j (by have:j<9:=hj;omega) e
 refine QE rfl ?_
 refine aU4 ?_
 exact rV (h:=by unfold XN;simp only[QB,hns hni,decide_eq_true hc1.1,decide_eq_true hc1.2];rfl)
theorem c16(w:World)(s:List UInt8)(hm:s.length<=9223372036854775807):CR 16 #[.string (bs s)] w (.int .i64 (Q2 s)):=by
 have e32:0<s.length->(((s.getD (s.length-1) 0).toNat:Int)=32 ↔ s.getD (s.length-1) 0=32):=λ_=>⟨λh=>UInt8.toNat_inj.1 (by show(s.getD (s.length-1) 0).toNat=32;omega),λh=>by rw[h];rfl⟩
 have e46:0<s.length->(((s.getD (s.length-1) 0).toNat:Int)=46 ↔ s.getD (s.length-1) 0=46):=λ_=>⟨λh=>UInt8.toNat_inj.1 (by show(s.getD (s.length-1) 0).toNat=46;omega),λh=>by rw[h];rfl⟩
 have hpos:¬s=[]->0<s.length:=λh=>List.length_pos_iff.2 h
 refine eN1 Tryz.func16 Tryz.ntmps16 ?_
 refine aU8 ?_
 refine o_p (Qf rfl rfl Tryz.underlying9) rfl (aU2 ?_)
 refine sCd rfl (λh1=>?_) λh1=>?_
 ·have hl:¬s.length<=32:=by have hq:=h1;omega
  refine aU4 ?_
  exact rV (h:=by rw[Q2,if_neg hl];rfl)
 have hl:s.length<=32:=by have hq:=h1;omega
 refine aU7 ?_
 refine oOr 3 9 12 rfl
  (λhg2 _=>by
   refine aU4 ?_
   exact oJf 3 12)
  (λhg4 _=>by
   refine aU2 ?_
   exact oJt 3 12) ?_
 refine aU ?_
 refine oOr 3 13 16 rfl
  (λhg6 _=>by
   refine aU4 ?_
   exact oJf 3 16)
  (λhg8 _=>by
   refine aU2 ?_
   exact oJt 3 16) ?_
 refine aU ?_
 refine oOr 7 17 24 rfl
  (λhg10 _=>by
   refine aU5 ?_
   refine o_p (Qf rfl rfl Tryz.underlying9) rfl (aT2 ?_)
   have hp9:0<s.length:=hpos (by have hq:=hg10;simp at hq;grind)
   refine aU ?_
   refine o_p (Qo rfl rfl rfl Tryz.underlying9 (s.length-1) om om) rfl ?_
   refine aU2 ?_
   exact oJf 7 24)
  (λhg12 _=>by
   refine aU6 ?_
   exact oJt 7 24) ?_
 refine aU ?_
 refine oOr 7 25 32 rfl
  (λhg14 _=>by
   refine aU5 ?_
   refine o_p (Qf rfl rfl Tryz.underlying9) rfl (aT2 ?_)
   have hp9:0<s.length:=hpos (by have hq:=hg14;simp at hq;grind)
   refine aU ?_
   refine o_p (Qo rfl rfl rfl Tryz.underlying9 (s.length-1) om om) rfl ?_
   refine aU2 ?_
   exact oJf 7 32)
  (λhg16 _=>by
   refine aU6 ?_
   exact oJt 7 32) ?_
 refine aU ?_
 refine sCd rfl (λh18=>?_) λh18=>?_
 ·have hf:YU s=false:=by have hq:=h18;apply QkK;by_cases hz:s=[];(exact .inl hz);(have hp:=hpos hz;simp only[e32 hp,e46 hp]at hq;rcases hq with(((hq|hq)|hq)|hq)|hq;(exact absurd hq hz);(exact .inr (.inr ⟨hp,.inr (by rw[hq];rfl)⟩));(exact .inr (.inl hq));(exact .inr (.inr ⟨hp,.inl hq⟩));(exact .inr (.inr ⟨hp,.inr hq⟩)))
  refine aU4 ?_
  exact rV (h:=by rw[Q2,if_pos hl,hf];rfl)
 have hq:=h18
 have hz:¬s=[]:=hq.1.1.1.1
 have hp:=hpos hz
 simp only[e32 hp,e46 hp]at hq
 have hr:=QiR hp hl hq.1.1.2 hq.1.2 hq.2
 refine aU7 ?_
 refine Qj (L':=[(0,_),(2,_),(3,_)]) aSx (λ_ h=>h) ?_
 refine QU (α:=Nat) [2,3,33,34,35,36,37,38,39,40,41,42,43] (λk=>[(3,.int .i64 (k:Int))]) (λ_=>_) (λk=>k<=s.length/\(s.take k).all XN=true) (λk=>s.length-k) 0 ⟨Nat.zero_le _,rfl⟩ aSx (λw h=>h) (λk hkk=>?_)
 obtain⟨hk1,hk2⟩:=hkk
 refine aU5 ?_
 refine o_p (Qf rfl rfl Tryz.underlying9) rfl (aU2 ?_)
 refine sCd rfl (λh19=>?_) λh19=>?_
 ·have hk:k<s.length:=by omega
  have hst:=QjI (p:=XN) hk
  refine aU7 ?_
  refine o_p (Qo rfl rfl rfl Tryz.underlying9 (k) om om) rfl ?_
  refine oCq rfl (λw1 h1=>c67 w1 (s.getD k 0)) (aU2 ?_)
  refine sCd rfl (λh20=>?_) λh20=>?_
  ·have hf:YU s=false:=by rw[hr];exact Qlj hk h20
   refine aU4 ?_
   exact rV (h:=by rw[Q2,if_pos hl,hf];rfl)
  have hk3:(s.take (k+1)).all XN=true:=by rw[hst,hk2,h20];rfl
  refine aT5 ?_
  refine aU2 ?_
  exact QN (k+1) om ⟨om,hk3⟩ aSx (λw h=>h)
 obtain rfl:k=s.length:=om
 refine QE rfl ?_
 refine aU4 ?_
 exact rV (h:=by rw[List.take_length]at hk2;rw[Q2,if_pos hl,hr,hk2];rfl)
instance:TFd Tryz.prog 82 0 0 26:=⟨by kernel_rfl⟩
instance:TFd Tryz.prog 82 1 2 3:=⟨by kernel_rfl⟩
instance:TFd Tryz.prog 82 2 3 9:=⟨by kernel_rfl⟩
theorem Qdn:tsz Tryz.prog 82=some (4,true):=by kernel_rfl
instance:TSz Tryz.prog 82 4 true:=⟨Qdn⟩
theorem QkN:Q7 Tryz.prog 101=true:=by kernel_rfl
instance:TFn Tryz.prog 101:=⟨QkN⟩
theorem ZX:Qs Tryz.prog 82=some [.int .i64 0,.int .i64 0,.int .i64 0,.string (bs [])]:=by kernel_rfl
theorem Qd5:Yj Tryz.prog 82=some [(0,2),(2,1),(3,1)]:=by kernel_rfl
theorem Yf{l:DLnk}(h:Xh l=0):Q2 l.nm=0/\(0<=l.sp/\l.sp<=2)/\(0<=l.re/\l.re<=95)/\1<=l.sq/\l.sq<=65535:=by
  obtain⟨a1,h⟩:=Qac h;obtain⟨a2,a3⟩:=Qac h;have b1:=QdO (by decide) a1;have b2:=QdO (by decide) a2;simp only[Bool.and_eq_true,decide_eq_true_eq]at b1 b2;exact⟨a3,b2,b1⟩
theorem c101(w:World)(l:DLnk)(hnm:l.nm.length<=1000000):CR 101 #[.agg #[.int .i64 l.re,.int .i64 l.sq,.int .i64 l.sp,.string (bs l.nm)]] w (.int .i64 (Xh l)):=by
 refine eN1 Tryz.func101 Tryz.ntmps101 ?_
 refine aU2 ?_
 refine oBx λb1 _=>?_
 refine aU3 ?_
 refine Xl [] mixed ?_
 refine dFa 0 ?_
 refine dLn 1 [] ?_
 refine dQ 2 [] rfl (Ql rfl Qml rfl (λw1 h1=>c89 w1 _ _)) (dFa 3 ?_)
 refine dLd 4 [] ?_
 refine dQ 5 [] rfl (Ql rfl Qjl rfl (λw1 h1=>c160 w1 _)) (dQ 6 [] rfl (Ql rfl Qfr rfl (λw1 h1=>c77 w1 _ _)) (dFa 7 ?_))
 refine dLd 8 [] ?_
 refine dQ 9 [] rfl (Ql rfl QiP rfl (λw1 hh=>c75 w1 l.nm hnm)) (dH 10 rfl (Qp (cs:=[_,_,_]) rfl rfl YY Qbv rfl rfl rfl) (λb2 _=>dBa ?_))
 refine dQ 11 [] rfl (Ql rfl QkE rfl (λw1 h1=>f62 h1 aPk (by rfl) (by rfl) (by decide))) (dP 12 ?_)
 refine dNi ?_
 exact rV (h:=by rw[QlZ];simp only[QB,Xh,Qcc,okE,cond_eq_ite])
theorem c41(w:World)(l:DLnk)(hnm:l.nm.length<=1000000):CR 41 #[.agg #[.int .i64 l.re,.int .i64 l.sq,.int .i64 l.sp,.string (bs l.nm)]] w (.tuple #[.string (bs (if Xh l=0 then Qlf l else[])),.int .i64 (Xh l)]):=by
 refine eN1 Tryz.func41 Tryz.ntmps41 ?_
 refine aU2 ?_
 refine oBx λb1 _=>?_
 refine aU7 ?_
 refine oCq rfl (λw1 h1=>c101 w1 l hnm) (aU7 ?_)
 refine sCd rfl (λh2=>?_) λh2=>?_
 ·have hz:¬Xh l=0:=by have hq:=h2;exact hq
  refine aU6 ?_
  exact Qn (rs:=[.tmp 2,.tmp 3]) rfl (.tmp rfl (.tmp rfl (.nil))) (λw' h'=>⟨by rw[if_neg hz];rfl,h'.below⟩)
 have hz:Xh l=0:=by have hq:=h2;simpa using hq
 have h0:=Yf hz
 refine aU2 ?_
 refine Xl [] mixed ?_
 refine dFa 0 ?_
 refine dLn 1 [] ?_
 refine dQ 2 [] rfl (Ql rfl Qi3 rfl (λw1 h1=>c102 w1 l.re l.sq om om)) (dFa 3 ?_)
 refine dLd 4 [] ?_
 refine dQ 5 [] rfl (Ql rfl ZL rfl (λw1 h1=>Qen w1 l.sp 1 om (by decide))) (dV 6 rfl (Qm rfl rfl rfl (by(try simp only[List.length_append,List.length_cons,List.length_nil,List.length_replicate,List.length_take,List.length_drop,QH]);omega)) (dFa 7 ?_))
 refine dLd 8 [] ?_
 refine dV 9 rfl (Qf rfl rfl Tryz.underlying9) (dQ 10 [] rfl (Ql rfl ZL rfl (λw1 h1=>Qen w1 (l.nm.length:Int) 1 om (by decide))) (dV 11 rfl (Qm rfl rfl rfl (by(try simp only[List.length_append,List.length_cons,List.length_nil,List.length_replicate,List.length_take,List.length_drop,QH]);omega)) (dFa 12 ?_)))
 refine dLd 13 [] ?_
 refine dV 14 rfl (Qm rfl rfl rfl (by(try simp only[List.length_append,List.length_cons,List.length_nil,List.length_replicate,List.length_take,List.length_drop,QH]);omega)) (dP 15 ?_)
 refine dP 16 ?_
 refine dNi ?_
 exact Qn (rs:=[.tmp 2,.tmp 3]) rfl (.tmp rfl (.tmp rfl (.nil))) (λw' h'=>⟨by rw[if_pos hz,hz];rfl,h'.below⟩)
theorem c42(w:World)(s:List UInt8)(hv:s.length<=1000000):CR 42 #[.string (bs s)] w (.tuple #[.agg #[.int .i64 (dlD s).re,.int .i64 (dlD s).sq,.int .i64 (dlD s).sp,.string (bs (dlD s).nm)],.int .i64 (dlE s)]):=by
 refine eN1 Tryz.func42 Tryz.ntmps42 ?_
 refine aU2 ?_
 refine oAl (λb1 _=>?_) ZX
 refine aU6 ?_
 refine o_p (Qf rfl rfl Tryz.underlying9) rfl (aU2 ?_)
 refine sCd rfl (λh2=>?_) λh2=>?_
 ·have hl8:s.length<8:=by have hq:=h2;omega
  have hE:dlE s=3:=if_pos hl8
  have hD:dlD s=noL:=if_neg (by rw[hE];decide)
  refine aU2 ?_
  refine o_p (QO (cs:=[_,_,_,_]) rfl rfl Qd5 ZX rfl) rfl (aU3 ?_)
  exact Qn (rs:=[.cell 2 82,.tmp 3]) rfl (.cell rfl Qdn aPk rfl (.tmp rfl (.nil))) (λw' h'=>⟨by rw[hD,hE];rfl,h'.below⟩)
 have hl8:¬s.length<8:=by have hq:=h2;omega
 have hE:dlE s=X3 (okE (decide (((s.drop 8).length:Int)=Qy s 7 1)) 3) (Xh (Yb s)):=if_neg hl8
 refine aU4 ?_
 refine oAl (λb3 _=>?_) QjH
 refine aU4 ?_
 refine o_h (X6 (Cs:=[.blk b3 166 1 [.string (bs s)]]) rfl Qmt rfl aPs (λw1 h1 hf=>c99 w1 b3 s hf om hv)) rfl (λ_ _=>o_p (QO (cs:=[_,_,_,_]) rfl rfl Qd5 ZX rfl) rfl (oAl (λb4 _=>?_) ZX))
 refine aU4 ?_
 refine o_h (X6 (Cs:=[.blk b3 166 1 [.string (bs (s.drop 6))]]) rfl ZO rfl aPs (λw1 h1 hf=>QeK w1 b3 (s.drop 6) 1 hf om (by simp only[List.length_drop];omega) (by simp only[List.length_drop];omega))) rfl (λ_ _=>Qi (show _=Value.int .i64 (Qy s 6 1)from by rw[XJ]) (aU5 ?_))
 refine o_h (X6 (Cs:=[.blk b3 166 1 [.string (bs ((s.drop 6).drop 1))]]) rfl ZO rfl aPs (λw1 h1 hf=>QeK w1 b3 ((s.drop 6).drop 1) 1 hf om (by simp only[List.length_drop];omega) (by simp only[List.length_drop];omega))) rfl (λ_ _=>Qi (show _=Value.int .i64 (Qy s 7 1)from by rw[List.drop_drop,XJ]) (aU5 ?_))
 refine Qi (show _=Value.string (bs (s.drop 8))from by rw[List.drop_drop,List.drop_drop]) (aU5 ?_)
 refine Xl [] mixed ?_
 refine dFa 0 ?_
 refine dLd 1 [] ?_
 refine dV 2 rfl (Qf rfl rfl Tryz.underlying9) (dP 3 ?_)
 refine dP 4 ?_
 refine dQ 5 [] rfl (Ql rfl Qfr rfl (λw1 h1=>c77 w1 _ _)) (dLn 6 [] ?_)
 refine Xg (show _=.agg #[.int .i64 (Yb s).re,.int .i64 (Yb s).sq,.int .i64 (Yb s).sp,.string (bs (Yb s).nm)]from rfl) (dQ 7 [] rfl (Ql rfl QkN rfl (λw1 h1=>c101 w1 (Yb s) (by show(s.drop 8).length<=_;rw[List.length_drop];omega))) (dH 8 rfl (Qp (cs:=[_,_]) rfl rfl YY Qbv rfl rfl rfl) (λb5 _=>dBa ?_)))
 refine dQ 9 [] rfl (Ql rfl QkE rfl (λw1 h1=>f62 h1 aPk (by rfl) (by rfl) (by decide))) (Xg (show _=Value.int .i64 (dlE s)from by rw[QlJ,hE];simp only[okE,cond_eq_ite]) (dP 10 ?_))
 refine dNi ?_
 refine aU5 ?_
 refine sCd rfl (λh6=>?_) λh6=>?_
 ·have hz:¬dlE s=0:=by have hq:=h6;exact hq
  have hD:dlD s=noL:=if_neg hz
  refine aU ?_
  refine Qj (L':=[(2,_),(3,_),(5,_),(7,_)]) aSx (λ_ h=>h) ?_
  refine aU ?_
  refine o_p (QO (cs:=[_,_,_,_]) rfl rfl Qd5 ZX rfl) rfl (aU4 ?_)
  exact Qn (rs:=[.cell 2 82,.tmp 3]) rfl (.cell rfl Qdn aPk rfl (.tmp rfl (.nil))) (λw' h'=>⟨by rw[hD];rfl,h'.below⟩)
 have hz:dlE s=0:=by have hq:=h6;simpa using hq
 have hD:dlD s=Yb s:=if_pos hz
 refine aU2 ?_
 refine Qj (L':=[(2,_),(3,_),(5,_)]) aSx (λ_ h=>h) ?_
 refine aU2 ?_
 refine Qi (show _=.agg #[.int .i64 (Yb s).re,.int .i64 (Yb s).sq,.int .i64 (Yb s).sp,.string (bs (Yb s).nm)]from rfl) (aU3 ?_)
 exact Qn (rs:=[.cell 2 82,.tmp 3]) rfl (.cell rfl Qdn aPk rfl (.tmp rfl (.nil))) (λw' h'=>⟨by rw[hD,hz];rfl,h'.below⟩)
instance:TFn Tryz.prog 27:=⟨by kernel_rfl⟩
instance:TFn Tryz.prog 111:=⟨by kernel_rfl⟩
instance:TFn Tryz.prog 35:=⟨by kernel_rfl⟩
instance:TFn Tryz.prog 52:=⟨by kernel_rfl⟩
instance:TFn Tryz.prog 16:=⟨by kernel_rfl⟩
theorem Qmk:Yj Tryz.prog 30=some [(0,2),(2,4)]:=by kernel_rfl
theorem QmA:Qs Tryz.prog 30=some [.int .i64 0,.int .i64 0,.int .i64 0,.int .i64 0,.int .i64 0,.int .i64 0]:=by kernel_rfl
instance:TFn Tryz.prog 17:=⟨by kernel_rfl⟩
theorem Zy:Q7 Tryz.prog 107=true:=by kernel_rfl
theorem Qko:Q7 Tryz.prog 106=true:=by kernel_rfl
theorem QeX:Q7 Tryz.prog 105=true:=by kernel_rfl
instance:TFn Tryz.prog 105:=⟨QeX⟩
theorem QiY:Q7 Tryz.prog 104=true:=by kernel_rfl
theorem Qob:Yj Tryz.prog 28=some [(0,1),(1,1),(2,1),(3,1)]:=by kernel_rfl
instance:TFn Tryz.prog 45:=⟨by kernel_rfl⟩
instance:TFn Tryz.prog 47:=⟨by kernel_rfl⟩
theorem Qfm(s:List UInt8)(k:Nat):at1 s k=Qy s k 1:=by
  show at1 s k=at1 s k+256*0;omega
theorem Qj5(s:List UInt8)(k:Nat):Value.int .i64 (IntKind.i64.wrap ((s.getD k 0).toNat:Int))=Value.int .i64 (Qy s k 1):=by
  have h:=(s.getD k 0).toNat_lt;rw[<-Qfm];exact Qje om om
theorem XE{a b:Int}(h:a=0):X3 a b=b:=if_pos h
theorem Qgh{a b:Int}(h:¬a=0):X3 a b=a:=if_neg h
theorem c111(w:World)(n:Int):CR 111 #[.int .i64 n] w (.bool (decide (0<=n)&&decide (n<=1000000))):=by
 refine eN1 Tryz.func111 Tryz.ntmps111 ?_
 refine aU7 ?_
 refine oCq rfl (λw1 h1=>c27 w1 _ _ _) (aU2 ?_)
 exact rV
theorem c35(w:World)(re sq:Int):CR 35 #[.agg #[.int .i64 re,.int .i64 sq]] w (.int .i64 (Qca re sq)):=by
 refine eN1 Tryz.func35 Tryz.ntmps35 ?_
 refine aU2 ?_
 refine oBx λb1 _=>?_
 refine aU7 ?_
 refine oCq rfl (λw1 h1=>c27 w1 _ _ _) (aU2 ?_)
 refine oOr 5 7 12 rfl
  (λhg2 _=>by
   refine aU5 ?_
   refine oCq rfl (λw1 h1=>c27 w1 _ _ _) (aU2 ?_)
   exact oJf 5 12)
  (λhg4 _=>by
   refine aU4 ?_
   exact oJt 5 12) ?_
 refine aU ?_
 refine sCd rfl (λh6=>?_) λh6=>?_
 ·refine aU4 ?_
  exact rV (h:=by have hq:=h6;simp only[QB,Qca,okE];grind)
 refine aU5 ?_
 exact rV (h:=by have hq:=h6;simp only[QB,Qca,okE];grind)
theorem c52(w:World)(fl tm al sz:Int):CR 52 #[.agg #[.int .i64 fl,.int .i64 tm,.int .i64 al,.int .i64 sz]] w (.int .i64 (Qgq fl tm al sz)):=by
 refine eN1 Tryz.func52 Tryz.ntmps52 ?_
 refine aU2 ?_
 refine oBx λb1 _=>?_
 refine aU7 ?_
 refine oCq rfl (λw1 h1=>c27 w1 _ _ _) (aU2 ?_)
 refine oOr 5 7 12 rfl
  (λhg2 _=>by
   refine aU5 ?_
   refine oCq rfl (λw1 h1=>c111 w1 _) (aU2 ?_)
   exact oJf 5 12)
  (λhg4 _=>by
   refine aU4 ?_
   exact oJt 5 12) ?_
 refine aU ?_
 refine oOr 5 13 18 rfl
  (λhg6 _=>by
   refine aU5 ?_
   refine oCq rfl (λw1 h1=>c27 w1 _ _ _) (aU2 ?_)
   exact oJf 5 18)
  (λhg8 _=>by
   refine aU4 ?_
   exact oJt 5 18) ?_
 refine aU ?_
 refine oOr 5 19 24 rfl
  (λhg10 _=>by
   refine aU5 ?_
   refine oCq rfl (λw1 h1=>c27 w1 _ _ _) (aU2 ?_)
   exact oJf 5 24)
  (λhg12 _=>by
   refine aU4 ?_
   exact oJt 5 24) ?_
 refine aU ?_
 refine sCd rfl (λh14=>?_) λh14=>?_
 ·refine aU4 ?_
  exact rV (h:=by have hq:=h14;simp only[QB,Qgq,okE];grind)
 refine aU5 ?_
 exact rV (h:=by have hq:=h14;simp only[QB,Qgq,okE];grind)
theorem c17(w:World)(re sq fl tm al sz:Int):CR 17 #[.agg #[.int .i64 re,.int .i64 sq,.int .i64 fl,.int .i64 tm,.int .i64 al,.int .i64 sz]] w (.int .i64 (X3 (Qca re sq) (Qgq fl tm al sz))):=by
 refine eN1 Tryz.func17 Tryz.ntmps17 ?_
 refine aU2 ?_
 refine oBx λb1 _=>?_
 refine aU7 ?_
 refine oCq rfl (λw1 h1=>c35 w1 _ _) (aU7 ?_)
 refine sCd rfl (λh2=>?_) λh2=>?_
 ·have hz:¬Qca re sq=0:=by have hq:=h2;exact hq
  refine aU5 ?_
  exact rV (h:=by rw[X3,if_neg hz];rfl)
 have hz:Qca re sq=0:=by have hq:=h2;simpa using hq
 refine aU5 ?_
 refine oCq rfl (λw1 h1=>c52 w1 _ _ _ _) (aU2 ?_)
 exact rV (h:=by rw[X3,if_pos hz];rfl)
theorem c45(w:World)(e:DEnt)(hnm:e.nm.length<=1000000)(hot:e.ot.length<=1000000):CR 45 #[.agg #[.string (bs e.nm),.int .i64 e.sp,.string (bs e.ot),.int .i64 e.re,.int .i64 e.sq,.int .i64 e.fl,.int .i64 e.tm,.int .i64 e.al,.int .i64 e.sz]] w (.int .i64 (Xc e)):=by
 refine eN1 Tryz.func45 Tryz.ntmps45 ?_
 refine aU2 ?_
 refine oBx λb1 _=>?_
 refine aU7 ?_
 refine oCq rfl (λw1 hh=>c16 w1 e.nm om) (aU7 ?_)
 refine sCd rfl (λh2=>?_) λh2=>?_
 ·have h1:¬Q2 e.nm=0:=by have hq:=h2;exact hq
  refine aU5 ?_
  exact rV (h:=by rw[Xc,Qgh h1];rfl)
 have h1:Q2 e.nm=0:=by have hq:=h2;simpa using hq
 refine aU6 ?_
 refine oCq rfl (λw1 h1=>c27 w1 _ _ _) (aU2 ?_)
 refine sCd rfl (λh3=>?_) λh3=>?_
 ·have h2:Qcc e.sp=2:=by have hq:=h3;simp only[Qcc,okE];grind
  refine aU4 ?_
  exact rV (h:=by rw[Xc,XE h1,h2];rfl)
 have h2:Qcc e.sp=0:=by have hq:=h3;simp only[Qcc,okE];grind
 refine Qcf ?_
 refine o_p (Qdg rfl rfl rfl Tryz.underlying4) rfl (aU ?_)
 refine sCd rfl (λh4=>?_) λh4=>?_
 ·have h3:okE (decide (e.sp=2)==decide (e.ot=[])) 3=3:=by have hq:=h4;simp only[okE];grind
  refine aU4 ?_
  exact rV (h:=by rw[Xc,XE h1,XE h2,h3];rfl)
 have h3:okE (decide (e.sp=2)==decide (e.ot=[])) 3=0:=by have hq:=h4;simp only[okE];grind
 refine aU8 ?_
 refine sCd rfl (λh5=>?_) λh5=>?_
 ·have h4:Qcw e.ot=Q2 e.ot:=if_neg (by have hq:=h5;simpa using hq)
  refine aU4 ?_
  refine oCq rfl (λw1 hh=>c16 w1 e.ot om) (aU7 ?_)
  refine sCd rfl (λh6=>?_) λh6=>?_
  ·have h5:¬Qcw e.ot=0:=by rw[h4];have hq:=h6;exact hq
   refine aU5 ?_
   exact rV (h:=by rw[Xc,XE h1,XE h2,XE h3,Qgh h5,h4];rfl)
  have h5:Qcw e.ot=0:=by rw[h4];have hq:=h6;simpa using hq
  refine aU7 ?_
  refine o_p (QO (cs:=[_,_,_,_,_,_]) rfl rfl Qmk QmA rfl) rfl (oCq rfl (λw1 h1=>c17 w1 _ _ _ _ _ _) (aU2 ?_))
  exact rV (h:=by rw[Xc,XE h1,XE h2,XE h3,XE (a:=Qcw e.ot) (by first|exact h5|exact h4)];rfl)
 have h4:Qcw e.ot=0:=if_pos (by have hq:=h5;simpa using hq)
 refine aU7 ?_
 refine o_p (QO (cs:=[_,_,_,_,_,_]) rfl rfl Qmk QmA rfl) rfl (oCq rfl (λw1 h1=>c17 w1 _ _ _ _ _ _) (aU2 ?_))
 exact rV (h:=by rw[Xc,XE h1,XE h2,XE h3,XE (a:=Qcw e.ot) (by first|exact h5|exact h4)];rfl)
theorem QeC(w:World)(n:Int)(c:Nat)(hn:0<=n/\n<=9223372036854775807)(hc:c<=1000):CR 107 #[.int .i64 n,.int .i64 (c:Int)] w (.string (bs (Xn c n))):=by
 refine eN2 Tryz.func107 Tryz.ntmps107 ?_
 refine Qjg ?_
 refine QU (α:=Nat×Int×List UInt8×Option Addr×Nat) [0,5,6,7,8,9,10,11,12,13,14,15,16,17,18,19] (λx=>[(6,.int .i64 (x.1:Int)),(0,.int .i64 x.2.1),(5,.slice x.2.2.2.1 x.2.2.1.length x.2.2.2.2)]) (λx=>HS w [] [.own (.slice x.2.2.2.1 x.2.2.1.length x.2.2.2.2) 5 1 (x.2.2.1.length) ((x.2.2.1).map bv)]) (λx=>x.1<=c/\x.2.2.1.length=x.1/\(0<=x.2.1/\x.2.1<=9223372036854775807)/\Xn c n=x.2.2.1++Xn (c-x.1) x.2.1) (λx=>c-x.1) (0,n,[],none,0) ⟨Nat.zero_le _,rfl,hn,rfl⟩ aSx (λw h=>(h.own_nil 5 1).ent aEt) (λ⟨k,m,p,ga,gc⟩hx=>?_)
 dsimp only
 obtain⟨hk1,hpl,hm,hst⟩:=hx
 simp only[]at hk1 hpl hm hst
 refine aU7 ?_
 refine sCd rfl (λh1=>?_) λh1=>?_
 ·have hk:k<c:=by omega
  refine aU7 ?_
  refine o_p (QjE rfl rfl rfl om om) rfl (o_p (QZ rfl rfl Qcg Qdu) rfl (Qi (show _=bv (by8 m)from(Qhu _).trans (by rw[Qnv (show m%256%256=m%256 by omega)])) (o_h (Qp (cs:=[_]) rfl rfl Xr Qel rfl rfl rfl) rfl (λb2 _=>o_h (YH _ rfl rfl rfl Xr Tryz.underlying226 Qel rfl aPk (Yi aPk) rfl (by intro u hu;simp only[List.mem_cons,List.mem_nil_iff,or_false]at hu;subst hu;rfl) om (by simp only[maxLen];omega)) rfl (λb3 _=>aU4 ?_)))))
  refine o_p (QiM rfl rfl rfl om om om) rfl (aT6 ?_)
  refine aU2 ?_
  exact QN (k+1,m/256,p++[by8 m],b3.1,b3.2) (by(try simp only[]);omega) ⟨by(try simp only[]);omega,by simp[hpl],by(try simp only[]);omega,by simp only[];rw[hst,show c-k=(c-(k+1))+1 by omega,Xn,List.append_assoc];rfl⟩ (by dsimp only;rw[List.length_append];exact aSx) (λw h=>by dsimp only;rw[List.length_append,List.map_append];exact h.ent aEt)
 obtain rfl:k=c:=om
 rw[Nat.sub_self,Xn,List.append_nil]at hst
 refine QE rfl ?_
 refine aU3 ?_
 refine o_q (ZE rfl rfl Tryz.underlying226 Tryz.underlying9 Tryz.underlying5 aPk (Qas _)) rfl (aU2 ?_)
 exact rV (h:=by rw[Zo,hst];rfl)
theorem c106(w:World)(re sq:Int)(hre:0<=re/\re<=9223372036854775807)(hsq:0<=sq/\sq<=9223372036854775807):CR 106 #[.agg #[.int .i64 re,.int .i64 sq]] w (.string (bs (Xn 4 re++Xn 2 sq))):=by
 refine eN1 Tryz.func106 Tryz.ntmps106 ?_
 refine aU2 ?_
 refine oBx λb1 _=>?_
 refine aU3 ?_
 refine Xl [] mixed ?_
 refine dFa 0 ?_
 refine dLd 1 [] ?_
 refine dQ 2 [] rfl (Ql rfl Zy rfl (λw1 h1=>QeC w1 re 4 hre (by decide))) (dFa 3 ?_)
 refine dLd 4 [] ?_
 refine dQ 5 [] rfl (Ql rfl Zy rfl (λw1 h1=>QeC w1 sq 2 hsq (by decide))) (dV 6 rfl (Qm rfl rfl rfl (by(try simp only[List.length_append,List.length_cons,List.length_nil,List.length_replicate,List.length_take,List.length_drop,QH]);omega)) (dP 7 ?_))
 refine dNi ?_
 exact rV
theorem c46(w:World)(e:DEnt)(hnm:e.nm.length<=1000000)(hot:e.ot.length<=1000000)(hre:0<=e.re/\e.re<=9223372036854775807)(hsq:0<=e.sq/\e.sq<=9223372036854775807)(hsp:0<=e.sp/\e.sp<=9223372036854775807)(hfl:0<=e.fl/\e.fl<=9223372036854775807)(htm:0<=e.tm/\e.tm<=9223372036854775807)(hal:0<=e.al/\e.al<=9223372036854775807)(hsz:0<=e.sz/\e.sz<=9223372036854775807):CR 46 #[.agg #[.string (bs e.nm),.int .i64 e.sp,.string (bs e.ot),.int .i64 e.re,.int .i64 e.sq,.int .i64 e.fl,.int .i64 e.tm,.int .i64 e.al,.int .i64 e.sz]] w (.agg #[.string (bs (Qa6 e).key),.string (bs (Qa6 e).val)]):=by
 refine eN1 Tryz.func46 Tryz.ntmps46 ?_
 refine aU2 ?_
 refine oBx λb1 _=>?_
 refine oAl (λb2 _=>?_) Qan
 refine aU5 ?_
 refine oAl (λb3 _=>?_) Qkg
 refine aU3 ?_
 refine Xl [29] mixed ?_
 refine dFa 0 ?_
 refine dLd 1 [[]] ?_
 refine dFa 2 ?_
 refine dLn 3 [[]] ?_
 refine dQ 4 [[]] rfl (Ql rfl Qko rfl (λw1 h1=>c106 w1 e.re e.sq hre hsq)) (dFa 5 ?_)
 refine dLd 6 [[]] ?_
 refine dQ 7 [[]] rfl (Ql rfl Zy rfl (λw1 h1=>QeC w1 e.sp 1 hsp (by decide))) (dV 8 rfl (Qm rfl rfl rfl (by(try simp only[List.length_append,List.length_cons,List.length_nil,List.length_replicate,List.length_take,List.length_drop,QH]);omega)) (dFa 9 ?_))
 refine dLd 10 [[]] ?_
 refine dQ 11 [[]] rfl (Ql rfl Zy rfl (λw1 h1=>QeC w1 e.fl 1 hfl (by decide))) (dV 12 rfl (Qm rfl rfl rfl (by(try simp only[List.length_append,List.length_cons,List.length_nil,List.length_replicate,List.length_take,List.length_drop,QH]);omega)) (dFa 13 ?_))
 refine dLd 14 [[]] ?_
 refine dQ 15 [[]] rfl (Ql rfl Zy rfl (λw1 h1=>QeC w1 e.tm 4 htm (by decide))) (dV 16 rfl (Qm rfl rfl rfl (by(try simp only[List.length_append,List.length_cons,List.length_nil,List.length_replicate,List.length_take,List.length_drop,QH]);omega)) (dFa 17 ?_))
 refine dLd 18 [[]] ?_
 refine dQ 19 [[]] rfl (Ql rfl Zy rfl (λw1 h1=>QeC w1 e.al 4 hal (by decide))) (dV 20 rfl (Qm rfl rfl rfl (by(try simp only[List.length_append,List.length_cons,List.length_nil,List.length_replicate,List.length_take,List.length_drop,QH]);omega)) (dFa 21 ?_))
 refine dLd 22 [[]] ?_
 refine dQ 23 [[]] rfl (Ql rfl Zy rfl (λw1 h1=>QeC w1 e.sz 4 hsz (by decide))) (dV 24 rfl (Qm rfl rfl rfl (by(try simp only[List.length_append,List.length_cons,List.length_nil,List.length_replicate,List.length_take,List.length_drop,QH]);omega)) (dFa 25 ?_))
 refine dLd 26 [[]] ?_
 refine dV 27 rfl (Qm rfl rfl rfl (by(try simp only[List.length_append,List.length_cons,List.length_nil,List.length_replicate,List.length_take,List.length_drop,QH]);omega)) (dV 28 rfl (QO (cs:=[_,_]) rfl rfl QgZ Qan rfl) (dSt 29 ?_ (hl:=(by simp only[Qd,List.length_set,List.length_cons,List.length_nil,List.length_map];omega))))
 refine dTu [] ?_
 refine dNi ?_
 exact Qn (rs:=[.cell 2 84]) rfl (.cell rfl Qbw aPk rfl (.nil)) (λw' h'=>⟨by rfl,h'.below⟩)
theorem Qjx(w:World)(s:List UInt8)(at' c:Nat)(hm:s.length<=1000000000)(hc:c<=7)(hac:at'+c<=s.length):CR 105 #[.string (bs s),.int .i64 (at':Int),.int .i64 (c:Int)] w (.int .i64 (Qy s at' c)):=by
 refine eN3 Tryz.func105 Tryz.ntmps105 ?_
 refine aT13 ?_
 refine aU3 ?_
 refine QU (α:=Nat) [7,8,11,12,13,14,15,16,17,18,19,20,21,22,23] (λj=>[(8,.int .i64 ((j:Int)-1)),(7,.int .i64 (Qy s (at'+j) (c-j)))]) (λ_=>_) (λj=>j<=c) (λj=>j) c (Nat.le_refl _) (by rw[Nat.sub_self];exact aSx) (λw h=>h) (λj hj=>?_)
 refine aU6 ?_
 refine sCd rfl (λh1=>?_) λh1=>?_
 ·obtain⟨i,rfl⟩:∃i,j=i+1:=⟨j-1,om⟩
  have hst:Qy s (at'+i) (c-i)=at1 s (at'+i)+256*Qy s (at'+(i+1)) (c-(i+1)):=by rw[show c-i=(c-(i+1))+1 by omega,Qy];rfl
  have hb1:=QeO s (at'+i)
  have hn6:=Qkh s (at'+(i+1)) (k:=c-(i+1)) om
  have hb9:=(s.getD (at'+i) 0).toNat_lt
  refine aT6 ?_
  refine aT4 ?_
  refine Qi (show _=Value.int .i64 ((at'+i:Nat):Int)from by congr 1;omega) (o_p (Qo rfl rfl rfl Tryz.underlying9 (at'+i) om om) rfl ?_)
  refine o_p (QZ rfl rfl Qdu Qcg) rfl ?_
  try refine oWr ?_
  refine aT ?_
  refine Qi (show _=Value.int .i64 (Qy s (at'+i) (c-i))from by rw[hst];congr 1;show _*256+at1 s (at'+i)=_;omega) (aT6 ?_)
  refine aU2 ?_
  exact QN i om om (by rw[show((i:Int)-1)=((i+1:Nat):Int)-1-1 from om];exact aSx) (λw h=>h)
 obtain rfl:j=0:=om
 rw[Nat.add_zero,Nat.sub_zero]
 refine QE rfl ?_
 refine aU5 ?_
 exact rV
theorem c104(w:World)(s:List UInt8)(hl:6<=s.length)(hm:s.length<=1000000):CR 104 #[.string (bs s)] w (.agg #[.int .i64 (Qy s 0 4),.int .i64 (Qy s 4 2)]):=by
 refine eN1 Tryz.func104 Tryz.ntmps104 ?_
 refine aU2 ?_
 refine oAl (λb1 _=>?_) Qhf
 refine aU4 ?_
 refine oCq rfl (λw1 h1=>Qjx w1 s 0 4 om om om) (aU ?_)
 refine oCq rfl (λw1 h1=>Qjx w1 s 4 2 om om om) (o_p (QO (cs:=[_,_]) rfl rfl Qmy Qhf rfl) rfl (aU2 ?_))
 exact Qn (rs:=[.cell 2 26]) rfl (.cell rfl QkG aPk rfl (.nil)) (λw' h'=>⟨by rfl,h'.below⟩)
theorem c43(w:World)(x:TEnt)(hk:x.key.length<=1000000)(hv:x.val.length<=1000000):CR 43 #[.agg #[.string (bs x.key),.string (bs x.val)]] w (.tuple #[.agg #[.string (bs (dcD x).nm),.int .i64 (dcD x).sp,.string (bs (dcD x).ot),.int .i64 (dcD x).re,.int .i64 (dcD x).sq,.int .i64 (dcD x).fl,.int .i64 (dcD x).tm,.int .i64 (dcD x).al,.int .i64 (dcD x).sz],.int .i64 (dcE x)]):=by
 refine eN1 Tryz.func43 Tryz.ntmps43 ?_
 refine aU2 ?_
 refine oBx λb1 _=>?_
 refine oAl (λb2 _=>?_) ZT
 refine Z2 ?_
 refine o_p (Qf rfl rfl Tryz.underlying9) rfl (aU2 ?_)
 refine sCd rfl (λh3=>?_) λh3=>?_
 ·have hl20:x.val.length<20:=by have hq:=h3;omega
  have hE:dcE x=3:=if_pos hl20
  have hD:dcD x=noE:=if_neg (by rw[hE];decide)
  refine aU2 ?_
  refine o_p (QO (cs:=[_,_,_,_,_,_,_,_,_]) rfl rfl QdQ ZT rfl) rfl (aU3 ?_)
  exact Qn (rs:=[.cell 2 66,.tmp 3]) rfl (.cell rfl QaS aPk rfl (.tmp rfl (.nil))) (λw' h'=>⟨by rw[hD,hE];rfl,h'.below⟩)
 have hl20:¬x.val.length<20:=by have hq:=h3;omega
 have hE:dcE x=Xc (Qv x):=if_neg hl20
 refine aU2 ?_
 refine Xl [11] mixed ?_
 refine dFa 0 ?_
 refine dLd 1 [[]] ?_
 refine dP 2 ?_
 refine dQ 3 [[]] rfl (Ql rfl QiY rfl (λw1 h1=>c104 w1 x.val om hv)) (dP 4 ?_)
 refine dV 5 rfl (Qo rfl rfl rfl Tryz.underlying9 (6) om om) ?_
 refine dV 6 rfl (QZ rfl rfl Qdu Qcg) ?_
 try refine dWr ?_
 refine Xg (show _=Value.int .i64 (Qy x.val 6 1)from Qj5 _ _) (dP 7 ?_)
 refine dV 8 rfl (Xj 20 rfl rfl rfl Tryz.underlying9 rfl om) (dV 9 rfl (QO (cs:=[_,_,_,_,_,_,_,_,_]) rfl rfl QdQ ZT rfl) (dH 10 rfl (Qa9 rfl ZT) (λb4 _=>dBa ?_)))
 refine dSt 11 ?_ (hl:=(by simp only[Qd,List.length_set,List.length_cons,List.length_nil,List.length_map];omega))
 refine dTu [] ?_
 refine dNi ?_
 refine aU ?_
 refine Xl [11] mixed ?_
 refine dP 0 ?_
 refine dV 1 rfl (Qo rfl rfl rfl Tryz.underlying9 (7) om om) ?_
 refine dV 2 rfl (QZ rfl rfl Qdu Qcg) ?_
 try refine dWr ?_
 refine Xg (show _=Value.int .i64 (Qy x.val 7 1)from Qj5 _ _) (dP 3 ?_)
 refine dQ 4 [[]] rfl (Ql rfl QeX rfl (λw1 h1=>Qjx w1 x.val 8 4 om om om)) (dP 5 ?_)
 refine dQ 6 [[]] rfl (Ql rfl QeX rfl (λw1 h1=>Qjx w1 x.val 12 4 om om om)) (dP 7 ?_)
 refine dQ 8 [[]] rfl (Ql rfl QeX rfl (λw1 h1=>Qjx w1 x.val 16 4 om om om)) (dV 9 rfl (QO (cs:=[_,_,_,_]) rfl rfl Qob Qkg rfl) (dFa 10 ?_))
 refine dSt 11 ?_ (hl:=(by simp only[Qd,List.length_set,List.length_cons,List.length_nil,List.length_map];omega))
 refine dTu [] ?_
 refine dNi ?_
 refine aU2 ?_
 refine Qj (L':=[(2,_),(3,_),(5,_)]) aSx (λ_ h=>h) ?_
 refine aU2 ?_
 refine Qi (show _=.agg #[.string (bs (Qv x).nm),.int .i64 (Qv x).sp,.string (bs (Qv x).ot),.int .i64 (Qv x).re,.int .i64 (Qv x).sq,.int .i64 (Qv x).fl,.int .i64 (Qv x).tm,.int .i64 (Qv x).al,.int .i64 (Qv x).sz]from rfl) (Qax (C':=HS w [] [.blk b4 66 9 [.string (bs (Qv x).nm),.int .i64 (Qv x).sp,.string (bs (Qv x).ot),.int .i64 (Qv x).re,.int .i64 (Qv x).sq,.int .i64 (Qv x).fl,.int .i64 (Qv x).tm,.int .i64 (Qv x).al,.int .i64 (Qv x).sz],.blk b2 66 9 [.string (bs []),.int .i64 0,.string (bs []),.int .i64 0,.int .i64 0,.int .i64 0,.int .i64 0,.int .i64 0,.int .i64 0]]) (λw h=>h.ent aEt) (oCq rfl (λw1 h1=>c45 w1 (Qv x) hk (by show(x.val.drop 20).length<=_;rw[List.length_drop];omega)) (aU7 ?_)))
 refine sCd rfl (λh5=>?_) λh5=>?_
 ·have hz:¬Xc (Qv x)=0:=by have hq:=h5;exact hq
  have hD:dcD x=noE:=if_neg (by rw[hE];exact hz)
  refine aU2 ?_
  refine o_p (QO (cs:=[_,_,_,_,_,_,_,_,_]) rfl rfl QdQ ZT rfl) rfl (aU4 ?_)
  exact Qn (rs:=[.cell 2 66,.tmp 3]) rfl (.cell rfl QaS aPk rfl (.tmp rfl (.nil))) (λw' h'=>⟨by rw[hD,hE];rfl,h'.below⟩)
 have hz:Xc (Qv x)=0:=by have hq:=h5;simpa using hq
 have hD:dcD x=Qv x:=if_pos (by rw[hE];exact hz)
 refine aU4 ?_
 refine Qi (show _=.agg #[.string (bs (Qv x).nm),.int .i64 (Qv x).sp,.string (bs (Qv x).ot),.int .i64 (Qv x).re,.int .i64 (Qv x).sq,.int .i64 (Qv x).fl,.int .i64 (Qv x).tm,.int .i64 (Qv x).al,.int .i64 (Qv x).sz]from rfl) (aU3 ?_)
 exact Qn (rs:=[.cell 2 66,.tmp 3]) rfl (.cell rfl QaS aPk rfl (.tmp rfl (.nil))) (λw' h'=>⟨by rw[hD,hE,hz];rfl,h'.below⟩)
theorem c47(w:World)(l:DLnk)(hnm:l.nm.length<=1000000):CR 47 #[.agg #[.int .i64 l.re,.int .i64 l.sq,.int .i64 l.sp,.string (bs l.nm)]] w (.int .i64 (Xh l)):=by
 refine eN1 Tryz.func47 Tryz.ntmps47 ?_
 refine aU2 ?_
 refine oBx λb1 _=>?_
 refine aU7 ?_
 refine oCq rfl (λw1 h1=>c35 w1 _ _) (aU7 ?_)
 refine sCd rfl (λh2=>?_) λh2=>?_
 ·have h1:¬Qca l.re l.sq=0:=by have hq:=h2;exact hq
  refine aU5 ?_
  exact rV (h:=by rw[Xh,Qgh h1];rfl)
 have h1:Qca l.re l.sq=0:=by have hq:=h2;simpa using hq
 refine aU6 ?_
 refine oCq rfl (λw1 h1=>c27 w1 _ _ _) (aU2 ?_)
 refine sCd rfl (λh3=>?_) λh3=>?_
 ·have h2:Qcc l.sp=2:=by have hq:=h3;simp only[Qcc,okE];grind
  refine aU4 ?_
  exact rV (h:=by rw[Xh,XE h1,h2];rfl)
 have h2:Qcc l.sp=0:=by have hq:=h3;simp only[Qcc,okE];grind
 refine aU5 ?_
 refine oCq rfl (λw1 hh=>c16 w1 l.nm om) (aU2 ?_)
 exact rV (h:=by rw[Xh,XE h1,XE h2];rfl)
theorem c48(w:World)(l:DLnk)(hnm:l.nm.length<=1000000)(hre:0<=l.re/\l.re<=9223372036854775807)(hsq:0<=l.sq/\l.sq<=9223372036854775807)(hsp:0<=l.sp/\l.sp<=9223372036854775807):CR 48 #[.agg #[.int .i64 l.re,.int .i64 l.sq,.int .i64 l.sp,.string (bs l.nm)]] w (.string (bs (Qlf l))):=by
 refine eN1 Tryz.func48 Tryz.ntmps48 ?_
 refine aU2 ?_
 refine oBx λb1 _=>?_
 refine aU3 ?_
 refine Xl [] mixed ?_
 refine dFa 0 ?_
 refine dLn 1 [] ?_
 refine dQ 2 [] rfl (Ql rfl Qko rfl (λw1 h1=>c106 w1 l.re l.sq hre hsq)) (dFa 3 ?_)
 refine dLd 4 [] ?_
 refine dQ 5 [] rfl (Ql rfl Zy rfl (λw1 h1=>QeC w1 l.sp 1 hsp (by decide))) (dV 6 rfl (Qm rfl rfl rfl (by(try simp only[List.length_append,List.length_cons,List.length_nil,List.length_replicate,List.length_take,List.length_drop,QH]);omega)) (dFa 7 ?_))
 refine dLd 8 [] ?_
 refine dV 9 rfl (Qf rfl rfl Tryz.underlying9) (dQ 10 [] rfl (Ql rfl Zy rfl (λw1 h1=>QeC w1 (l.nm.length:Int) 1 om (by decide))) (dV 11 rfl (Qm rfl rfl rfl (by(try simp only[List.length_append,List.length_cons,List.length_nil,List.length_replicate,List.length_take,List.length_drop,QH]);omega)) (dFa 12 ?_)))
 refine dLd 13 [] ?_
 refine dV 14 rfl (Qm rfl rfl rfl (by(try simp only[List.length_append,List.length_cons,List.length_nil,List.length_replicate,List.length_take,List.length_drop,QH]);omega)) (dP 15 ?_)
 refine dNi ?_
 exact rV
theorem c44(w:World)(s:List UInt8)(hv:s.length<=1000000):CR 44 #[.string (bs s)] w (.tuple #[.agg #[.int .i64 (dlD s).re,.int .i64 (dlD s).sq,.int .i64 (dlD s).sp,.string (bs (dlD s).nm)],.int .i64 (dlE s)]):=by
 have hb7:=(s.getD 7 0).toNat_lt
 have hd8:(s.drop 8).length=s.length-8:=List.length_drop
 have e7:Qy s 7 1=((s.getD 7 0).toNat:Int):=(Qfm s 7).symm
 refine eN1 Tryz.func44 Tryz.ntmps44 ?_
 refine aU2 ?_
 refine oAl (λb1 _=>?_) ZX
 refine aU6 ?_
 refine o_p (Qf rfl rfl Tryz.underlying9) rfl (aU2 ?_)
 refine oOr 8 9 17 rfl
  (λhg2 _=>by
   refine aU3 ?_
   refine o_p (Qf rfl rfl Tryz.underlying9) rfl (aU3 ?_)
   refine o_p (Qo rfl rfl rfl Tryz.underlying9 (7) om om) rfl ?_
   refine aU ?_
   refine o_p (QZ rfl rfl Qdu Qcg) rfl ?_
   try refine oWr ?_
   refine aT2 ?_
   refine aU2 ?_
   exact oJf 8 17)
  (λhg4 _=>by
   refine aU7 ?_
   exact oJt 8 17) ?_
 refine aU ?_
 refine sCd rfl (λh6=>?_) λh6=>?_
 ·have hE:dlE s=3:=by have hq:=h6;unfold dlE X3 okE;rw[e7];grind
  have hD:dlD s=noL:=if_neg (by rw[hE];decide)
  refine aU2 ?_
  refine o_p (QO (cs:=[_,_,_,_]) rfl rfl Qd5 ZX rfl) rfl (aU3 ?_)
  exact Qn (rs:=[.cell 2 82,.tmp 3]) rfl (.cell rfl Qdn aPk rfl (.tmp rfl (.nil))) (λw' h'=>⟨by rw[hD,hE];rfl,h'.below⟩)
 have hl8:¬s.length<8:=by have hq:=h6;grind
 have hE:dlE s=Xh (Yb s):=by have hq:=h6;unfold dlE;rw[e7,if_neg hl8,X3,okE];grind
 refine aU2 ?_
 refine Xl [9] mixed ?_
 refine dP 0 ?_
 refine dQ 1 [[]] rfl (Ql rfl QiY rfl (λw1 h1=>c104 w1 s om hv)) (dP 2 ?_)
 refine dV 3 rfl (Qo rfl rfl rfl Tryz.underlying9 (6) om om) ?_
 refine dV 4 rfl (QZ rfl rfl Qdu Qcg) ?_
 try refine dWr ?_
 refine Xg (show _=Value.int .i64 (Qy s 6 1)from Qj5 _ _) (dP 5 ?_)
 refine dV 6 rfl (Xj 8 rfl rfl rfl Tryz.underlying9 rfl om) (dV 7 rfl (QO (cs:=[_,_,_,_]) rfl rfl Qd5 ZX rfl) (dH 8 rfl (Qa9 rfl ZX) (λb7 _=>dBa ?_)))
 refine dSt 9 ?_ (hl:=(by simp only[Qd,List.length_set,List.length_cons,List.length_nil,List.length_map];omega))
 refine dTu [] ?_
 refine dNi ?_
 refine aU4 ?_
 refine Qi (show _=.agg #[.int .i64 (Yb s).re,.int .i64 (Yb s).sq,.int .i64 (Yb s).sp,.string (bs (Yb s).nm)]from rfl) (oCq rfl (λw1 h1=>c47 w1 (Yb s) (by show(s.drop 8).length<=_;rw[List.length_drop];omega)) (aU7 ?_))
 refine sCd rfl (λh8=>?_) λh8=>?_
 ·have hz:¬Xh (Yb s)=0:=by have hq:=h8;exact hq
  have hD:dlD s=noL:=if_neg (by rw[hE];exact hz)
  refine aU2 ?_
  refine o_p (QO (cs:=[_,_,_,_]) rfl rfl Qd5 ZX rfl) rfl (aU4 ?_)
  exact Qn (rs:=[.cell 2 82,.tmp 3]) rfl (.cell rfl Qdn aPk rfl (.tmp rfl (.nil))) (λw' h'=>⟨by rw[hD,hE];rfl,h'.below⟩)
 have hz:Xh (Yb s)=0:=by have hq:=h8;simpa using hq
 have hD:dlD s=Yb s:=if_pos (by rw[hE];exact hz)
 refine aU4 ?_
 refine Qi (show _=.agg #[.int .i64 (Yb s).re,.int .i64 (Yb s).sq,.int .i64 (Yb s).sp,.string (bs (Yb s).nm)]from rfl) (aU3 ?_)
 exact Qn (rs:=[.cell 2 82,.tmp 3]) rfl (.cell rfl Qdn aPk rfl (.tmp rfl (.nil))) (λw' h'=>⟨by rw[hD,hE,hz];rfl,h'.below⟩)
end Go.Proofs
namespace Gx
namespace Ev
open Go Go.RowKit
structure Rho where
 f:Nat->Option (Nat×Nat)
 ex:List HA
instance:CoeFun Rho (λ_=>Nat->Option (Nat×Nat)):=⟨Rho.f⟩
def Rho.le(ρ ρ':Rho):Prop:=(∀n x,ρ n=some x->ρ' n=some x)/\ρ'.ex=ρ.ex
theorem Rho.le_refl(ρ:Rho):ρ.le ρ:=⟨λ_ _ h=>h,rfl⟩
theorem Rho.le_trans{a b c:Rho}(h1:a.le b)(h2:b.le c):a.le c:=⟨λn x h=>h2.1 n x (h1.1 n x h),h2.2.trans h1.2⟩
def Q8(ρ:Rho):Value->Option Value
 | .pointer (some ⟨n,i,none⟩)=>match ρ n with
  | some x=>some (.pointer (some ⟨x.1,i,none⟩))
  | none=>none
 | .pointer (some ⟨n,i,some q⟩)=>match ρ n with
  | some x=>some (.slice (some ⟨x.1,if x.2=0 then i else i+q,none⟩) 0 x.2)
  | none=>none
 | .pointer none=>some (.pointer none)
 | .slice (some ⟨n,i,none⟩) l c=>match ρ n with
  | some x=>some (.slice (some ⟨x.1,i,none⟩) l (c+x.2))
  | none=>none
 | .slice (some ⟨n,i,some _⟩) l c=>match ρ n with
  | some x=>some (.slice (some ⟨x.1,i,none⟩) l c)
  | none=>none
 | .slice none l c=>some (.slice none l c)
 | .map (some r)=>match ρ r with
  | some x=>some (.map (some x.1))
  | none=>none
 | .map none=>some (.map none)
 | .int k n=>some (.int k n)
 | .bool b=>some (.bool b)
 | .string s=>some (.string s)
 | .nilFunc=>some .nilFunc
 | _=>none
def Qg{α β:Type}(f:α->Option β):List α->Option (List β)
 | []=>some []
 | a::l=>match f a,Qg f l with
  | some b,some m=>some (b::m)
  | _,_=>none
def QaI(ρ:Rho):Fn->Option Fn
 | .func f=>some (.func f)
 | .yield n=>match ρ n with
  | some x=>some (.yield x.1)
  | none=>none
 | _=>none
def Qt(ρ:Rho):Value->Option Value
 | .func f a b=>match QaI ρ f,Qg (Q8 ρ) a.toList,Qg (Q8 ρ) b.toList with
  | some f',some a',some b'=>some (.func f' a'.toArray b'.toArray)
  | _,_,_=>none
 | v=>Q8 ρ v
def QQ(ρ:Rho):Value->Option Value
 | .agg cs=>match Qg (Qt ρ) cs.toList with
  | some l=>some (.agg l.toArray)
  | none=>none
 | v=>Qt ρ v
def den(ρ:Rho):Value->Option Value
 | .tuple vs=>match Qg (QQ ρ) vs.toList with
  | some l=>some (.tuple l.toArray)
  | none=>none
 | v=>QQ ρ v
section
variable{α β:Type}
theorem QS{f g:α->Option β}(h:∀a b,f a=some b->g a=some b):∀{l:List α}{m:List β},Qg f l=some m->Qg g l=some m
 | [],m,e=>e
 | a::l,m,e=>by
  simp only[Qg]at e ⊢;split at e
  ·rename_i b m' h1 h2;rw[h a b h1,QS h h2];exact e
  ·cases e
theorem Qz{f:α->Option β}:∀{l:List α}{m:List β},Qg f l=some m->m.length=l.length
 | [],m,e=>by cases e;rfl
 | a::l,m,e=>by
  simp only[Qg]at e;split at e
  ·rename_i b m' h1 h2;injection e with e
   subst e;simp[Qz h2]
  ·cases e
theorem Zs{f:α->Option β}:∀{l:List α}{m:List β}{i:Nat}{a:α},Qg f l=some m->l[i]?=some a->∃b,m[i]?=some b/\f a=some b
 | [],m,i,a,e,h=>by simp at h
 | x::l,m,i,a,e,h=>by
  simp only[Qg]at e;split at e
  ·rename_i b m' h1 h2;injection e with e
   subst e;cases i with
   | zero=>simp at h;subst h;exact⟨b,rfl,h1⟩
   | succ i=>simpa using Zs h2 (by simpa using h)
  ·cases e
theorem Ya{f:α->Option β}:∀{l l2:List α}{m m2:List β},Qg f l=some m->Qg f l2=some m2->Qg f (l++l2)=some (m++m2)
 | [],l2,m,m2,e,e2=>by cases e;exact e2
 | a::l,l2,m,m2,e,e2=>by
  simp only[Qg]at e;split at e
  ·rename_i b m' h1 h2;injection e with e
   subst e
   simp_all[Qg,Ya]
  ·cases e
theorem QX{f:α->Option β}:∀{l:List α}{m:List β}(k:Nat),Qg f l=some m->Qg f (l.take k)=some (m.take k)
 | [],m,k,e=>by cases e;simp[Qg]
 | a::l,m,0,e=>by simp[Qg]
 | a::l,m,k+1,e=>by
  simp only[Qg]at e;split at e
  ·rename_i b m' h1 h2;injection e with e
   subst e
   simp_all[Qg,QX]
  ·cases e
theorem XK{f:α->Option β}:∀{l:List α}{m:List β}(k:Nat),Qg f l=some m->Qg f (l.drop k)=some (m.drop k)
 | [],m,k,e=>by cases e;simp[Qg]
 | a::l,m,0,e=>by simpa using e
 | a::l,m,k+1,e=>by
  simp only[Qg]at e;split at e
  ·rename_i b m' h1 h2;injection e with e
   subst e
   simpa using XK k h2
  ·cases e
theorem QfV{f:α->Option β}:∀{l:List α}{m:List β}(i:Nat){a:α}{b:β},Qg f l=some m->f a=some b->Qg f (l.set i a)=some (m.set i b)
 | [],m,i,a,b,e,h=>by cases e;simp[Qg]
 | x::l,m,i,a,b,e,h=>by
  simp only[Qg]at e;split at e
  ·rename_i y m' h1 h2;injection e with e
   subst e;cases i with
   | zero=>simp only[List.set_cons_zero,Qg,h,h2]
   | succ i=>simp only[List.set_cons_succ,Qg,h1,QfV i h2 h]
  ·cases e
theorem QfF{f:α->Option β}:∀{l:List α}{m:List β}{b:β},Qg f l=some m->b∈m->∃a∈l,f a=some b
 | [],m,b,e,h=>by cases e;cases h
 | x::l,m,b,e,h=>by
  simp only[Qg]at e;split at e
  ·rename_i y m' h1 h2;injection e with e
   subst e;rcases List.mem_cons.1 h with rfl|h
   ·grind
   ·obtain⟨a,ha,e⟩:=QfF h2 h
    grind
  ·cases e
end
theorem Qiw{ρ ρ':Rho}(h:ρ.le ρ')(v u:Value)(e:Q8 ρ v=some u):Q8 ρ' v=some u:=by
  unfold Q8 at e ⊢
  split at e<;>first
    | exact e
    | (split at e
       · rename_i x hx;rw[h.1 _ _ hx];exact e
       · cases e)
    | cases e
theorem QgG{ρ ρ':Rho}(h:ρ.le ρ')(f g:Fn)(e:QaI ρ f=some g):QaI ρ' f=some g:=by
  unfold QaI at e ⊢
  split at e<;>first
    | exact e
    | (split at e
       · rename_i x hx;rw[h.1 _ _ hx];exact e
       · cases e)
    | cases e
theorem QbF{ρ ρ':Rho}(h:ρ.le ρ')(v u:Value)(e:Qt ρ v=some u):Qt ρ' v=some u:=by
 unfold Qt at e ⊢
 grind[QgG,QS,Qiw]
theorem QhU{ρ ρ':Rho}(h:ρ.le ρ')(v u:Value)(e:QQ ρ v=some u):QQ ρ' v=some u:=by
 unfold QQ at e ⊢
 grind[QS,QbF]
theorem Zr{ρ ρ':Rho}(h:ρ.le ρ')(v u:Value)(e:den ρ v=some u):den ρ' v=some u:=by
 unfold den at e ⊢
 grind[QS,QhU]
abbrev Env:=Nat->Option Value
def SR(ρ:Rho)(L:Env)(L':Qa):Prop:=∀t v,L t=some v->∃u,Qa.get L' t=some u/\den ρ v=some u
theorem SR.mono{ρ ρ':Rho}(h:ρ.le ρ'){L:Env}{L':Qa}(e:SR ρ L L'):SR ρ' L L':=λt v hv=>by
 obtain⟨u,h1,h2⟩:=e t v hv
 grind[Zr]
theorem SR.get{ρ:Rho}{L:Env}{L':Qa}{t:Nat}{v:Value}(e:SR ρ L L')(h:L t=some v):∃u,Qa.get L' t=some u/\den ρ v=some u:=e t v h
theorem SR.put{ρ:Rho}{L L2:Env}{L':Qa}{d:Nat}{v u:Value}(e:SR ρ L L')(hu:den ρ v=some u)(h:∀t x,L2 t=some x->(t=d/\x=v)\/(t≠d/\L t=some x)):SR ρ L2 ((d,u)::L'):=λt x hx=>by
 simp only[Qa.get];rcases h t x hx with⟨rfl,rfl⟩|⟨h1,h2⟩
 ·simp_all
 ·have hb:Nat.beq d t=false:=by cases hb:Nat.beq d t<;>simp_all
  rw[hb];exact e t x h2
def Yt:Value->Bool
 | .int _ _| .bool _| .string _| .nilFunc| .pointer none| .slice none _ _| .map none=>true
 | _=>false
theorem YS{v:Value}(h:Yt v=true)(ρ:Rho):den ρ v=some v:=by
 unfold Yt at h;split at h<;>first|rfl|cases h
def opd(L:Env):Operand->Option Value
 | .tmp t=>L t
 | .const v=>bif Yt v then some v else none
 | .func f=>some (.func (.func f) #[] #[])
 | _=>none
theorem X9{ρ:Rho}{L:Env}{L':Qa}{x:Operand}{v:Value}(hs:SR ρ L L')(h:opd L x=some v):∃u,ev L' x=some u/\den ρ v=some u:=by
 unfold opd at h;split at h
 ·exact hs.get h
 ·rename_i c;cases hf:Yt c with
  | true=>
   rw[hf]at h;injection h with h
   subst h;exact⟨_,rfl,YS hf ρ⟩
  | false=>rw[hf]at h;cases h
 ·injection h with h
  subst h;exact⟨_,rfl,rfl⟩
 ·cases h
def Qa0(L:Env):List Operand->Option (List Value)
 | []=>some []
 | x::l=>match opd L x,Qa0 L l with
  | some v,some vs=>some (v::vs)
  | _,_=>none
theorem QbR{ρ:Rho}{L:Env}{L':Qa}(hs:SR ρ L L'):∀{l:List Operand}{vs:List Value},Qa0 L l=some vs->∃us,evs L' l=some us/\Qg (den ρ) vs=some us
 | [],vs,h=>by cases h;exact⟨[],rfl,rfl⟩
 | x::l,vs,h=>by
  simp only[Qa0]at h;split at h
  ·rename_i v vs' h1 h2;injection h with h
   subst h;obtain⟨u,e1,e2⟩:=X9 hs h1;obtain⟨us,e3,e4⟩:=QbR hs h2
   grind[evs,Qg]
  ·cases h
section
variable{ρ:Rho}{L:Env}{L':Qa}{x:Operand}
theorem Qc{v:Value}(hs:SR ρ L L')(h:opd L x=some v)(hf:Yt v=true):ev L' x=some v:=by grind[X9,YS]
theorem Qbe{n i:Nat}(hs:SR ρ L L')(h:opd L x=some (.pointer (some ⟨n,i,none⟩))):∃b d,ρ n=some (b,d)/\ev L' x=some (.pointer (some ⟨b,i,none⟩)):=by grind[X9,den,QQ,Qt,Q8]
theorem Xm{n i l c:Nat}(hs:SR ρ L L')(h:opd L x=some (.slice (some ⟨n,i,none⟩) l c)):∃b d,ρ n=some (b,d)/\ev L' x=some (.slice (some ⟨b,i,none⟩) l (c+d)):=by grind[X9,den,QQ,Qt,Q8]
theorem XF{n i l c q:Nat}(hs:SR ρ L L')(h:opd L x=some (.slice (some ⟨n,i,some q⟩) l c)):∃b d,ρ n=some (b,d)/\ev L' x=some (.slice (some ⟨b,i,none⟩) l c):=by grind[X9,den,QQ,Qt,Q8]
theorem Qdr{n i q:Nat}(hs:SR ρ L L')(h:opd L x=some (.pointer (some ⟨n,i,some q⟩))):∃b d j,ρ n=some (b,d)/\ev L' x=some (.slice (some ⟨b,j,none⟩) 0 d):=by grind[X9,den,QQ,Qt,Q8]
theorem QaA{cs:Array Value}(hs:SR ρ L L')(h:opd L x=some (.agg cs)):∃l,Qg (Qt ρ) cs.toList=some l/\ev L' x=some (.agg l.toArray):=by grind[X9,den,QQ]
theorem Qh1{vs:Array Value}(hs:SR ρ L L')(h:opd L x=some (.tuple vs)):∃l,Qg (QQ ρ) vs.toList=some l/\ev L' x=some (.tuple l.toArray):=by grind[X9,den]
end
end Ev
end Gx
namespace Gx
open Go Go.RowKit
section
variable{P:Program}{o:Oper}{L:Qa}{w0:World}{M:List Nat}{As As':List HA}
def Qk7(P:Program)(t te:TypeId):Prop:=P.underlying t=some (.pointer te)/\∃j,P.info? te=some j/\j.size≠0
theorem QlN{t te:TypeId}{n:Nat}{b:Bool}(h:P.underlying t=some (.pointer te))(h2:tsz P te=some (n,b))(hn:n≠0):Qk7 P t te:=by
 refine⟨h,?_⟩
 grind[tsz,hi]
theorem ptee{t te:TypeId}(h:P.underlying t=some (.pointer te)):P.underlying t=some (.pointer (P.pointee t)):=by
 rw[h];simp[Program.pointee,h]
theorem QdN{t t' te:TypeId}{x y:Operand}{p:Option Addr}(ho:o.op=.binOp .eql t x y t')(hx:ev L x=some (.pointer p))(hy:ev L y=some (.pointer none))(ht:Qk7 P t te):OpP P o L (.bool p.isNone):=by
 intro ρ w hρ;have hg:(eqGuard .eql t x y (.pointer p) (.pointer none)).run P w=.ok () w:=by unfold eqGuard;simp
 simp only[execOp,ho,hρ _ _ hx,hρ _ _ hy,Sem.run_bind,hg,run_eql_pointer_nil w t p (ptee ht.1),Result.andThen_ok,Sem.run_pure]
theorem Qe3{t t' te:TypeId}{x y:Operand}{p:Option Addr}(ho:o.op=.binOp .neq t x y t')(hx:ev L x=some (.pointer p))(hy:ev L y=some (.pointer none))(ht:Qk7 P t te):OpP P o L (.bool p.isSome):=by
 intro ρ w hρ;have hg:(eqGuard .neq t x y (.pointer p) (.pointer none)).run P w=.ok () w:=by unfold eqGuard;simp
 have h:=run_neq_pointer_nil w t p (ptee ht.1);simp only[execOp,ho,hρ _ _ hx,hρ _ _ hy,Sem.run_bind,hg,h,Result.andThen_ok,Sem.run_pure];cases p<;>rfl
end
end Gx
namespace Gx
namespace Ev
open Go Go.RowKit
def vN:Option Value->Option Nat
 | some (.int _ (.ofNat n))=>some n
 | _=>none
theorem X4{v:Option Value}{n:Nat}(h:vN v=some n):∃k,v=some (.int k (n:Int)):=by
 unfold vN at h;split at h<;>simp_all
def QJ(P:Program)(t:TypeId):Bool:=match P.underlying t with|some .string=>true|_=>false
def Qat(P:Program)(t:TypeId):Bool:=match P.underlying t with|some .bool=>true|_=>false
def QM(P:Program)(t:TypeId):Bool:=match P.underlying t with|some (.slice _)=>true|_=>false
theorem Xv{P:Program}{t:TypeId}(h:QJ P t=true):P.underlying t=some .string:=by grind[QJ]
theorem Qdh{P:Program}{t:TypeId}(h:Qat P t=true):P.underlying t=some .bool:=by grind[Qat]
theorem Q6{P:Program}{t:TypeId}(h:QM P t=true):∃e,P.underlying t=some (.slice e):=by grind[QM]
def QaM(P:Program)(t:TypeId):Bool:=match P.underlying t with
 | some (.pointer te)=>(match tsz P te with
  | some (n,_)=>!Nat.beq n 0
  | none=>false)
 | _=>false
theorem QbB{P:Program}{t:TypeId}(h:QaM P t=true):∃te,Qk7 P t te:=by
 unfold QaM at h;split at h
 ·rename_i te h1;split at h
  ·rename_i n b h2;exact⟨te,QlN h1 h2 λe=>by subst e;cases h⟩
  ·cases h
 ·cases h
def Qh4:List Nat->List Nat->Bool
 | [],[]=>true
 | a::l,b::m=>Nat.beq a b&&Qh4 l m
 | _,_=>false
theorem QhH:∀{l m:List Nat},Qh4 l m=true->l=m
 | [],[],_=>rfl
 | a::l,b::m,h=>by
  simp only[Qh4,Bool.and_eq_true]at h;rw[Nat.eq_of_beq_eq_true h.1,QhH h.2]
 | [],_::_,h=>by cases h
 | _::_,[],h=>by cases h
def Qk8(P:Program)(t:TypeId)(xs ys:List Value):Option Bool:=match Qgi P t with
 | some ks=>bif (Qh4 (xs.map Xb) ks&&Qh4 (ys.map Xb) ks)&&(xs.all Yt&&ys.all Yt)then eqC xs ys else none
 | none=>none
def Yv(P:Program)(op:BinOp)(t:TypeId)(a b:Value):Option Value:=match QL op a b with
 | some v=>some v
 | none=>match op,a,b with
  | .eql,.bool x,.bool y=>bif Qat P t then some (.bool (x==y))else none
  | .neq,.bool x,.bool y=>bif Qat P t then some (.bool (!(x==y)))else none
  | .eql,.slice p _ _,.slice none _ _=>bif QM P t then some (.bool p.isNone)else none
  | .neq,.slice p _ _,.slice none _ _=>bif QM P t then some (.bool (!p.isNone))else none
  | .eql,.agg ⟨xs⟩,.agg ⟨ys⟩=>(match Qk8 P t xs ys with
   | some b=>some (.bool b)
   | none=>none)
  | .neq,.agg ⟨xs⟩,.agg ⟨ys⟩=>(match Qk8 P t xs ys with
   | some b=>some (.bool (!b))
   | none=>none)
  | .eql,.pointer none,.pointer none=>bif QaM P t then some (.bool true)else none
  | .eql,.pointer (some ⟨_,_,none⟩),.pointer none=>bif QaM P t then some (.bool false)else none
  | .neq,.pointer none,.pointer none=>bif QaM P t then some (.bool false)else none
  | .neq,.pointer (some ⟨_,_,none⟩),.pointer none=>bif QaM P t then some (.bool true)else none
  | .quo,.int k x,.int k' y=>bif kEq k k'&& !decide (y=0)then some (.int k (k.wrap (x.tdiv y)))else none
  | .rem,.int k x,.int k' y=>bif kEq k k'&& !decide (y=0)then some (.int k (x.tmod y))else none
  | .shl,.int k x,.int _ (.ofNat y)=>some (.int k (k.wrap (x*2^(min y k.bits))))
  | .shr,.int k x,.int _ (.ofNat y)=>some (.int k (x/2^(min y k.bits)))
  | .add,.string ⟨⟨x⟩⟩,.string ⟨⟨y⟩⟩=>bif Nat.ble (x.length+y.length) 9223372036854775807 then some (.string (bs (x++y)))else none
  | _,_,_=>none
theorem QdY{P:Program}{t:TypeId}{xs ys:List Value}{b:Bool}(h:Qk8 P t xs ys=some b):∃ks,Qgi P t=some ks/\xs.map Xb=ks/\ys.map Xb=ks/\xs.all Yt=true/\ys.all Yt=true/\eqC xs ys=some b:=by grind[Qk8,ks,Qh4,Xb,Yt,QhH]
theorem QhO{ρ:Rho}{v:Value}(h:Yt v=true):Qt ρ v=some v:=by
 unfold Yt at h;split at h<;>first|rfl|cases h
theorem Qai{ρ:Rho}:∀{l:List Value},l.all Yt=true->Qg (Qt ρ) l=some l
 | [],_=>rfl
 | v::l,h=>by simp_all[Qg,QhO,Qai]
section
variable{P:Program}{o:Oper}{ρ:Rho}{L:Env}{L':Qa}
theorem QeM{op:BinOp}{a b v:Value}(h:QL op a b=some v):Yt a=true/\Yt b=true/\Yt v=true:=by
 unfold QL at h;split at h
 ·rename_i k x k' y;refine⟨rfl,rfl,?_⟩;cases hk:kEq k k' with
  | false=>rw[hk]at h;cases h
  | true=>
   rw[hk]at h;simp only[cond_true]at h;cases op<;>simp only[Q9,Option.some.injEq,reduceCtorEq]at h<;>first|(subst h;rfl)|cases h
 ·refine⟨rfl,rfl,?_⟩;cases op<;>simp only[Qbk,Option.some.injEq,reduceCtorEq]at h<;>first|(subst h;rfl)|cases h
 ·cases h
theorem QnY{op:BinOp}{t t':TypeId}{x y:Operand}{a b v:Value}(ho:o.op=.binOp op t x y t')(hs:SR ρ L L')(hx:opd L x=some a)(hy:opd L y=some b)(h:Yv P op t a b=some v):∃u,OpP P o L' u/\den ρ v=some u:=by
 unfold Yv at h;split at h
 ·grind[QeM,YQ,Zv,Qc,YS]
 ·split at h
  ·rename_i x' y' _;cases ht:Qat P t with
   | false=>rw[ht]at h;cases h
   | true=>
    rw[ht]at h;injection h with h
    subst h;exact⟨_,QcP ho (Qc hs hx rfl) (Qc hs hy rfl) (Qdh ht),rfl⟩
  ·rename_i x' y' _;cases ht:Qat P t with
   | false=>rw[ht]at h;cases h
   | true=>
    rw[ht]at h;injection h with h
    subst h;exact⟨_,Qdg ho (Qc hs hx rfl) (Qc hs hy rfl) (Qdh ht),rfl⟩
  ·rename_i p l1 c1 l2 c2 _;cases ht:QM P t with
   | false=>rw[ht]at h;cases h
   | true=>
    rw[ht]at h;injection h with h
    subst h;obtain⟨e,he⟩:=Q6 ht;have hy':=Qc hs hy rfl;rcases p with _|⟨n,i,_|q⟩
    ·exact⟨_,Yw ho (Qc hs hx rfl) hy' he,rfl⟩
    ·obtain⟨b9,d9,_,hx'⟩:=Xm hs hx;exact⟨_,Yw ho hx' hy' he,rfl⟩
    ·obtain⟨b9,d9,_,hx'⟩:=XF hs hx;exact⟨_,Yw ho hx' hy' he,rfl⟩
  ·rename_i p l1 c1 l2 c2 _;cases ht:QM P t with
   | false=>rw[ht]at h;cases h
   | true=>
    rw[ht]at h;injection h with h
    subst h;obtain⟨e,he⟩:=Q6 ht;have hy':=Qc hs hy rfl;rcases p with _|⟨n,i,_|q⟩
    ·exact⟨_,Yu ho (Qc hs hx rfl) hy' he,rfl⟩
    ·obtain⟨b9,d9,_,hx'⟩:=Xm hs hx;exact⟨_,Yu ho hx' hy' he,rfl⟩
    ·obtain⟨b9,d9,_,hx'⟩:=XF hs hx;exact⟨_,Yu ho hx' hy' he,rfl⟩
  ·rename_i xs ys _;split at h
   ·rename_i b hb;injection h with h
    subst h;obtain⟨ks,k1,k2,k3,k4,k5,k6⟩:=QdY hb;obtain⟨l1,m1,n1⟩:=QaA hs hx;obtain⟨l2,m2,n2⟩:=QaA hs hy;rw[Qai k4]at m1;rw[Qai k5]at m2;injection m1 with m1
    injection m2 with m2
    subst m1 m2;exact⟨_,QhY ho n1 n2 k1 k2 k3 k6,rfl⟩
   ·cases h
  ·rename_i xs ys _;split at h
   ·rename_i b hb;injection h with h
    subst h;obtain⟨ks,k1,k2,k3,k4,k5,k6⟩:=QdY hb;obtain⟨l1,m1,n1⟩:=QaA hs hx;obtain⟨l2,m2,n2⟩:=QaA hs hy;rw[Qai k4]at m1;rw[Qai k5]at m2;injection m1 with m1
    injection m2 with m2
    subst m1 m2;exact⟨_,YI ho n1 n2 k1 k2 k3 k6,rfl⟩
   ·cases h
  ·cases hk:QaM P t with
   | false=>rw[hk]at h;cases h
   | true=>
    rw[hk]at h;injection h with h
    subst h;obtain⟨te,ht⟩:=QbB hk;exact⟨_,QdN ho (Qc hs hx rfl) (Qc hs hy rfl) ht,rfl⟩
  ·cases hk:QaM P t with
   | false=>rw[hk]at h;cases h
   | true=>
    rw[hk]at h;injection h with h
    subst h;obtain⟨te,ht⟩:=QbB hk;obtain⟨b9,d9,_,hx'⟩:=Qbe hs hx;exact⟨_,QdN ho hx' (Qc hs hy rfl) ht,rfl⟩
  ·cases hk:QaM P t with
   | false=>rw[hk]at h;cases h
   | true=>
    rw[hk]at h;injection h with h
    subst h;obtain⟨te,ht⟩:=QbB hk;exact⟨_,Qe3 ho (Qc hs hx rfl) (Qc hs hy rfl) ht,rfl⟩
  ·cases hk:QaM P t with
   | false=>rw[hk]at h;cases h
   | true=>
    rw[hk]at h;injection h with h
    subst h;obtain⟨te,ht⟩:=QbB hk;obtain⟨b9,d9,_,hx'⟩:=Qbe hs hx;exact⟨_,Qe3 ho hx' (Qc hs hy rfl) ht,rfl⟩
  ·rename_i k x' k' y' _;cases hk:kEq k k'&& !decide (y'=0)with
   | false=>rw[hk]at h;cases h
   | true=>
    rw[hk]at h;injection h with h
    subst h;simp only[Bool.and_eq_true,Bool.not_eq_true',decide_eq_false_iff_not]at hk;obtain rfl:=Qag hk.1;exact⟨_,Qmi ho (Qc hs hx rfl) (Qc hs hy rfl) hk.2,rfl⟩
  ·rename_i k x' k' y' _;cases hk:kEq k k'&& !decide (y'=0)with
   | false=>rw[hk]at h;cases h
   | true=>
    rw[hk]at h;injection h with h
    subst h;simp only[Bool.and_eq_true,Bool.not_eq_true',decide_eq_false_iff_not]at hk;obtain rfl:=Qag hk.1;exact⟨_,Qmw ho (Qc hs hx rfl) (Qc hs hy rfl) hk.2,rfl⟩
  ·injection h with h
   subst h;exact⟨_,Qmf ho (Qc hs hx rfl) (Qc hs hy rfl) (Int.natCast_nonneg _) _ rfl,rfl⟩
  ·injection h with h
   subst h;exact⟨_,Qmj ho (Qc hs hx rfl) (Qc hs hy rfl) (Int.natCast_nonneg _) _ rfl,rfl⟩
  ·rename_i x' y' _;cases hk:Nat.ble (x'.length+y'.length) 9223372036854775807 with
   | false=>rw[hk]at h;cases h
   | true=>
    rw[hk]at h;injection h with h
    subst h;exact⟨_,Qm ho (Qc hs hx rfl) (Qc hs hy rfl) (Nat.le_of_ble_eq_true hk),rfl⟩
  ·cases h
end
end Ev
namespace Ev
open Go Go.RowKit
section
variable{ρ:Rho}
theorem QiJ{v u:Value}(h:Q8 ρ v=some u):Qt ρ v=some u:=by
 cases v<;>first|exact h|(simp[Q8]at h)
theorem QaW{v u:Value}(h:Qt ρ v=some u):QQ ρ v=some u:=by
 cases v<;>first|exact h|(simp[Qt,Q8]at h)
theorem Qb4{v u:Value}(h:QQ ρ v=some u):den ρ v=some u:=by
 cases v<;>first|exact h|(simp[QQ,Qt,Q8]at h)
def Qgn:Value->Bool
 | .agg _| .tuple _| .func _ _ _=>false
 | _=>true
theorem QkD{v u:Value}(h:Qgn v=true)(e:den ρ v=some u):Q8 ρ v=some u:=by
 cases v<;>first|exact e|(simp[Qgn]at h)
def lone:Value->Bool
 | .agg _| .tuple _=>false
 | _=>true
theorem Qkv{v u:Value}(h:lone v=true)(e:den ρ v=some u):Qt ρ v=some u:=by
 cases v<;>first|exact e|(simp[lone]at h)
theorem Qdc:∀{vs us:List Value},vs.all Qgn=true->Qg (den ρ) vs=some us->Qg (Q8 ρ) vs=some us
 | [],us,_,e=>by cases e;rfl
 | v::vs,us,h,e=>by
  simp only[List.all_cons,Bool.and_eq_true]at h;simp only[Qg]at e ⊢;split at e
  ·simp_all[QkD,Qdc]
  ·cases e
def Yz:Value->Bool
 | .tuple _=>false
 | _=>true
theorem QeS{v u:Value}(h:Yz v=true)(e:den ρ v=some u):Qg (Qt ρ) v.cells.toList=some u.cells.toList:=by
 have one:∀{v u:Value},v.cells= #[v]->Qt ρ v=some u->u.cells= #[u]->Qg (Qt ρ) v.cells.toList=some u.cells.toList:=λh1 h2 h3=>by
  rw[h1,h3];simp[Qg,h2]
 cases v with
 | tuple vs=>simp[Yz]at h
 | agg cs=>
  simp only[den,QQ]at e;split at e
  ·rename_i l hl;injection e with e
   subst e
   simpa[Value.cells]using hl
  ·cases e
 | _=>
  refine one rfl e ?_;simp only[den,QQ,Qt,Q8]at e
  first
   | (injection e with e;subst e;rfl)
   | (repeat' split at e)<;>first|(injection e with e;subst e;rfl)|cases e
end
section
variable{P:Program}{o:Oper}{ρ:Rho}{L:Env}{L':Qa}
def ZZ(P:Program)(src dst:TypeId):Value->Option Value
 | .int k0 n=>match tki P src,tki P dst with
  | some k1,some k=>bif kEq k0 k1 then some (.int k (k.wrap n))else none
  | _,_=>none
 | .string s=>bif QJ P src&&QJ P dst then some (.string s)else none
 | _=>none
theorem Qng{src dst:TypeId}{x:Operand}{a v:Value}(ho:o.op=.convert src dst x)(hs:SR ρ L L')(hx:opd L x=some a)(h:ZZ P src dst a=some v):∃u,OpP P o L' u/\den ρ v=some u:=by
 unfold ZZ at h;split at h
 ·rename_i k0 n;split at h
  ·rename_i k1 k h1 h2;cases hk:kEq k0 k1 with
   | false=>rw[hk]at h;cases h
   | true=>
    rw[hk]at h;injection h with h
    subst h;obtain rfl:=Qag hk;exact⟨_,QZ ho (Qc hs hx rfl) h1 h2,rfl⟩
  ·cases h
 ·cases hk:QJ P src&&QJ P dst with
  | false=>rw[hk]at h;cases h
  | true=>
   rw[hk]at h;injection h with h
   subst h;simp only[Bool.and_eq_true]at hk;exact⟨_,QgI ho (Qc hs hx rfl) (Xv hk.1) (Xv hk.2),rfl⟩
 ·cases h
theorem Qir{x:Operand}{i:Nat}{vs:Array Value}{v:Value}(ho:o.op=.extract x i)(hs:SR ρ L L')(hx:opd L x=some (.tuple vs))(h:vs.toList[i]?=some v):∃u,OpP P o L' u/\den ρ v=some u:=by
 obtain⟨l,h1,h2⟩:=Qh1 hs hx;obtain⟨u,h3,h4⟩:=Zs h1 h
 grind[YQ,Zv,Qb4]
theorem Qgr{f:FuncId}{first cap:Array Operand}{a b:List Value}(ho:o.op=.makeFunc (.func f) first cap)(hs:SR ρ L L')(h1:Qa0 L first.toList=some a)(h2:Qa0 L cap.toList=some b)(ha:a.all Qgn=true)(hb:b.all Qgn=true) :
  ∃u,OpP P o L' u/\den ρ (.func (.func f) a.toArray b.toArray)=some u:=by
 obtain⟨a',e1,e2⟩:=QbR hs h1;obtain⟨b',e3,e4⟩:=QbR hs h2;refine⟨.func (.func f) a'.toArray b'.toArray,YQ (by rw[ho];simp only[Zv,e1,e3]),?_⟩
 simp_all[den,QQ,Qt,QaI,Qdc,ha]
theorem Qny{c a b:Operand}{t:Bool}{x y:Value}(ho:o.op=.pick c a b)(hs:SR ρ L L')(hc:opd L c=some (.bool t))(ha:opd L a=some x)(hb:opd L b=some y):∃u,OpP P o L' u/\den ρ (if t then x else y)=some u:=by
 obtain⟨x',e1,e2⟩:=X9 hs ha;obtain⟨y',e3,e4⟩:=X9 hs hb;refine⟨if t then x' else y',YQ (by rw[ho];simp only[Zv,Qc hs hc rfl,e1,e3,Qfj]),?_⟩
 grind
theorem QjF{x:Operand}{v:Value}(ho:o.op=.move x\/o.op=.assign x)(hs:SR ρ L L')(hx:opd L x=some v):∃u,OpP P o L' u/\den ρ v=some u:=by
 obtain⟨u,h1,h2⟩:=X9 hs hx;refine⟨u,YQ ?_,h2⟩;rcases ho with ho|ho<;>rw[ho]<;>exact h1
theorem un_R{op:UnOp}{t:TypeId}{x:Operand}{a v:Value}(ho:o.op=.unOp op t x)(hs:SR ρ L L')(hx:opd L x=some a)(h:QbJ op a=some v):∃u,OpP P o L' u/\den ρ v=some u:=by
 have hf:Yt a=true/\Yt v=true:=by
  unfold QbJ at h;split at h<;>first|(injection h with h;subst h;exact⟨rfl,rfl⟩)|cases h
 grind[YQ,Zv,Qc,YS]
theorem QgE{x:Operand}{n i:Nat}(ho:o.op=.nilCheck x)(hs:SR ρ L L')(hx:opd L x=some (.pointer (some ⟨n,i,none⟩))):∃u,OpP P o L' u/\den ρ (.pointer (some ⟨n,i,none⟩))=some u:=by
 obtain⟨b,d,h1,h2⟩:=Qbe hs hx
 grind[YQ,Zv,den,QQ,Qt,Q8]
theorem Qga{x:Operand}{f:FuncId}{a b:Array Value}(ho:o.op=.nilCheck x)(hs:SR ρ L L')(hx:opd L x=some (.func (.func f) a b)):∃u,OpP P o L' u/\den ρ (.func (.func f) a b)=some u:=by
 obtain⟨u,h1,h2⟩:=X9 hs hx
 grind[den,QQ,Qt,QaI,YQ,Zv]
theorem QlQ{st f off ft n:Nat}{x:Operand}{cs:Array Value}{v:Value}{ag:Bool}(ho:o.op=.field st x f)(hs:SR ρ L L')(hx:opd L x=some (.agg cs))(hf:tfd P st f=some (off,ft))(hz:tsz P ft=some (n,ag))
  (h:(if ag then some (.agg (cut cs.toList off n).toArray)else cs.toList[off]?)=some v):∃u,OpP P o L' u/\den ρ v=some u:=by
 obtain⟨l,h1,h2⟩:=QaA hs hx;cases ag with
 | true=>
  simp only[if_true,Option.some.injEq]at h;subst h;refine⟨_,Qkc ho h2 hf hz,?_⟩
  grind[den,QQ,cut,QX,XK]
 | false=>
  have h':cs.toList[off]?=some v:=by simpa using h
  obtain⟨u,e1,e2⟩:=Zs h1 h'
  grind[QkJ,Qb4,QaW]
theorem QlX{t e sz len n:Nat}{x y:Operand}{cs:Array Value}{j:Nat}{v:Value}{ag:Bool}(ho:o.op=.index t x y)(hs:SR ρ L L')(hx:opd L x=some (.agg cs))(hy:vN (opd L y)=some j)(ht:tar P t=some (len,e,sz))(hz:tsz P e=some (n,ag))(hlt:j<len)
  (h:(if ag then some (.agg (cut cs.toList (j*sz) n).toArray)else cs.toList[j*sz]?)=some v):∃u,OpP P o L' u/\den ρ v=some u:=by
 obtain⟨l,h1,h2⟩:=QaA hs hx;obtain⟨k,hk⟩:=X4 hy;have hy':=Qc hs hk rfl;cases ag with
 | true=>
  simp only[if_true,Option.some.injEq]at h;subst h;refine⟨_,Qkz ho h2 hy' ht hz j rfl hlt,?_⟩
  grind[den,QQ,cut,QX,XK]
 | false=>
  have h':cs.toList[j*sz]?=some v:=by simpa using h
  obtain⟨u,e1,e2⟩:=Zs h1 h'
  grind[QkO,Qb4,QaW]
theorem Qj7{t:TypeId}{x y:Operand}{l:List UInt8}{j:Nat}(ho:o.op=.index t x y)(hs:SR ρ L L')(hx:opd L x=some (.string ⟨⟨l⟩⟩))(hy:vN (opd L y)=some j)(h:QJ P t=true)(hlt:j<l.length):∃u,OpP P o L' u/\den ρ (.int .u8 ((l.getD j 0).toNat:Int))=some u:=by
 obtain⟨k,hk⟩:=X4 hy;exact⟨_,Qo ho (Qc hs hx rfl) (Qc hs hk rfl) (Xv h) j rfl hlt,rfl⟩
def loN(L:Env):Option Operand->Option Nat
 | none=>some 0
 | some y=>vN (opd L y)
def hiN(L:Env)(n:Nat):Option Operand->Option Nat
 | none=>some n
 | some y=>vN (opd L y)
theorem QbX{lo:Option Operand}{a:Nat}(hs:SR ρ L L')(h:loN L lo=some a):Qi6 L' lo a:=by
 cases lo with
 | none=>injection h with h;exact h.symm
 | some y=>
  obtain⟨k,hk⟩:=X4 h;exact⟨k,_,Qc hs hk rfl,rfl⟩
theorem Qfq{hi:Option Operand}{n b:Nat}(hs:SR ρ L L')(h:hiN L n hi=some b):QlB L' hi n b:=by
 cases hi with
 | none=>injection h with h;exact h.symm
 | some y=>
  obtain⟨k,hk⟩:=X4 h;exact⟨k,_,Qc hs hk rfl,rfl⟩
theorem Qjo{t:TypeId}{x:Operand}{l:List UInt8}{lo hi:Option Operand}{a b:Nat}(ho:o.op=.slice t x lo hi none)(hs:SR ρ L L')(hx:opd L x=some (.string ⟨⟨l⟩⟩))(h:QJ P t=true)(hlo:loN L lo=some a)(hhi:hiN L l.length hi=some b)(hab:a<=b)(hbl:b<=l.length) :
  ∃u,OpP P o L' u/\den ρ (.string (bs ((l.take b).drop a)))=some u:=
 ⟨_,Qah lo hi a b ho (Qc hs hx rfl) (Xv h) (QbX hs hlo) (Qfq hs hhi) hab hbl,rfl⟩
theorem QeW{b o cap i sz:Nat}(h:i<cap):YA (some ⟨b,o,none⟩) cap i sz=some ⟨b,o+i*sz,none⟩:=by
 unfold YA;rw[if_neg om];simp only[Option.map_some,Addr.add]
 grind
theorem QmW{b o cap sz:Nat}:YA (some ⟨b,o,none⟩) cap 0 sz=some ⟨b,o,none⟩:=by
 unfold YA;split
 ·rfl
 ·simp[Addr.add]
theorem Ql5{t e sz by' n of l c:Nat}{x:Operand}{lo hi:Option Operand}{i j:Nat}(ho:o.op=.slice t x lo hi none)(hs:SR ρ L L')(hx:opd L x=some (.slice (some ⟨n,of,none⟩) l c))(ht:tsl P t=some (e,sz,by'))(hlo:loN L lo=some i)(hhi:hiN L l hi=some j)(hij:i<=j)(hj:j<=c)(h:i=0\/i<c) :
  ∃u,OpP P o L' u/\den ρ (.slice (some ⟨n,of+i*sz,none⟩) (j-i) (c-i))=some u:=by
 obtain⟨b,d,h1,h2⟩:=Xm hs hx;have hp:=QC lo hi i j ho h2 ht (QbX hs hlo) (Qfq hs hhi) hij om;have e:YA (some ⟨b,of,none⟩) (c+d) i sz=some ⟨b,of+i*sz,none⟩:=by grind[QmW,QeW]
 grind[den,QQ,Qt,Q8]
theorem QiO{t e sz by' n of l c:Nat}{x:Operand}{lo hi:Option Operand}(ho:o.op=.slice t x lo hi none)(hs:SR ρ L L')(hx:opd L x=some (.slice (some ⟨n,of,none⟩) l c))(ht:tsl P t=some (e,sz,by'))(hlo:loN L lo=some c)(hhi:hiN L l hi=some c) :
  ∃u,OpP P o L' u/\den ρ (.pointer (some ⟨n,of,some (c*sz)⟩))=some u:=by
 obtain⟨b,d,h1,h2⟩:=Xm hs hx;have hp:=QC lo hi c c ho h2 ht (QbX hs hlo) (Qfq hs hhi) (Nat.le_refl _) om
 grind[YA,QeW,den,QQ,Qt,Q8]
theorem QkT{t e sz by' n of l c q:Nat}{x:Operand}{lo hi:Option Operand}{i j:Nat}(ho:o.op=.slice t x lo hi none)(hs:SR ρ L L')(hx:opd L x=some (.slice (some ⟨n,of,some q⟩) l c))(ht:tsl P t=some (e,sz,by'))(hlo:loN L lo=some i)(hhi:hiN L l hi=some j)(hij:i<=j)(hj:j<=c) :
  ∃u,OpP P o L' u/\den ρ (.slice (some ⟨n,(if c=i then of else of+i*sz),some q⟩) (j-i) (c-i))=some u:=by
 obtain⟨b,d,h1,h2⟩:=XF hs hx;have hp:=QC lo hi i j ho h2 ht (QbX hs hlo) (Qfq hs hhi) hij hj
 grind[YA,QeW,den,QQ,Qt,Q8]
theorem Qji{t e sz by' l c:Nat}{x:Operand}{lo hi:Option Operand}{i j:Nat}(ho:o.op=.slice t x lo hi none)(hs:SR ρ L L')(hx:opd L x=some (.slice none l c))(ht:tsl P t=some (e,sz,by'))(hlo:loN L lo=some i)(hhi:hiN L l hi=some j)(hij:i<=j)(hj:j<=c) :
  ∃u,OpP P o L' u/\den ρ (.slice none (j-i) (c-i))=some u:=by
 have hp:=QC lo hi i j ho (Qc hs hx rfl) ht (QbX hs hlo) (Qfq hs hhi) hij hj;have e:YA none c i sz=none:=by unfold YA;split<;>rfl
 rw[e]at hp;exact⟨_,hp,rfl⟩
theorem QcD{t e sz by':Nat}{x hi mx:Operand}{a:Option Addr}{n cap:Nat}(lo:Option Operand){L:Qa}{k2 k3:IntKind}(i j m:Nat)(ho:o.op=.slice t x lo (some hi) (some mx))(hx:ev L x=some (.slice a n cap))(hl:Qi6 L lo i)(hh:ev L hi=some (.int k2 (j:Int)))(hm:ev L mx=some (.int k3 (m:Int)))(ht:tsl P t=some (e,sz,by'))(hij:i<=j)(hjm:j<=m)(hmc:m<=cap) :
  OpP P o L (.slice (YA a m i sz) (j-i) (m-i)):=by
 cases lo with
 | some lo=>
  obtain⟨k1,i1,h1,h2⟩:=hl
  grind[QkI]
 | none=>
  have hi0:i=0:=hl;subst hi0;intro ρ w hρ;obtain⟨hu,inf,h1,h2,_⟩:=QK ht;simp[execOp,ho,hρ _ _ hx,hρ _ _ hh,hρ _ _ hm,Instr.sliceAt,Instr.slice,Instr.sliceBounds,Instr.sliceBound,asIntOf,run_underlying hu,hjm,hmc,Go.sizeOf,typeInfo,h1,h2,YA]
theorem QiD{b of m i sz:Nat}:YA (some ⟨b,of,none⟩) m i sz=some ⟨b,(if m=i then of else of+i*sz),none⟩:=by
 by_cases h:m=i
 ·grind[YA]
 ·rw[if_neg h];unfold YA;rw[if_neg h];simp only[Option.map_some,Addr.add]
  grind
theorem Qkq{t e sz by' n of l c:Nat}{q:Option Nat}{x hi mx:Operand}{lo:Option Operand}{i j m:Nat}(ho:o.op=.slice t x lo (some hi) (some mx))(hs:SR ρ L L')(hx:opd L x=some (.slice (some ⟨n,of,q⟩) l c))(ht:tsl P t=some (e,sz,by'))(hlo:loN L lo=some i)(hhi:vN (opd L hi)=some j)(hmx:vN (opd L mx)=some m)(hij:i<=j)(hjm:j<=m)(hmc:m<=c) :
  ∃u,OpP P o L' u/\den ρ (.slice (some ⟨n,(if m=i then of else of+i*sz),some 0⟩) (j-i) (m-i))=some u:=by
 obtain⟨k2,hk2⟩:=X4 hhi;obtain⟨k3,hk3⟩:=X4 hmx;have g2:=Qc hs hk2 rfl;have g3:=Qc hs hk3 rfl;cases q with
 | none=>
  obtain⟨b,d,h1,h2⟩:=Xm hs hx;have hp:=QcD lo i j m ho h2 (QbX hs hlo) g2 g3 ht hij hjm om
  grind[QiD,den,QQ,Qt,Q8]
 | some q=>
  obtain⟨b,d,h1,h2⟩:=XF hs hx;have hp:=QcD lo i j m ho h2 (QbX hs hlo) g2 g3 ht hij hjm hmc
  grind[QiD,den,QQ,Qt,Q8]
theorem QhN{t e sz by' l c:Nat}{x hi mx:Operand}{lo:Option Operand}{i j m:Nat}(ho:o.op=.slice t x lo (some hi) (some mx))(hs:SR ρ L L')(hx:opd L x=some (.slice none l c))(ht:tsl P t=some (e,sz,by'))(hlo:loN L lo=some i)(hhi:vN (opd L hi)=some j)(hmx:vN (opd L mx)=some m)(hij:i<=j)(hjm:j<=m)(hmc:m<=c) :
  ∃u,OpP P o L' u/\den ρ (.slice none (j-i) (m-i))=some u:=by
 obtain⟨k2,hk2⟩:=X4 hhi;obtain⟨k3,hk3⟩:=X4 hmx;have hp:=QcD lo i j m ho (Qc hs hx rfl) (QbX hs hlo) (Qc hs hk2 rfl) (Qc hs hk3 rfl) ht hij hjm hmc;have e:YA none m i sz=none:=by unfold YA;split<;>rfl
 rw[e]at hp;exact⟨_,hp,rfl⟩
theorem Qf9{st f off ft sz:Nat}{x:Operand}{n i:Nat}{ag:Bool}(ho:o.op=.fieldAddr st x f)(hs:SR ρ L L')(hx:opd L x=some (.pointer (some ⟨n,i,none⟩)))(hf:tfd P st f=some (off,ft))(hz:tsz P ft=some (sz,ag))(h0:Nat.blt 0 sz=true) :
  ∃u,OpP P o L' u/\den ρ (.pointer (some ⟨n,i+off,none⟩))=some u:=by
 obtain⟨b,d,h1,h2⟩:=Qbe hs hx;exact⟨_,Z4 ho h2 hf hz h0,by simp only[den,QQ,Qt,Q8,h1]⟩
theorem Qe6{t e sz by' n of l c j:Nat}{x y:Operand}(ho:o.op=.indexAddr t x y)(hs:SR ρ L L')(hx:opd L x=some (.slice (some ⟨n,of,none⟩) l c))(hy:vN (opd L y)=some j)(ht:tsl P t=some (e,sz,by'))(hlt:j<l) :
  ∃u,OpP P o L' u/\den ρ (.pointer (some ⟨n,of+j*sz,none⟩))=some u:=by
 obtain⟨b,d,h1,h2⟩:=Xm hs hx;obtain⟨k,hk⟩:=X4 hy;exact⟨_,Qh ho h2 (Qc hs hk rfl) ht j rfl hlt rfl,by simp only[den,QQ,Qt,Q8,h1]⟩
theorem Qew{t e sz by' n of l c j q:Nat}{x y:Operand}(ho:o.op=.indexAddr t x y)(hs:SR ρ L L')(hx:opd L x=some (.slice (some ⟨n,of,some q⟩) l c))(hy:vN (opd L y)=some j)(ht:tsl P t=some (e,sz,by'))(hlt:j<l) :
  ∃u,OpP P o L' u/\den ρ (.pointer (some ⟨n,of+j*sz,none⟩))=some u:=by
 obtain⟨b,d,h1,h2⟩:=XF hs hx;obtain⟨k,hk⟩:=X4 hy;exact⟨_,Qh ho h2 (Qc hs hk rfl) ht j rfl hlt rfl,by simp only[den,QQ,Qt,Q8,h1]⟩
theorem Qd9{t e sz len n i j:Nat}{x y:Operand}(ho:o.op=.indexAddr t x y)(hs:SR ρ L L')(hx:opd L x=some (.pointer (some ⟨n,i,none⟩)))(hy:vN (opd L y)=some j)(ht:tar P t=some (len,e,sz))(hlt:j<len) :
  ∃u,OpP P o L' u/\den ρ (.pointer (some ⟨n,i+j*sz,none⟩))=some u:=by
 obtain⟨b,d,h1,h2⟩:=Qbe hs hx;obtain⟨k,hk⟩:=X4 hy;exact⟨_,Qcb ho h2 (Qc hs hk rfl) ht j rfl hlt,by simp only[den,QQ,Qt,Q8,h1]⟩
def Qbj(L:Env):List (Nat×Operand)->Option (List (Nat×Value))
 | []=>some []
 | (i,x)::r=>match opd L x,Qbj L r with
  | some v,some vs=>bif Yz v then some ((i,v)::vs)else none
  | _,_=>none
def PR(ρ:Rho):List (Nat×Value)->List (Nat×Value)->Prop
 | [],[]=>True
 | (i,v)::l,(j,u)::m=>i=j/\Yz v=true/\den ρ v=some u/\PR ρ l m
 | _,_=>False
theorem Qcr(hs:SR ρ L L'):∀{l:List (Nat×Operand)}{vs:List (Nat×Value)},Qbj L l=some vs->∃us,Y1 L' l=some us/\PR ρ vs us
 | [],vs,h=>by cases h;exact⟨[],rfl,trivial⟩
 | (i,x)::r,vs,h=>by
  simp only[Qbj]at h;split at h
  ·rename_i v vs' h1 h2;cases hn:Yz v with
   | false=>rw[hn]at h;cases h
   | true=>
    rw[hn]at h;injection h with h
    subst h;obtain⟨u,e1,e2⟩:=X9 hs h1;obtain⟨us,e3,e4⟩:=Qcr hs h2;exact⟨(i,u)::us,by simp only[Y1,e1,e3],rfl,hn,e2,e4⟩
  ·cases h
theorem Xp:∀{vs us cs ds:List Value}(i:Nat),Qg (Qt ρ) cs=some ds->Qg (Qt ρ) vs=some us->Qg (Qt ρ) (Qb cs i vs)=some (Qb ds i us)
 | [],us,cs,ds,i,h,e=>by cases e;exact h
 | v::vs,us,cs,ds,i,h,e=>by
  simp only[Qg]at e;split at e
  ·rename_i b m h1 h2;injection e with e
   subst e;exact Xp (i+1) (QfV i h h1) h2
  ·cases e
theorem Qcp{pl:Nat->Option (Nat×Nat)}:∀{vs us:List (Nat×Value)}{cs ds rs:List Value},PR ρ vs us->Qg (Qt ρ) cs=some ds->Yp pl cs vs=some rs->∃ts,Yp pl ds us=some ts/\Qg (Qt ρ) rs=some ts
 | [],[],cs,ds,rs,_,h,e=>by cases e;exact⟨ds,rfl,h⟩
 | (i,v)::vs,(j,u)::us,cs,ds,rs,hp,h,e=>by
  obtain⟨rfl,h1,h2,h3⟩:=hp;have hc:=QeS h1 h2;have hl:=Qz hc;have hl2:=Qz h;simp only[Yp]at e ⊢;split at e
  ·cases e
  ·rename_i off size hpl;cases hb:Nat.beq v.cells.toList.length size&&Nat.ble (off+v.cells.toList.length) cs.length with
   | false=>rw[hb]at e;cases e
   | true=>
    rw[hb]at e;simp only[hl,hl2,hb];exact Qcp h3 (Xp off h hc) e
 | [],_::_,_,_,_,hp,_,_=>hp.elim
 | _::_,[],_,_,_,hp,_,_=>hp.elim
def QI(l:List Value):Bool:=l.all Yt
theorem Xe:∀{l:List Value},QI l=true->Qg (Qt ρ) l=some l
 | [],_=>rfl
 | v::l,h=>by
  simp only[QI,List.all_cons,Bool.and_eq_true]at h
  have hv:Qt ρ v=some v:=by
   have:=YS h.1 ρ
   have hl:lone v=true:=by
    have h1:=h.1;unfold Yt at h1
    grind[lone]
   exact Qkv hl this
  simp only[Qg,hv,Xe (l:=l) h.2]
theorem Qmc{t:TypeId}{parts:Array (Nat×Operand)}{vs:List (Nat×Value)}{pl:List (Nat×Nat)}{z cs:List Value}(ho:o.op=.build t parts)(hs:SR ρ L L')(hp:Qbj L parts.toList=some vs)(hpl:Yj P t=some pl)(hz:Qs P t=some z)(hf:QI z=true)
  (hc:Yp (λi=>pl[i]?) z vs=some cs):∃u,OpP P o L' u/\den ρ (.agg cs.toArray)=some u:=by
 obtain⟨us,e1,e2⟩:=Qcr hs hp;obtain⟨ts,e3,e4⟩:=Qcp e2 (Xe hf) hc;exact⟨_,QO ho e1 hpl hz e3,by simp only[den,QQ,List.toList_toArray,e4]⟩
theorem QkL{t e sz len:Nat}{parts:Array (Nat×Operand)}{vs:List (Nat×Value)}{z cs:List Value}(ho:o.op=.build t parts)(hs:SR ρ L L')(hp:Qbj L parts.toList=some vs)(ht:tar P t=some (len,e,sz))(hz:Qs P t=some z)(hf:QI z=true)
  (hc:Yp (λi=>some (i*sz,sz)) z vs=some cs):∃u,OpP P o L' u/\den ρ (.agg cs.toArray)=some u:=by
 obtain⟨us,e1,e2⟩:=Qcr hs hp;obtain⟨ts,e3,e4⟩:=Qcp e2 (Xe hf) hc;exact⟨_,Qfh ho e1 ht hz e3,by simp only[den,QQ,List.toList_toArray,e4]⟩
end
end Ev
namespace Ev
inductive Tr(α:Type) where
 | lf
 | nd (l r:Tr α)
 | vd (l:Tr α) (k:Nat) (v:α) (r:Tr α)
noncomputable def QjY(f:Nat):Nat->List Bool:=
 Nat.rec (λ_=>[]) (λ_ ih k=>Bool.rec (Nat.beq (Nat.mod k 2) 0::ih (Nat.div (Nat.sub k 1) 2)) [] (Nat.beq k 0)) f
noncomputable def pth(k:Nat):List Bool:=QjY k k
def QnL:List Bool->Nat
 | []=>0
 | b::p=>2*QnL p+(if b then 2 else 1)
theorem QdM:∀(f k:Nat),k<=f->QnL (QjY f k)=k
 | 0,k,h=>by
  have:k=0:=by omega
  subst this;rfl
 | f+1,k,h=>by
  have hu:QjY (f+1) k=(Bool.rec (Nat.beq (Nat.mod k 2) 0::QjY f (Nat.div (Nat.sub k 1) 2)) [] (Nat.beq k 0):List Bool):=rfl;rw[hu];cases hk:Nat.beq k 0 with
  | true=>exact(Nat.eq_of_beq_eq_true hk).symm
  | false=>
   have h0:k≠0:=λe=>by subst e;cases hk
   have ih:=QdM f ((k-1)/2) om;show 2*QnL (QjY f ((k-1)/2))+(if Nat.beq (k%2) 0=true then 2 else 1)=k;rw[ih];cases hm:Nat.beq (k%2) 0 with
   | true=>
    have:=Nat.eq_of_beq_eq_true hm;simp;omega
   | false=>
    have:k%2≠0:=λe=>by rw[e]at hm;cases hm
    simp;omega
theorem Qhg{a b:Nat}(h:pth a=pth b):a=b:=by grind[QdM,pth]
section
variable{α:Type}
noncomputable def XO(p:List Bool):Nat->Tr α->Option α:=
 List.rec (λt T=>Tr.rec none (λ_ _ _ _=>none) (λ_ k v _ _ _=>Bool.rec none (some v) (Nat.beq k t)) T)
  (λb _ ih t T=>Tr.rec none (λl r _ _=>Bool.rec (ih t l) (ih t r) b) (λl _ _ r _ _=>Bool.rec (ih t l) (ih t r) b) T) p
noncomputable def Xu(p:List Bool):Nat->α->Tr α->Tr α:=
 List.rec (λt v T=>Tr.rec (.vd .lf t v .lf) (λl r _ _=>.vd l t v r) (λl _ _ r _ _=>.vd l t v r) T)
  (λb _ ih t v T=>Tr.rec (Bool.rec (.nd (ih t v .lf) .lf) (.nd .lf (ih t v .lf)) b) (λl r _ _=>Bool.rec (.nd (ih t v l) r) (.nd l (ih t v r)) b) (λl k x r _ _=>Bool.rec (.vd (ih t v l) k x r) (.vd l k x (ih t v r)) b) T) p
noncomputable def Qdz(p:List Bool):Tr α->Tr α:=
 List.rec (λT=>Tr.rec .lf (λl r _ _=>.nd l r) (λl _ _ r _ _=>.nd l r) T)
  (λb _ ih T=>Tr.rec .lf (λl r _ _=>Bool.rec (.nd (ih l) r) (.nd l (ih r)) b) (λl k x r _ _=>Bool.rec (.vd (ih l) k x r) (.vd l k x (ih r)) b) T) p
theorem X0{p:List Bool}{t:Nat}:XO p t (.lf:Tr α)=none:=by cases p<;>rfl
theorem Yh(d:Nat)(v:α):∀(p:List Bool)(T:Tr α),XO p d (Xu p d v T)=some v
 | [],T=>by
  have h:∀l r:Tr α,XO [] d (.vd l d v r)=some v:=λl r=>by
   show(Bool.rec none (some v) (Nat.beq d d):Option α)=some v;rw[Nat.beq_refl]
  cases T<;>exact h _ _
 | b::p,T=>by
  cases T<;>cases b<;>exact Yh d v p _
theorem X5{t d:Nat}{v x:α}(hne:t≠d):∀(p q:List Bool)(T:Tr α),XO p t (Xu q d v T)=some x->XO p t T=some x
 | [],[],T,h=>by
  have hd:∀l r:Tr α,XO [] t (.vd l d v r)=none:=λl r=>by
   show(Bool.rec none (some v) (Nat.beq d t):Option α)=none;cases hb:Nat.beq d t with
   | true=>exact absurd (Nat.eq_of_beq_eq_true hb).symm hne
   | false=>rfl
  cases T<;>exact absurd ((hd _ _).symm.trans h) (by simp)
 | [],c::q,T,h=>by cases T<;>cases c<;>first|exact h|cases h
 | b::p,[],T,h=>by
  cases T<;>cases b<;>first
   | exact h
   | (have h':XO p t (.lf:Tr α)=some x:=h;rw[X0]at h';cases h')
 | b::p,c::q,T,h=>by
  cases T<;>cases b<;>cases c<;>first
   | exact h
   | (have h':XO p t (Xu q d v .lf)=some x:=h;have h2:=X5 hne p q .lf h';rw[X0]at h2;cases h2)
   | exact X5 hne p q _ h
   | (have h':XO p t (.lf:Tr α)=some x:=h;rw[X0]at h';cases h')
theorem QaH{t d:Nat}{v:α}(hne:t≠d):∀(p q:List Bool)(T:Tr α),p≠q->XO p t (Xu q d v T)=XO p t T
 | [],[],T,h=>absurd rfl h
 | [],c::q,T,h=>by cases T<;>cases c<;>rfl
 | b::p,[],T,h=>by
  have hl:XO p t (.lf:Tr α)=none:=X0;cases T<;>cases b<;>first|rfl|exact hl
 | b::p,c::q,T,h=>by
  have hl:XO p t (.lf:Tr α)=none:=X0;have ih:=λT=>QaH (v:=v) hne p q T
  cases T<;>cases b<;>cases c<;>first
   | rfl
   | exact hl
   | exact(ih _ λe=>h (by rw[e]))
   | exact((ih .lf λe=>h (by rw[e])).trans hl)
theorem Yl(d:Nat):∀(p:List Bool)(T:Tr α),XO p d (Qdz p T)=none
 | [],T=>by cases T<;>rfl
 | b::p,T=>by cases T<;>cases b<;>first|rfl|exact Yl d p _
theorem Qdb{t:Nat}{x:α}:∀(p q:List Bool)(T:Tr α),XO p t (Qdz q T)=some x->XO p t T=some x
 | [],[],T,h=>by cases T<;>first|exact h|cases h
 | [],c::q,T,h=>by cases T<;>cases c<;>first|exact h|cases h
 | b::p,[],T,h=>by cases T<;>cases b<;>first|exact h|cases h
 | b::p,c::q,T,h=>by
  cases T<;>cases b<;>cases c<;>first
   | exact h
   | exact Qdb p q _ h
   | cases h
theorem QaR{t:Nat}:∀(p q:List Bool)(T:Tr α),p≠q->XO p t (Qdz q T)=XO p t T
 | [],[],T,h=>absurd rfl h
 | [],c::q,T,h=>by cases T<;>cases c<;>rfl
 | b::p,[],T,h=>by cases T<;>cases b<;>rfl
 | b::p,c::q,T,h=>by
  have ih:=λT=>QaR (t:=t) p q T
  cases T<;>cases b<;>cases c<;>first
   | rfl
   | exact(ih _ λe=>h (by rw[e]))
end
end Ev
end Gx
