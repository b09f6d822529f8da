/- Contracts of the program's functions, proved by walking them with the rules of the Gx texts; without conditions beyond those that each contract names. -/
import Derived.WalkKit
import Derived.Deep.Draws
import Derived.TacticsIn
import Derived.OrdersIn
import Derived.RangeFuncLeaves
import Derived.Lib.Strings
import Derived.Laws.BytesArg
import Derived.Laws.IdiomStrings
import Derived.Deep.Quiet
import Derived.ProofKit
import Derived.OpenShut
import Derived.Laws.StructEq
import Derived.ChangeKeysEq
import Derived.Laws.Externs
import Derived.Lib.Overlaps
import Derived.Carry
import Derived.Laws.Small
import Derived.Lib.Bytealg
import Derived.Shelf.Small.Strs
import Derived.Shelf.Small.Wraps
import Derived.Shelf.Strconv.Itoa0
import Derived.Shelf.Strconv.Itoa1
import Derived.Shelf.LaysM
import Derived.Shelf.Strconv.Itoa2
import Derived.Shelf.Strconv.Itoa3
import Derived.Shelf.Strings.Search1
import Derived.Shelf.Strings.Search2
import Derived.Shelf.Strings.Cut
import Derived.Shelf.Strings.Shaped
import Derived.Shelf.Strings.LastIndex
import Derived.Shelf.Strings.LastIndexAll
import Derived.Shelf.Strings.Prefix
import Derived.Shelf.Slices.Turned
import Derived.Shelf.Slices.Reverse
import Derived.Shelf.Slices.Equal
import Derived.Ground.Names2Prog
import Derived.Shelf.Slices.Clone
import Derived.Shelf.Slices.SearchI
import Derived.Shelf.Slices.Delete
import Derived.Shelf.Slices.Cells
import Derived.Shelf.Slices.Empties
import Derived.Shelf.Slices.Empties2
import Derived.Ground.SlgnProg
import Derived.Shelf.SlicesE.Reverse
import Derived.Shelf.SlicesE.Delete
import Derived.Shelf.SlicesE.Clone
import Derived.Test.YtmhkomoiamljeaaGreatDoorProg
import Derived.KernelRfl
import Derived.Lib.LastIndexByte
import Derived.Lib.ItoaNum
import Derived.Lib.SmallJoins
import Derived.Lib.AppendIntMem
import Derived.RangeFuncRecord
import Derived.Lib.Builder
import Derived.Laws.Pointers
import Derived.Test.YtmhkomoiamljeaaGreatDoorTie
import Derived.Test.YtmhkomoiamljeaaGreatDoorCards
import Derived.SevenTiedAt
import Derived.LaidMore
import Derived.Lay
import Derived.Stop.Joined
import Derived.Test.YtmhkomoiamljeaaGreatDoorP0
set_option linter.unusedSimpArgs false
set_option maxHeartbeats 1000000
set_option linter.unusedVariables false
set_option linter.unusedSectionVars false
set_option linter.unnecessarySimpa false
namespace Go.Proofs
open Go Go.RowKit Gx
instance:TSe Tryz.prog 69 9:=⟨Tryz.underlying69⟩
instance:TSe Tryz.prog 111 114:=⟨Tryz.underlying111⟩
instance:TSe Tryz.prog 112 352:=⟨Tryz.underlying112⟩
instance:TSe Tryz.prog 115 82:=⟨Tryz.underlying115⟩
instance:TSe Tryz.prog 124 84:=⟨Tryz.underlying124⟩
instance:TSe Tryz.prog 125 3:=⟨Tryz.underlying125⟩
instance:TSe Tryz.prog 185 34:=⟨Tryz.underlying185⟩
instance:TSe Tryz.prog 226 5:=⟨Tryz.underlying226⟩
instance:TSe Tryz.prog 228 4:=⟨Tryz.underlying228⟩
instance:TSe Tryz.prog 370 112:=⟨Tryz.underlying370⟩
/-- A call that answers v and writes to no old block. -/
abbrev CR(f:FuncId)(x:Array Value)(w:World)(v:Value):Prop:=Calls Tryz.prog f x w λen w'=>en=.returned v/\Below w.heap.size w w'
/-- A call that makes blocks. -/
abbrev CE{G:Type}(f:FuncId)(x:Array Value)(w:World)(M:List Nat)(V:G->Value)(F:G->Prop)(B:G->List HA):Prop:=Calls Tryz.prog f x w λen w'=>∃g,en=.returned (V g)/\F g/\HS w M (B g) w'
end Go.Proofs
/-
  DERIVED: THE SHELF's CONTRACTS AT THIS DUMP,IN PLAIN WORDS (tools/lay-plain.mjs out of 'TryzShelf.lean',which tools/lay-shelf.mjs wrote): THE SAME DECLARATIONS UNDER THE SAME NAMES: 'import','namespace','open','def','theorem' AND NOTHING ELSE: no command of the shelf's: FOR A HAND-IN. Each laying: the table of numbers ('.._ren') and one theorem,a field a fact of the dump's own or the kernel's comparison;each contract: ONE APPLICATION.
-/
namespace Go.Proofs
open Go.Shelf
def Tryz.lays137_ren:Go.Shelf.Ren:=⟨λ |137=>268|217=>307|266=>333|n=>n,λ |9=>9|5=>5|3=>3|n=>n,λ |n=>n⟩
theorem Tryz.lays137:Go.Proofs.Lays.n137 Tryz.prog Tryz.lays137_ren:={
  mixed:=by kernel_rfl
  f137:=Tryz.func268.trans (congrArg some (by kernel_rfl))
  f217:=Tryz.func307.trans (congrArg some (by kernel_rfl))
  f266:=Tryz.func333.trans (congrArg some (by kernel_rfl))
  t3:=Tryz.underlying3
  a3:=Tryz.isAgg3
  z3:=Tryz.sizeOf3
  v3:=Tryz.zeroValue3
  t5:=Tryz.underlying5
  a5:=Tryz.isAgg5
  z5:=Tryz.sizeOf5
  v5:=Tryz.zeroValue5
  t9:=Tryz.underlying9
  a9:=Tryz.isAgg9
  z9:=Tryz.sizeOf9
  v9:=Tryz.zeroValue9}
open Go.RowKit in
theorem Tryz.strings_IndexByte(s:ByteArray)(c:Int)(w:World) :
    Calls Tryz.prog 268 #[.string s,.int .u8 c] w λe w'=>e=.returned (.int .i64 (Lib.indexByte s.data.toList c.toNat.toUInt8))/\w'=w:=Any.strings_IndexByte Tryz.lays137 s c w
def Tryz.laysM246_ren:Go.Shelf.Ren:=⟨λ |246=>326|283=>356|284=>357|285=>358|286=>359|129=>370|317=>369|318=>371|319=>372|320=>373|337=>378|338=>379|n=>n,λ |2=>2|3=>3|9=>9|4=>4|171=>360|0=>0|53=>361|37=>226|5=>5|173=>364|212=>372|51=>318|20=>20|213=>373|46=>236|232=>377|233=>378|n=>n,λ |17=>1|18=>2|19=>3|n=>n⟩
def Tryz.laysM243_ren:Go.Shelf.Ren:=⟨λ |243=>293|246=>326|283=>356|284=>357|285=>358|286=>359|129=>370|317=>369|318=>371|319=>372|320=>373|337=>378|338=>379|n=>n,λ |3=>3|9=>9|2=>2|4=>4|171=>360|0=>0|53=>361|37=>226|5=>5|173=>364|212=>372|51=>318|20=>20|213=>373|46=>236|232=>377|233=>378|n=>n,λ |17=>1|18=>2|19=>3|n=>n⟩
def Tryz.laysM171_ren:Go.Shelf.Ren:=⟨λ |171=>238|243=>293|246=>326|283=>356|284=>357|285=>358|286=>359|129=>370|317=>369|318=>371|319=>372|320=>373|337=>378|338=>379|n=>n,λ |3=>3|9=>9|2=>2|4=>4|171=>360|0=>0|53=>361|37=>226|5=>5|173=>364|212=>372|51=>318|20=>20|213=>373|46=>236|232=>377|233=>378|n=>n,λ |17=>1|18=>2|19=>3|n=>n⟩
def Tryz.lays171_ren:Go.Shelf.Ren:=⟨λ |171=>238|243=>293|246=>326|283=>356|284=>357|285=>358|286=>359|129=>370|317=>369|318=>371|319=>372|320=>373|337=>378|338=>379|n=>n,λ |3=>3|9=>9|2=>2|4=>4|171=>360|0=>0|53=>361|37=>226|5=>5|173=>364|212=>372|51=>318|20=>20|213=>373|46=>236|232=>377|233=>378|n=>n,λ |17=>1|18=>2|19=>3|n=>n⟩
theorem Tryz.lays171:Go.Proofs.Lays.n171 Tryz.prog Tryz.lays171_ren:={
  mixed:=by kernel_rfl
  f129:=Tryz.func370.trans (congrArg some (by kernel_rfl))
  f171:=Tryz.func238.trans (congrArg some (by kernel_rfl))
  f243:=Tryz.func293.trans (congrArg some (by kernel_rfl))
  f246:=Tryz.func326.trans (congrArg some (by kernel_rfl))
  f283:=Tryz.func356.trans (congrArg some (by kernel_rfl))
  f284:=Tryz.func357.trans (congrArg some (by kernel_rfl))
  f285:=Tryz.func358.trans (congrArg some (by kernel_rfl))
  f286:=Tryz.func359.trans (congrArg some (by kernel_rfl))
  f317:=Tryz.func369.trans (congrArg some (by kernel_rfl))
  f318:=Tryz.func371.trans (congrArg some (by kernel_rfl))
  f319:=Tryz.func372.trans (congrArg some (by kernel_rfl))
  f320:=Tryz.func373.trans (congrArg some (by kernel_rfl))
  f337:=Tryz.func378.trans (congrArg some (by kernel_rfl))
  f338:=Tryz.func379.trans (congrArg some (by kernel_rfl))
  t0:=Tryz.underlying0
  a0:=Tryz.isAgg0
  z0:=Tryz.sizeOf0
  v0:=Tryz.zeroValue0
  t2:=Tryz.underlying2
  a2:=Tryz.isAgg2
  z2:=Tryz.sizeOf2
  v2:=Tryz.zeroValue2
  t3:=Tryz.underlying3
  a3:=Tryz.isAgg3
  z3:=Tryz.sizeOf3
  v3:=Tryz.zeroValue3
  t4:=Tryz.underlying4
  a4:=Tryz.isAgg4
  z4:=Tryz.sizeOf4
  v4:=Tryz.zeroValue4
  t5:=Tryz.underlying5
  a5:=Tryz.isAgg5
  z5:=Tryz.sizeOf5
  v5:=Tryz.zeroValue5
  t9:=Tryz.underlying9
  a9:=Tryz.isAgg9
  z9:=Tryz.sizeOf9
  v9:=Tryz.zeroValue9
  t20:=Tryz.underlying20
  a20:=Tryz.isAgg20
  z20:=Tryz.sizeOf20
  v20:=Tryz.zeroValue20
  t37:=Tryz.underlying226
  a37:=Tryz.isAgg226
  z37:=Tryz.sizeOf226
  v37:=Tryz.zeroValue226
  t46:=Tryz.underlying236
  a46:=Tryz.isAgg236
  z46:=Tryz.sizeOf236
  v46:=Tryz.zeroValue236
  t51:=Tryz.underlying318
  a51:=Tryz.isAgg318
  z51:=Tryz.sizeOf318
  v51:=Tryz.zeroValue318
  t53:=Tryz.underlying361
  a53:=Tryz.isAgg361
  z53:=Tryz.sizeOf361
  v53:=Tryz.zeroValue361
  t171:=Tryz.underlying360
  a171:=Tryz.isAgg360
  z171:=Tryz.sizeOf360
  v171:=Tryz.zeroValue360
  t173:=Tryz.underlying364
  a173:=Tryz.isAgg364
  z173:=Tryz.sizeOf364
  v173:=Tryz.zeroValue364
  t212:=Tryz.underlying372
  a212:=Tryz.isAgg372
  z212:=Tryz.sizeOf372
  v212:=Tryz.zeroValue372
  t213:=Tryz.underlying373
  a213:=Tryz.isAgg373
  z213:=Tryz.sizeOf373
  t232:=Tryz.underlying377
  a232:=Tryz.isAgg377
  z232:=Tryz.sizeOf377
  v232:=Tryz.zeroValue377
  t233:=Tryz.underlying378
  a233:=Tryz.isAgg378
  z233:=Tryz.sizeOf378
  v233:=Tryz.zeroValue378
  g17:=by kernel_rfl
  g18:=by kernel_rfl
  g19:=by kernel_rfl}
open Go.RowKit Go.Sort Go.Lib in
theorem Tryz.strconv_Itoa_small(i:Nat)(hi:i<100)(w:World) :
    Calls Tryz.prog 238 #[.int .i64 i] w λe w'=>e=.returned (.string ⟨(Lib.decDigits i).toArray⟩)/\w'=w:=Any.strconv_Itoa_small Tryz.lays171 i hi w
def Tryz.lays219_ren:Go.Shelf.Ren:=⟨λ |219=>324|217=>307|225=>353|224=>354|267=>355|266=>333|314=>368|n=>n,λ |9=>9|3=>3|4=>4|5=>5|46=>236|146=>342|51=>318|n=>n,λ |1=>0|n=>n⟩
theorem Tryz.lays219:Go.Proofs.Lays.n219 Tryz.prog Tryz.lays219_ren:={
  mixed:=by kernel_rfl
  f217:=Tryz.func307.trans (congrArg some (by kernel_rfl))
  f219:=Tryz.func324.trans (congrArg some (by kernel_rfl))
  f224:=Tryz.func354.trans (congrArg some (by kernel_rfl))
  f225:=Tryz.func353.trans (congrArg some (by kernel_rfl))
  f266:=Tryz.func333.trans (congrArg some (by kernel_rfl))
  f267:=Tryz.func355.trans (congrArg some (by kernel_rfl))
  f314:=Tryz.func368.trans (congrArg some (by kernel_rfl))
  t3:=Tryz.underlying3
  a3:=Tryz.isAgg3
  z3:=Tryz.sizeOf3
  v3:=Tryz.zeroValue3
  t4:=Tryz.underlying4
  a4:=Tryz.isAgg4
  z4:=Tryz.sizeOf4
  v4:=Tryz.zeroValue4
  t5:=Tryz.underlying5
  a5:=Tryz.isAgg5
  z5:=Tryz.sizeOf5
  v5:=Tryz.zeroValue5
  t9:=Tryz.underlying9
  a9:=Tryz.isAgg9
  z9:=Tryz.sizeOf9
  v9:=Tryz.zeroValue9
  t46:=Tryz.underlying236
  a46:=Tryz.isAgg236
  z46:=Tryz.sizeOf236
  v46:=Tryz.zeroValue236
  t51:=Tryz.underlying318
  a51:=Tryz.isAgg318
  z51:=Tryz.sizeOf318
  v51:=Tryz.zeroValue318
  t146:=Tryz.underlying342
  a146:=Tryz.isAgg342
  z146:=Tryz.sizeOf342
  v146:=Tryz.zeroValue342
  g1:=by kernel_rfl}
open Go.RowKit Go.Lib in
theorem Tryz.stringslite_Index_one(s:ByteArray)(c:UInt8)(w:World) :
    Calls Tryz.prog 324 #[.string s,.string ⟨#[c]⟩] w λe w'=>e=.returned (.int .i64 (Lib.indexByte s.data.toList c))/\w'=w:=Any.stringslite_Index_one Tryz.lays219 s c w
def Tryz.lays148_ren:Go.Shelf.Ren:=⟨λ |148=>236|222=>291|223=>292|269=>325|n=>n,λ |9=>9|3=>3|4=>4|5=>5|146=>342|51=>318|46=>236|n=>n,λ |n=>n⟩
theorem Tryz.lays148:Go.Proofs.Lays.n148 Tryz.prog Tryz.lays148_ren:={
  mixed:=by kernel_rfl
  f148:=Tryz.func236.trans (congrArg some (by kernel_rfl))
  f222:=Tryz.func291.trans (congrArg some (by kernel_rfl))
  f223:=Tryz.func292.trans (congrArg some (by kernel_rfl))
  f269:=Tryz.func325.trans (congrArg some (by kernel_rfl))
  t3:=Tryz.underlying3
  a3:=Tryz.isAgg3
  z3:=Tryz.sizeOf3
  v3:=Tryz.zeroValue3
  t4:=Tryz.underlying4
  a4:=Tryz.isAgg4
  z4:=Tryz.sizeOf4
  v4:=Tryz.zeroValue4
  t5:=Tryz.underlying5
  a5:=Tryz.isAgg5
  z5:=Tryz.sizeOf5
  v5:=Tryz.zeroValue5
  t9:=Tryz.underlying9
  a9:=Tryz.isAgg9
  z9:=Tryz.sizeOf9
  v9:=Tryz.zeroValue9
  t46:=Tryz.underlying236
  a46:=Tryz.isAgg236
  z46:=Tryz.sizeOf236
  v46:=Tryz.zeroValue236
  t51:=Tryz.underlying318
  a51:=Tryz.isAgg318
  z51:=Tryz.sizeOf318
  v51:=Tryz.zeroValue318
  t146:=Tryz.underlying342
  a146:=Tryz.isAgg342
  z146:=Tryz.sizeOf342
  v146:=Tryz.zeroValue342}
open Go.RowKit Go.Lib in
theorem Tryz.strings_LastIndex_one(s sub:ByteArray)(h1:sub.size=1)(hs:s.size<4611686018427387904)(w:World) :
    Calls Tryz.prog 236 #[.string s,.string sub] w λe w'=>e=.returned (.int .i64 (Lib.lastIndexByte s ((sub[0]'(by omega)).toNat:Int)))/\w'=w:=Any.strings_LastIndex_one Tryz.lays148 s sub h1 hs w
def Tryz.lays207_ren:Go.Shelf.Ren:=⟨λ |207=>269|n=>n,λ |9=>9|4=>4|3=>3|n=>n,λ |n=>n⟩
def Tryz.lays100_ren:Go.Shelf.Ren:=⟨λ |100=>206|207=>269|n=>n,λ |9=>9|4=>4|3=>3|n=>n,λ |n=>n⟩
theorem Tryz.lays100:Go.Proofs.Lays.n100 Tryz.prog Tryz.lays100_ren:={
  mixed:=by kernel_rfl
  f100:=Tryz.func206.trans (congrArg some (by kernel_rfl))
  f207:=Tryz.func269.trans (congrArg some (by kernel_rfl))
  t3:=Tryz.underlying3
  a3:=Tryz.isAgg3
  z3:=Tryz.sizeOf3
  v3:=Tryz.zeroValue3
  t4:=Tryz.underlying4
  a4:=Tryz.isAgg4
  z4:=Tryz.sizeOf4
  v4:=Tryz.zeroValue4
  t9:=Tryz.underlying9
  a9:=Tryz.isAgg9
  z9:=Tryz.sizeOf9
  v9:=Tryz.zeroValue9}
open Go.RowKit Go.Lib in
theorem Tryz.strings_HasSuffix(s p:ByteArray)(w:World)(hs:s.size<=9223372036854775807) :
    Calls Tryz.prog 206 #[.string s,.string p] w λe w'=>e=.returned (.bool (Lib.hasSuffix s.data.toList p.data.toList))/\w'=w:=Any.strings_HasSuffix Tryz.lays100 s p w hs
end Go.Proofs
namespace Go.Proofs
open Go Go.RowKit Gx
attribute [local irreducible] Go.Calls Gx.S Gx.O Gx.D Gx.OpP Gx.OpQ Gx.OpH
set_option maxRecDepth 20000
theorem Xp:tsl Tryz.prog 185=some (34,1,8):=by kernel_rfl
theorem Qmk:tsz Tryz.prog 34=some (1,false):=by kernel_rfl
theorem QN:tsl Tryz.prog 226=some (5,1,1):=by kernel_rfl
theorem QeE:tsz Tryz.prog 5=some (1,false):=by kernel_rfl
instance:TSz Tryz.prog 5 1 false:=⟨QeE⟩
theorem Qjn:tsl Tryz.prog 69=some (9,1,16):=by kernel_rfl
theorem QhK:tsz Tryz.prog 9=some (1,false):=by kernel_rfl
instance:TSz Tryz.prog 9 1 false:=⟨QhK⟩
instance:TFn Tryz.prog 138:=⟨by kernel_rfl⟩
theorem QgT{ss:List (List UInt8)}{k:Nat}(h:k<ss.length):(ss.map Qhg)[k]?=some (.string (bs (ss.getD k []))):=QnK h
theorem Zu{w w':World}(h:w'=w):Below w.heap.size w w':=by subst h;exact Below.refl _ _
theorem ib97(w:World)(l:List UInt8)(c:UInt8):Calls Tryz.prog 268 #[.string (bs l),.int .u8 (c.toNat:Int)] w λen w'=>en=.returned (.int .i64 (Lib.indexByte l c))/\Below w.heap.size w w':=
  (Tryz.strings_IndexByte (bs l) (c.toNat:Int) w).mono λe w' h=>⟨by rw[h.1];simp[bs],Zu h.2⟩
theorem hs91(w:World)(s p:List UInt8)(hl:s.length<=9223372036854775807):Calls Tryz.prog 206 #[.string (bs s),.string (bs p)] w λen w'=>en=.returned (.bool (p.isSuffixOf s))/\Below w.heap.size w w':=
  (Tryz.strings_HasSuffix (bs s) (bs p) w (by simpa[bs,ByteArray.size]using hl)).mono λe w' h=>⟨by rw[h.1];simp[bs,Lib.hasSuffix],Zu h.2⟩
theorem c27(w:World)(n lo hi:Int):CR 27 #[.int .i64 n,.int .i64 lo,.int .i64 hi] w (.bool (decide (lo<=n)&&decide (n<=hi))):=by
 refine eN3 Tryz.func27 Tryz.ntmps27 ?_
 refine ZH ?_
 refine Xu 4 10 14 rfl
  (λhg1 _=>by
   refine aU6 ?_
   exact oJt 4 14)
  (λhg3 _=>by
   refine aU3 ?_
   exact oJf 4 14) ?_
 refine aU2 ?_
 exact rV
theorem Qgz(w:World)(ok:Bool)(e:Int):CR 138 #[.bool ok,.int .i64 e] w (.int .i64 (cond ok 0 e)):=by
 refine eN2 Tryz.func138 Tryz.ntmps138 ?_
 refine aU9 ?_
 refine sCd rfl (λh1=>?_) λh1=>?_
 ·refine aU4 ?_
  exact rV (h:=by simp_all[Qw])
 refine aU6 ?_
 exact rV (h:=by simp_all[Qw])
theorem c137(w:World)(a:Option Addr)(cap:Nat)(es:List Int)(hs:Sl w [] a 1 es.length (λi=>[.int .i64 (es.getD i 0)]))(hm:es.length<=1000):CR 137 #[.slice a es.length cap] w (.int .i64 (Q2 es)):=by
 refine eN1 Tryz.func137 Tryz.ntmps137 ?_
 refine QcZ ?_
 refine Qs (α:=Nat) [2,4,7,8,9,10,11,12,13,14] (λk=>[(7,.int .i64 (k:Int))]) (λ_=>_) (λk=>k<=es.length/\Q2 es=Q2 (es.drop k)) (λk=>es.length-k) 0 ⟨om,rfl⟩ aSx (λw h=>h) (λk hk=>?_)
 obtain⟨hk1,hk2⟩:=hk
 refine aU5 ?_
 refine sCd rfl (λh1=>?_) λh1=>?_
 ·refine aU5 ?_
  refine o_p (Qb rfl rfl rfl Xp _ rfl om (hs.some om)) rfl (o_q (Qp rfl rfl Qmk (hs.rd (i:=k) (j:=0) om rfl)) rfl (aU7 ?_))
  refine sCd rfl (λh2=>?_) λh2=>?_
  ·refine aU5 ?_
   exact rV (h:=by simp only[Qw];rw[hk2,XE om,if_neg (by assumption)])
  refine aT4 ?_
  refine aU2 ?_
  exact Qv (k+1) om ⟨om,by rw[hk2,XE om,if_pos (by assumption)]⟩ aSx (λw h=>h)
 refine Qh rfl ?_
 refine aU4 ?_
 exact rV (h:=by simp only[Qw];rw[hk2,Qau om])
theorem f137{w0 w:World}{M:List Nat}{As As':List HA}{b cap n:Nat}{t:TypeId}{tot:Nat}{cs:List Value}(h:HS w0 M As w)(hp:QF As (.blk b t tot cs) As')(hc:cs.all Qfi=true)(hn:cs.length=n)(hl:n<=1000) :
    Calls Tryz.prog 137 #[.slice (some ⟨b,0,none⟩) n cap] w λen w'=>en=.returned (.int .i64 (Xq cs))/\Below w.heap.size w w':=by
  subst hn;have:=c137 w (some ⟨b,0,none⟩) cap (cs.map Go.RowKit.intOf) (by simpa using h.sl_ints hp hc) (by simpa using hl);rw[Qbh hc]at this
  simpa using this
theorem c273(w:World)(a:Option Addr)(cap:Nat)(l:List (UInt8))(q:Nat)(cv:Array Value)(es:List Int)(hs:Vl w a (l.map bv))(hm:l.length<=1000000)(hq:QJ Tryz.prog q=true)(he:es.length=l.length)(hc:∀k w1,k<l.length->HS w [] [] w1->Calls Tryz.prog q (#[]++[.int .u8 ((l.getD k 0).toNat:Int)].toArray++cv) w1 λen w2=>en=.returned (.int .i64 (es.getD k 0))/\Below w1.heap.size w1 w2):CR 273 #[.slice a l.length cap,.func (.func q) #[] cv] w (.tuple #[.int .i64 (Qx es 0).1,.int .i64 (Qx es 0).2]):=by
 refine eN2 Tryz.func273 Tryz.ntmps273 ?_
 refine Qby ?_
 refine Qs (α:=Nat) [4,5,6,7,8,11,12,13,14,15,16,17,18,19,20,21,22,23] (λk=>[(11,.int .i64 (k:Int))]) (λ_=>HS w [] []) (λk=>k<=l.length/\Qx es 0=Qx (es.drop k) k) (λk=>l.length-k) 0 ⟨om,rfl⟩ aSx (λw h=>h.ent aEt) (λk hk=>?_)
 obtain⟨hk1,hk2⟩:=hk
 refine aU5 ?_
 refine sCd rfl (λh1=>?_) λh1=>?_
 ·refine aU6 ?_
  refine o_p (Qb rfl rfl rfl QN (k) om om (hs.some (by rw[List.length_map];omega))) rfl (o_q (Qp rfl rfl QeE ((hs.rd (QcH (k:=k) om)))) rfl (aU7 ?_))
  refine o_q (Qb5 rfl rfl hq rfl (λw1 h1=>hc k w1 om (h1.ent aEt))) rfl (aU7 ?_)
  refine sCd rfl (λh2=>?_) λh2=>?_
  ·refine aU7 ?_
   exact Qj (rs:=[.tmp 4,.tmp 5]) rfl (.tmp rfl (.tmp rfl (.nil))) (λw' h'=>⟨by simp only[Qw];rw[hk2,Qae om,if_neg (by assumption)],h'.below⟩)
  refine aT4 ?_
  refine aU2 ?_
  exact sBk (k+1) om ⟨om,by rw[hk2,Qae om,if_pos (by assumption)]⟩
 refine Qh rfl ?_
 refine aU5 ?_
 exact Qj (rs:=[.tmp 4,.tmp 5]) rfl (.tmp rfl (.tmp rfl (.nil))) (λw' h'=>⟨by simp only[Qw];rw[hk2,Qe6 om],h'.below⟩)
theorem c233(w:World)(a:Option Addr)(cap:Nat)(l:List (List UInt8))(q:Nat)(cv:Array Value)(es:List Int)(hs:Vl w a (l.map Qhg))(hm:l.length<=1000000)(hq:QJ Tryz.prog q=true)(he:es.length=l.length)(hc:∀k w1,k<l.length->HS w [] [] w1->Calls Tryz.prog q (#[]++[.string (bs (l.getD k []))].toArray++cv) w1 λen w2=>en=.returned (.int .i64 (es.getD k 0))/\Below w1.heap.size w1 w2):CR 233 #[.slice a l.length cap,.func (.func q) #[] cv] w (.tuple #[.int .i64 (Qx es 0).1,.int .i64 (Qx es 0).2]):=by
 refine eN2 Tryz.func233 Tryz.ntmps233 ?_
 refine Qby ?_
 refine Qs (α:=Nat) [4,5,6,7,8,11,12,13,14,15,16,17,18,19,20,21,22,23] (λk=>[(11,.int .i64 (k:Int))]) (λ_=>HS w [] []) (λk=>k<=l.length/\Qx es 0=Qx (es.drop k) k) (λk=>l.length-k) 0 ⟨om,rfl⟩ aSx (λw h=>h.ent aEt) (λk hk=>?_)
 obtain⟨hk1,hk2⟩:=hk
 refine aU5 ?_
 refine sCd rfl (λh1=>?_) λh1=>?_
 ·refine aU6 ?_
  refine o_p (Qb rfl rfl rfl Qjn (k) om om (hs.some (by rw[List.length_map];omega))) rfl (o_q (Qp rfl rfl QhK ((hs.rd (QgT (k:=k) om)))) rfl (aU7 ?_))
  refine o_q (Qb5 rfl rfl hq rfl (λw1 h1=>hc k w1 om (h1.ent aEt))) rfl (aU7 ?_)
  refine sCd rfl (λh2=>?_) λh2=>?_
  ·refine aU7 ?_
   exact Qj (rs:=[.tmp 4,.tmp 5]) rfl (.tmp rfl (.tmp rfl (.nil))) (λw' h'=>⟨by simp only[Qw];rw[hk2,Qae om,if_neg (by assumption)],h'.below⟩)
  refine aT4 ?_
  refine aU2 ?_
  exact sBk (k+1) om ⟨om,by rw[hk2,Qae om,if_pos (by assumption)]⟩
 refine Qh rfl ?_
 refine aU5 ?_
 exact Qj (rs:=[.tmp 4,.tmp 5]) rfl (.tmp rfl (.tmp rfl (.nil))) (λw' h'=>⟨by simp only[Qw];rw[hk2,Qe6 om],h'.below⟩)
theorem c274(w:World)(c:UInt8):CR 274 #[.int .u8 (c.toNat:Int)] w (.int .i64 (Qf2 c)):=by
 have hlt:=c.toNat_lt
 refine eN1 Tryz.func274 Tryz.ntmps274 ?_
 refine aU8 ?_
 refine oCq rfl (λw1 h1=>Qgz w1 _ _) (aU2 ?_)
 exact rV (h:=by simp only[Qw,Qf2,cond_eq_ite,decide_eq_true_eq];congr 2;(try simp)<;>omega)
theorem c275(w:World)(b:Nat)(t:List UInt8)(c:UInt8)(hr:Rd w [] b 0 (.string (bs t)))(hc:c.toNat<t.length):CR 275 #[.int .u8 (c.toNat:Int),.pointer (some ⟨b,0,none⟩)] w (.int .i64 (Qk4 t c)):=by
 have e9:((t.getD c.toNat 0).toNat:Int)=(c.toNat:Int) ↔ t.getD c.toNat 0=c:=⟨λh=>UInt8.toNat_inj.1 om,λh=>by rw[h]⟩
 refine eN2 Tryz.func275 Tryz.ntmps275 ?_
 refine aU6 ?_
 refine o_q (Qp rfl rfl QhK (hr)) rfl (aU ?_)
 refine o_p (QD rfl rfl rfl Tryz.underlying9 (c.toNat) om om) rfl ?_
 refine aU2 ?_
 refine oCq rfl (λw1 h1=>Qgz w1 _ _) (aU2 ?_)
 exact rV (h:=by simp only[Qw,Qk4,cond_eq_ite,decide_eq_true_eq,e9])
theorem Qao:Qz Tryz.prog 5=some [.int .u8 0]:=by kernel_rfl
theorem YN:tki Tryz.prog 3=some .i64:=by kernel_rfl
theorem QeC:tki Tryz.prog 5=some .u8:=by kernel_rfl
instance:TFn Tryz.prog 268:=⟨by kernel_rfl⟩
theorem Qpc:tsz Tryz.prog 135=some (1,false):=by kernel_rfl
instance:TFn Tryz.prog 306:=⟨by kernel_rfl⟩
instance:TFn Tryz.prog 266:=⟨by kernel_rfl⟩
theorem Qhs{L:List UInt8}{k:Nat}{x:UInt8}{v:Value}(h:k<L.length)(hv:v=bv x):Qc (L.map bv) (k*1) [v]=(L.set k x).map bv:=by
  subst hv;have h9:=Qcy (vals:=byV) (sz:=1) (λ_=>rfl) L k 0 [bv x] (L.getD k 0) x (by rw[List.getElem?_eq_getElem h,List.getD_eq_getElem?_getD,List.getElem?_eq_getElem h];rfl) rfl (by simp);rw[Nat.add_zero]at h9;have e:∀M:List UInt8,M.flatMap byV=M.map bv:=λM=>Qcr bv M;rw[e,e]at h9;exact h9
def Qc0(t s:List UInt8)(k:Nat):List UInt8:=(up t s).take k++s.drop k
theorem QdR{t s:List UInt8}{k:Nat}(h:k<=s.length):(Qc0 t s k).length=s.length:=by simp[Qc0,QaE];omega
theorem Qml{t s:List UInt8}{k:Nat}(h:k<s.length):(Qc0 t s k).getD k 0=s.getD k 0:=by
  unfold Qc0;rw[List.getD_eq_getElem?_getD,List.getElem?_append_right (by simp[QaE];omega),List.getElem?_drop,List.getD_eq_getElem?_getD];congr 2;simp[QaE];omega
theorem QmC{t s:List UInt8}{k:Nat}(h:k<s.length):(Qc0 t s k).set k (t.getD (s.getD k 0).toNat 0)=Qc0 t s (k+1):=by
  unfold Qc0 up;apply List.ext_getElem?;intro j;simp only[List.getElem?_set,List.getElem?_append,List.getElem?_take,List.getElem?_drop,List.length_append,List.length_take,List.length_map,List.length_drop,List.getElem?_map,List.getD_eq_getElem?_getD];have hk:=List.getElem?_eq_getElem h
  grind
theorem QqD(t s:List UInt8):Qc0 t s 0=s:=by simp[Qc0]
theorem Qld(t s:List UInt8):Qc0 t s s.length=up t s:=by simp[Qc0,<-QaE t s]
def QeG(k:Nat):List UInt8:=QhI.take k++List.replicate (128-k) 0
theorem Qej:QhI.length=128:=by simp[QhI]
theorem Qhd{k:Nat}(h:k<=128):(QeG k).length=128:=by simp[QeG,Qej];omega
theorem QgU{k:Nat}(h:k<128):(QeG k).set k (QeI k)=QeG (k+1):=by
  unfold QeG;have hk:QhI[k]?=some (QeI k):=by unfold QhI;rw[List.getElem?_map,List.getElem?_range h];rfl
  have hl:=Qej;apply List.ext_getElem?;intro j;simp only[List.getElem?_set,List.getElem?_append,List.getElem?_take,List.length_append,List.length_take,List.getElem?_replicate,List.length_replicate]
  grind
theorem QnX(s:List UInt8)(p:UInt8->Bool):(!((s.map λc=>!p c).any id))=s.all p:=by
  induction s with
  | nil=>rfl
  | cons a s ih=>simp only[List.map_cons,List.any_cons,List.all_cons,id_eq,Bool.not_or,Bool.not_not,ih]
theorem QlG(w:World)(t s:List UInt8)(hl:t.length=128)(hc:∀c∈s,c.toNat<128)(hm:s.length<=1000000):CR 172 #[.string (bs t),.string (bs s)] w (.string (bs (up t s))):=by
 refine eN2 Tryz.func172 Tryz.ntmps172 ?_
 refine aU7 ?_
 refine o_h (ZS rfl rfl Tryz.underlying9 Tryz.underlying226 Tryz.underlying5 rfl (by simp only[maxLen];omega)) rfl (λ⟨b1,c2⟩⟨h3,k4⟩=>ZH ?_)
 refine Qs (α:=Nat) [6,7,12,13,14,15,16,17,18,19,20,21,22,23] (λk=>[(12,.int .i64 (k:Int))]) (λk=>HS w [] [.blk b1 5 c2 ((Qc0 t s k).map bv)]) (λk=>k<=s.length) (λk=>s.length-k) 0 (Nat.zero_le _) aSx (λw h=>by rw[QqD];exact h.ent aEt) (λk hk1=>?_)
 refine aU5 ?_
 refine sCd rfl (λh5=>?_) λh5=>?_
 ·have hk:k<s.length:=by omega
  have hck:=hc (s.getD k 0) (Yt hk)
  refine aU6 ?_
  refine o_p (Qb rfl rfl rfl QN (k) om om rfl) rfl (o_q (X0 rfl rfl QeE (λw h=>by rw[Nat.zero_add];exact h.rd_blk (Mc:=[]) aPk (by rw[Nat.mul_one,QcH (by rw[QdR hk1];exact hk),Qml hk]) (by simp))) rfl (aU8 ?_))
  refine o_p (QD rfl rfl rfl Tryz.underlying223 ((s.getD k 0).toNat) om om) rfl ?_
  refine o_p (Qb rfl rfl rfl QN (k) om om rfl) rfl (Qn (show _=Value.pointer (some ⟨b1,k*1,none⟩)from by rw[Nat.zero_add]) (ZG (X5 rfl rfl rfl QeE rfl aPt (by rw[List.length_map,QdR hk1];omega) rfl) (λ_ _=>aT4 ?_)))
  refine aU2 ?_
  exact Qv (k+1) om om aSx (λw h=>by have h2:=HS.blk_to (b:=b1) h aPk (Qhs (L:=Qc0 t s k) (x:=t.getD (s.getD k 0).toNat 0) (by rw[QdR hk1];exact hk) rfl);rw[QmC hk]at h2;exact h2.ent aEt)
 obtain rfl:k=s.length:=om
 rw[Qld]
 refine Qh rfl ?_
 refine aU3 ?_
 refine o_q (Ys rfl rfl Tryz.underlying226 Tryz.underlying9 Tryz.underlying5 aPk (by simp[QaE]) (Zn _)) rfl (aU2 ?_)
 exact rV (h:=by simp only[Yo];rfl)
theorem c82(w:World):CR 82 #[] w (.string (bs QhI)):=by
 refine eN0 Tryz.func82 Tryz.ntmps82 ?_
 refine aU6 ?_
 refine o_h (QeB (n:=128) rfl rfl rfl QN Qao om om) rfl (λb1 _=>ZH ?_)
 refine Qs (α:=Nat) [2,6,7,8,9,10,11,12,13,14,15,16,17,18,19,20,21,22,23,24,25,26,27] (λk=>[(6,.int .i64 (k:Int))]) (λk=>HS w [] [.blk b1 5 (128*1) ((QeG k).map bv)]) (λk=>k<=128) (λk=>128-k) 0 (Nat.zero_le _) aSx (λw h=>h.ent aEt) (λk hk1=>?_)
 refine aU5 ?_
 refine sCd rfl (λh2=>?_) λh2=>?_
 ·have hk:k<128:=by omega
  have hkm:k<(QeG k).length:=by rw[Qhd hk1];exact hk
  refine Qby ?_
  refine o_p (Q5 rfl rfl YN QeC) rfl ?_
  refine Qn (show _=bv (UInt8.ofNat k)from by unfold bv;congr 1<;>(rw[UInt8.toNat_ofNat',Qdq k om];omega)) (o_p (Qb rfl rfl rfl QN (k) om om rfl) rfl (Qn (show _=Value.pointer (some ⟨b1,k*1,none⟩)from by rw[Nat.zero_add]) (aU7 ?_)))
  refine Xu 3 16 19 rfl
   (λhg3 _=>by
    refine aU4 ?_
    exact oJt 3 19)
   (λhg5 _=>by
    refine aU2 ?_
    exact oJf 3 19) ?_
  refine aU ?_
  refine sCd rfl (λh7=>?_) λh7=>?_
  ·have hsk:QeI k=UInt8.ofNat (k-32):=by unfold QeI;rw[if_pos om]
   refine aT5 ?_
   refine aT ?_
   refine o_p (Q5 rfl rfl YN QeC) rfl (Qn (show _=bv (QeI k)from by rw[hsk];unfold bv;congr 1;rw[UInt8.toNat_ofNat',show((k:Int)-97+65)=((k-32:Nat):Int)from om,Qdq _ om];omega) (o_p (Qb rfl rfl rfl QN (k) om om rfl) rfl (Qn (show _=Value.pointer (some ⟨b1,k*1,none⟩)from by rw[Nat.zero_add]) (aT5 ?_))))
   refine aU2 ?_
   exact Qv (k+1) om om aSx (λw h=>by have h1:=HS.blk_to (b:=b1) h aPk (show Qc (Qc ((QeG k).map bv) (k*1) [bv (UInt8.ofNat k)]) (k*1) [bv (QeI k)]=((QeG k).set k (QeI k)).map bv from by rw[Qhs hkm rfl,Qhs (by rw[List.length_set];exact hkm) rfl,List.set_set]);rw[QgU hk]at h1;exact h1.ent aEt)
  have hsk:QeI k=UInt8.ofNat k:=by unfold QeI;rw[if_neg om]
  refine aT4 ?_
  refine aU2 ?_
  exact Qv (k+1) om om aSx (λw h=>by have h1:=HS.blk_to (b:=b1) h aPk (Qhs (x:=UInt8.ofNat k) hkm rfl);rw[<-hsk,QgU hk]at h1;exact h1.ent aEt)
 obtain rfl:k=128:=om
 refine Qh rfl ?_
 refine aU3 ?_
 refine o_q (Ys rfl rfl Tryz.underlying226 Tryz.underlying9 Tryz.underlying5 aPk (by simp[Qhd]) (Zn _)) rfl (aU2 ?_)
 exact rV (h:=by simp only[Yo];simp[QeG,Qej,List.take_of_length_le];rfl)
theorem c205(w:World)(c:UInt8):CR 205 #[.int .u8 (c.toNat:Int)] w (.bool (Yc c)):=by
 have e1:((32:Int)<=(c.toNat:Int)) ↔ 32<=c.toNat:=om
 have e2:((c.toNat:Int)<=126) ↔ c.toNat<=126:=om
 have e3:decide (Lib.indexByte Xc c<0)= !(Xc.contains c):=by by_cases h:c∈Xc;(rw[decide_eq_false (λh9=>Z4.1 h9 h)];simp[h]);(rw[decide_eq_true (Z4.2 h)];simp[h])
 refine eN1 Tryz.func205 Tryz.ntmps205 ?_
 refine aU9 ?_
 refine Xu 3 5 8 rfl
  (λhg1 _=>by
   refine aU4 ?_
   exact oJt 3 8)
  (λhg3 _=>by
   refine aU2 ?_
   exact oJf 3 8) ?_
 refine aU ?_
 refine Xu 4 9 13 rfl
  (λhg5 _=>by
   refine aU3 ?_
   refine oCq rfl (λw1 h1=>ib97 w1 Xc c) (aU2 ?_)
   exact oJt 4 13)
  (λhg7 _=>by
   refine aU3 ?_
   exact oJf 4 13) ?_
 refine aU2 ?_
 exact rV (h:=by simp only[Qw,Yc,e1,e2,e3])
theorem c267(w:World)(b q:Nat)(cv:Array Value)(c:UInt8)(r:Bool)(hr:Rd w [] b 0 (.func (.func q) #[] cv))(hq:QJ Tryz.prog q=true)(hc:∀w1,HS w [] [] w1->Calls Tryz.prog q (#[]++[.int .u8 (c.toNat:Int)].toArray++cv) w1 λen w2=>en=.returned (.bool r)/\Below w1.heap.size w1 w2):CR 267 #[.int .u8 (c.toNat:Int),.pointer (some ⟨b,0,none⟩)] w (.bool (!r)):=by
 refine eN2 Tryz.func267 Tryz.ntmps267 ?_
 refine aU6 ?_
 refine o_q (Qp rfl rfl Qpc (hr)) rfl (aU ?_)
 refine o_q (Qb5 rfl rfl hq rfl (λw1 h1=>hc w1 (h1.ent aEt))) rfl (aU3 ?_)
 exact rV
theorem c306(w:World)(a:Option Addr)(cap:Nat)(l:List UInt8)(q:Nat)(cv:Array Value)(bt:List Bool)(hs:Vl w a (l.map bv))(hm:l.length<=1000000)(hq:QJ Tryz.prog q=true)(hb:bt.length=l.length)(hc:∀k w1,k<l.length->HS w [] [] w1->Calls Tryz.prog q (#[]++[.int .u8 ((l.getD k 0).toNat:Int)].toArray++cv) w1 λen w2=>en=.returned (.bool (bt.getD k false))/\Below w1.heap.size w1 w2):CR 306 #[.slice a l.length cap,.func (.func q) #[] cv] w (.int .i64 (ixI bt)):=by
 refine eN2 Tryz.func306 Tryz.ntmps306 ?_
 refine QcZ ?_
 refine Qs (α:=Nat) [4,5,8,9,10,11,12,13,14,15,16,17,18] (λk=>[(8,.int .i64 (k:Int))]) (λ_=>_) (λk=>k<=l.length/\∀i,i<k->bt.getD i false=false) (λk=>l.length-k) 0 ⟨om,λi h=>absurd h (Nat.not_lt_zero i)⟩ aSx (λw h=>h) (λk hk=>?_)
 obtain⟨hk1,hk2⟩:=hk
 refine aU5 ?_
 refine sCd rfl (λh1=>?_) λh1=>?_
 ·refine Qby ?_
  refine o_p (Qb rfl rfl rfl QN (k) om om (hs.some (by rw[List.length_map];omega))) rfl (o_q (Qp rfl rfl QeE ((hs.rd (QcH (k:=k) om)))) rfl (o_q (Qb5 rfl rfl hq rfl (λw1 h1=>hc k w1 om (h1.ent aEt))) rfl (aU ?_)))
  refine sCd rfl (λh2=>?_) λh2=>?_
  ·refine aU5 ?_
   exact rV (h:=by have e:=Qen (l:=bt) (k:=k) om hk2 (λ_=>by assumption);simp only[Qw,ixI,e];rw[if_pos om])
  refine aT4 ?_
  refine aU2 ?_
  exact Qv (k+1) om ⟨om,λi hi=>(Nat.lt_or_ge i k).elim (hk2 i) (λh=>by obtain rfl:i=k:=om;assumption)⟩ aSx (λw h=>h)
 refine Qh rfl ?_
 refine aU4 ?_
 exact rV (h:=by have e:=Qen (l:=bt) (k:=k) om hk2 (λh=>om);simp only[Qw,ixI,e];rw[if_neg om])
theorem c266(w:World)(a:Option Addr)(cap:Nat)(l:List UInt8)(q:Nat)(cv:Array Value)(bt:List Bool)(hs:Vl w a (l.map bv))(hm:l.length<=1000000)(hq:QJ Tryz.prog q=true)(hb:bt.length=l.length)(hc:∀k w1,k<l.length->HS w [] [] w1->Calls Tryz.prog q (#[]++[.int .u8 ((l.getD k 0).toNat:Int)].toArray++cv) w1 λen w2=>en=.returned (.bool (bt.getD k false))/\Below w1.heap.size w1 w2):CR 266 #[.slice a l.length cap,.func (.func q) #[] cv] w (.bool (bt.any id)):=by
 refine eN2 Tryz.func266 Tryz.ntmps266 ?_
 refine aU8 ?_
 refine oCq rfl (λw1 h1=>c306 w1 a cap l q cv bt (hs.later h1) hm hq hb (λk w2 hk h2=>hc k w2 hk (by simpa using h1.call h2))) (aU3 ?_)
 exact rV (h:=by simp only[Qw];rw[<-QiZ])
theorem QpE(w:World)(s:List UInt8)(q:Nat)(cv:Array Value)(p:UInt8->Bool)(hm:s.length<=1000000)(hq:QJ Tryz.prog q=true)(hc:∀k w1,k<s.length->HS w [] [] w1->Calls Tryz.prog q (#[]++[.int .u8 ((s.getD k 0).toNat:Int)].toArray++cv) w1 λen w2=>en=.returned (.bool (p (s.getD k 0)))/\Below w1.heap.size w1 w2):CR 204 #[.string (bs s),.func (.func q) #[] cv] w (.bool (s.all p)):=by
 refine eN2 Tryz.func204 Tryz.ntmps204 ?_
 refine aU2 ?_
 refine oBx λb1 _=>?_
 refine aU5 ?_
 refine o_h (ZS rfl rfl Tryz.underlying9 Tryz.underlying226 Tryz.underlying5 rfl (by simp only[maxLen];omega)) rfl (λ⟨b2,c3⟩⟨h4,k5⟩=>aU ?_)
 refine oCq rfl (λw1 h1=>c266 w1 _ _ s 267 #[.pointer (some ⟨b1,0,none⟩)] (s.map λc=>!p c) (h1.vl_blk aPk) hm (by kernel_rfl) (by simp) (λk w2 hk h2=>by rw[YU (d:=0) hk];exact c267 w2 b1 q cv _ _ ((h1.rd_blk (Mc:=[]) (b:=b1) aPk rfl (by simp)).next h2) hq (λw3 h3=>hc k w3 hk ((h1.call h2).call h3).nil))) (aU3 ?_)
 exact rV (h:=by simp only[Qw];rw[QnX])
instance:TFn Tryz.prog 204:=⟨by kernel_rfl⟩
instance:TFn Tryz.prog 206:=⟨by kernel_rfl⟩
instance:TFn Tryz.prog 139:=⟨by kernel_rfl⟩
theorem YC:Qz Tryz.prog 34=some [.int .i64 0]:=by kernel_rfl
instance:TFn Tryz.prog 137:=⟨by kernel_rfl⟩
instance:TFn Tryz.prog 205:=⟨by kernel_rfl⟩
instance:TFn Tryz.prog 273:=⟨by kernel_rfl⟩
instance:TFn Tryz.prog 217:=⟨by kernel_rfl⟩
instance:TFn Tryz.prog 233:=⟨by kernel_rfl⟩
instance:TFn Tryz.prog 146:=⟨by kernel_rfl⟩
theorem Qco{a b:Int}:Xq [.int .i64 a,.int .i64 b]=if a=0 then b else a:=by
  simp only[Xq]
  grind
theorem QnS{a b c:Int}:Xq [.int .i64 a,.int .i64 b,.int .i64 c]=if a=0 then if b=0 then c else b else a:=by
  simp only[Xq]
  grind
def openE(t:List UInt8)(l:List (List UInt8)):Int:=if(Yj t).2=0 then Q2 (l.map Xt)else(Yj t).2
theorem QoB{s:List UInt8}:Xq [.int .i64 (bif decide (s.length<=32)then 0 else 8),.int .i64 (bif Zz s then 0 else 4)]=Xt s:=by
  rw[Qco];unfold Xt
  by_cases h:s.length<=32
  · simp[h,cond_eq_ite]
  · simp[h]
theorem c139(w:World)(s:List UInt8)(hm:s.length<=1000000):CR 139 #[.string (bs s)] w (.bool (Zz s)):=by
 have e1:((s.length:Int)<=32) ↔ s.length<=32:=om
 refine eN1 Tryz.func139 Tryz.ntmps139 ?_
 refine aU9 ?_
 refine Xu 4 5 9 rfl
  (λhg1 _=>by
   refine aU3 ?_
   refine o_p (Qi rfl rfl Tryz.underlying9) rfl (aU2 ?_)
   exact oJt 4 9)
  (λhg3 _=>by
   refine aU3 ?_
   exact oJf 4 9) ?_
 refine aU ?_
 refine Xu 3 10 13 rfl
  (λhg5 _=>by
   refine aU3 ?_
   refine oCq rfl (λw1 h1=>QpE w1 s 205 #[] Yc hm (by kernel_rfl) (λk w2 hk h2=>c205 w2 _)) ?_
   exact oJt 3 13)
  (λhg7 _=>by
   refine aU2 ?_
   exact oJf 3 13) ?_
 refine aU ?_
 refine Xu 3 14 17 rfl
  (λhg9 _=>by
   refine aU4 ?_
   exact oJt 3 17)
  (λhg11 _=>by
   refine aU2 ?_
   exact oJf 3 17) ?_
 refine aU ?_
 refine Xu 4 18 22 rfl
  (λhg13 _=>by
   refine aU3 ?_
   refine oCq rfl (λw1 h1=>hs91 w1 s [32] om) (aU2 ?_)
   exact oJt 4 22)
  (λhg15 _=>by
   refine aU3 ?_
   exact oJf 4 22) ?_
 refine aU ?_
 refine Xu 4 23 27 rfl
  (λhg17 _=>by
   refine aU3 ?_
   refine oCq rfl (λw1 h1=>hs91 w1 s [46] om) (aU2 ?_)
   exact oJt 4 27)
  (λhg19 _=>by
   refine aU3 ?_
   exact oJf 4 27) ?_
 refine aU2 ?_
 exact rV (h:=by simp only[Qw,Zz,e1])
theorem c75(w:World)(s:List UInt8)(hm:s.length<=1000000):CR 75 #[.string (bs s)] w (.int .i64 (Xt s)):=by
 have e1:((s.length:Int)<=32) ↔ s.length<=32:=om
 refine eN1 Tryz.func75 Tryz.ntmps75 ?_
 refine aU7 ?_
 refine o_p (Qi rfl rfl Tryz.underlying9) rfl (aU ?_)
 refine oCq rfl (λw1 h1=>Qgz w1 _ _) (aU ?_)
 refine oCq rfl (λw1 h1=>c139 w1 s hm) (oCq rfl (λw1 h1=>Qgz w1 _ _) (o_h (Qg (cs:=[_,_]) rfl rfl Xp YC rfl rfl rfl) rfl (λb1 _=>oCq rfl (λw1 h1=>f137 h1 aPk (by rfl) (by rfl) (by decide)) (aU2 ?_))))
 exact rV (h:=by rw[<-QoB];simp only[Qw,e1])
theorem c218(w:World)(c:UInt8):CR 218 #[.int .u8 (c.toNat:Int)] w (.bool (Qko c)):=by
 have e1:((c.toNat:Int)=63) ↔ c=63:=⟨λh=>UInt8.toNat_inj.1 (by show c.toNat=63;omega),λh=>by rw[h];rfl⟩
 have e2:((c.toNat:Int)=42) ↔ c=42:=⟨λh=>UInt8.toNat_inj.1 (by show c.toNat=42;omega),λh=>by rw[h];rfl⟩
 refine eN1 Tryz.func218 Tryz.ntmps218 ?_
 refine aU9 ?_
 refine oOr 3 5 8 rfl
  (λhg1 _=>by
   refine aU4 ?_
   exact oJf 3 8)
  (λhg3 _=>by
   refine aU2 ?_
   exact oJt 3 8) ?_
 refine aU ?_
 refine oOr 3 9 12 rfl
  (λhg5 _=>by
   refine aU3 ?_
   refine oCq rfl (λw1 h1=>c205 w1 c) ?_
   exact oJf 3 12)
  (λhg7 _=>by
   refine aU2 ?_
   exact oJt 3 12) ?_
 refine aU2 ?_
 exact rV (h:=by simp only[Qw,Qko,e1,e2])
theorem c147(w:World)(s:List UInt8)(hm:s.length<=1000000):CR 147 #[.string (bs s)] w (.int .i64 (Qgi s)):=by
 have e1:((s.length:Int)<=64) ↔ s.length<=64:=om
 refine eN1 Tryz.func147 Tryz.ntmps147 ?_
 refine aU7 ?_
 refine oCq rfl (λw1 h1=>QpE w1 s 218 #[] Qko hm (by kernel_rfl) (λk w2 hk h2=>c218 w2 _)) (aU5 ?_)
 refine o_p (Qi rfl rfl Tryz.underlying9) rfl (aU ?_)
 refine oCq rfl (λw1 h1=>Qgz w1 _ _) (aU3 ?_)
 refine Xu 2 12 14 rfl
  (λhg1 _=>by
   refine aU2 ?_
   exact oJt 2 14)
  (λhg3 _=>by
   refine aU ?_
   exact oJf 2 14) ?_
 refine oCq rfl (λw1 h1=>Qgz w1 _ _) (o_h (Qg (cs:=[_,_]) rfl rfl Xp YC rfl rfl rfl) rfl (λb5 _=>oCq rfl (λw1 h1=>f137 h1 aPk (by rfl) (by rfl) (by decide)) (aU2 ?_)))
 exact rV (h:=by simp only[Qw,e1];rw[Qco];unfold Qgi;by_cases h:s.length<=64<;>simp[h,cond_eq_ite])
theorem c217(w:World)(t:List UInt8)(hm:t.length<=1000000):CR 217 #[.string (bs t)] w (.tuple #[.int .i64 (Yj t).1,.int .i64 (Yj t).2]):=by
 refine eN1 Tryz.func217 Tryz.ntmps217 ?_
 refine aU2 ?_
 refine oBx λb1 _=>?_
 refine aU7 ?_
 refine o_p (Qi rfl rfl Tryz.underlying9) rfl (aU2 ?_)
 refine sCd rfl (λh2=>?_) λh2=>?_
 ·have hl:¬t.length=128:=by have hq:=h2;omega
  refine aU5 ?_
  exact Qj (rs:=[.tmp 2,.tmp 3]) rfl (.tmp rfl (.tmp rfl (.nil))) (λw' h'=>⟨by rw[Yj,if_neg hl];rfl,h'.below⟩)
 have hl:t.length=128:=by have hq:=h2;omega
 refine aU5 ?_
 refine o_h (ZS rfl rfl Tryz.underlying9 Tryz.underlying226 Tryz.underlying5 rfl (by simp only[maxLen];omega)) rfl (λ⟨b3,c4⟩⟨h5,k6⟩=>oCq rfl (λw1 h1=>c273 w1 _ _ t 274 #[] (t.map Qf2) (h1.vl_blk aPk) hm (by kernel_rfl) (by simp) (λk w2 hk h2=>by rw[YU (d:=0) hk];exact c274 w2 _)) (QbB ?_))
 refine sCd rfl (λh7=>?_) λh7=>?_
 ·have h0:¬(Qx (t.map Qf2) 0).2=0:=h7
  refine aU7 ?_
  exact Qj (rs:=[.tmp 2,.tmp 3]) rfl (.tmp rfl (.tmp rfl (.nil))) (λw' h'=>⟨by rw[Yj,if_pos hl,if_neg h0];rfl,h'.below⟩)
 have h0:(Qx (t.map Qf2) 0).2=0:=h7
 refine aU4 ?_
 refine o_h (ZS rfl rfl Tryz.underlying9 Tryz.underlying226 Tryz.underlying5 rfl (by simp only[maxLen];omega)) rfl (λ⟨b8,c9⟩⟨h10,k11⟩=>aU ?_)
 refine oCq rfl (λw1 h1=>c273 w1 _ _ t 275 #[.pointer (some ⟨b1,0,none⟩)] (t.map (Qk4 t)) (h1.vl_blk aPk) hm (by kernel_rfl) (by simp) (λk w2 hk h2=>by rw[YU (d:=0) hk];exact c275 w2 b1 t _ ((h1.rd_blk (Mc:=[]) (b:=b1) aPk rfl (by simp)).next h2) (by have h9:=Qbu.1 h0 _ (List.mem_map.2 ⟨_,Yt (d:=0) hk,rfl⟩);unfold Qf2 at h9;split at h9;(rw[hl];assumption);(exact absurd h9 (by decide))))) (aU5 ?_)
 exact Qj (rs:=[.tmp 2,.tmp 3]) rfl (.tmp rfl (.tmp rfl (.nil))) (λw' h'=>⟨by rw[Yj,if_pos hl,if_pos h0];rfl,h'.below⟩)
theorem c146(w:World)(t:List UInt8)(hm:t.length<=1000000):CR 146 #[.string (bs t)] w (.tuple #[.string (bs t),.int .i64 (Yj t).2]):=by
 refine eN1 Tryz.func146 Tryz.ntmps146 ?_
 refine aU8 ?_
 refine oCq rfl (λw1 h1=>c217 w1 t hm) (Qby ?_)
 exact Qj (rs:=[.tmp 2,.tmp 3]) rfl (.tmp rfl (.tmp rfl (.nil))) (λw' h'=>⟨rfl,h'.below⟩)
theorem c173(w:World)(a:Option Addr)(cap:Nat)(l:List (List UInt8))(hs:Vl w a (l.map Qhg))(hl:l.length<=1000000)(hml:∀s∈l,s.length<=1000000):CR 173 #[.slice a l.length cap] w (.int .i64 (QcI l)):=by
 have e1:((l.length:Int)<=200) ↔ l.length<=200:=om
 refine eN1 Tryz.func173 Tryz.ntmps173 ?_
 refine aU7 ?_
 refine oCq rfl (λw1 h1=>c233 w1 a cap l 75 #[] (l.map Xt) (hs.later h1) om (by kernel_rfl) (by simp) (λk w2 hk h2=>by rw[YU (d:=[]) hk];exact c75 w2 _ (hml _ (Yt hk)))) (QbB ?_)
 refine oCq rfl (λw1 h1=>Qgz w1 _ _) (aU ?_)
 refine o_h (Qg (cs:=[_,_]) rfl rfl Xp YC rfl rfl rfl) rfl (λb1 _=>oCq rfl (λw1 h1=>f137 h1 aPk (by rfl) (by rfl) (by decide)) (aU2 ?_))
 exact rV (h:=by simp only[Qw,e1];rw[Qco,ZP];unfold QcI;by_cases h:l.length<=200<;>simp[h])
theorem c170(w:World)(t:List UInt8)(a:Option Addr)(cap:Nat)(l:List (List UInt8))(hm:t.length<=1000000)(hs:Vl w a (l.map Qhg))(hl:l.length<=1000000)(hml:∀s∈l,s.length<=1000000):CR 170 #[.string (bs t),.slice a l.length cap] w (.tuple #[.string (bs t),.int .i64 (openE t l)]):=by
 refine eN2 Tryz.func170 Tryz.ntmps170 ?_
 refine aU8 ?_
 refine oCq rfl (λw1 h1=>c146 w1 t hm) (aU9 ?_)
 refine oCq rfl (λw1 h1=>c233 w1 a cap l 75 #[] (l.map Xt) (hs.later h1) om (by kernel_rfl) (by simp) (λk w2 hk h2=>by rw[YU (d:=[]) hk];exact c75 w2 _ (hml _ (Yt hk)))) (QbB ?_)
 refine o_h (Qg (cs:=[_,_]) rfl rfl Xp YC rfl rfl rfl) rfl (λb1 _=>oCq rfl (λw1 h1=>f137 h1 aPk (by rfl) (by rfl) (by decide)) (aU3 ?_))
 exact Qj (rs:=[.tmp 4,.tmp 5]) rfl (.tmp rfl (.tmp rfl (.nil))) (λw' h'=>⟨by simp only[Qw];rw[Qco,ZP];rfl,h'.below⟩)
theorem Qg2{t:List UInt8}{l:List (List UInt8)}(h:openE t l=0):(Yj t).2=0/\∀s∈l,Xt s=0:=by
  unfold openE at h;split at h
  · rename_i h1;exact⟨h1,λs hs=>Qgv.1 h _ (List.mem_map.2 ⟨s,hs,rfl⟩)⟩
  · rename_i h1;exact absurd h h1
end Go.Proofs
namespace Go.Proofs
open Go Go.RowKit Gx
theorem Qgl{L:List Bool}{k:Nat}{x:Bool}{v:Value}(h:k<L.length)(hv:v=.bool x):Qc (L.map Value.bool) (k*1) [v]=(L.set k x).map Value.bool:=by
 subst hv;have h9:=Qcy (vals:=λb:Bool=>[Value.bool b]) (sz:=1) (λ_=>rfl) L k 0 [.bool x] (L.getD k false) x (by rw[List.getElem?_eq_getElem h,List.getD_eq_getElem?_getD,List.getElem?_eq_getElem h];rfl) rfl (by simp);rw[Nat.add_zero,Qcr,Qcr]at h9;exact h9
theorem Qeh{l:List Bool}{k:Nat}(h:k<l.length):(l.map Value.bool)[k]?=some (.bool (l.getD k false)):=by
 simp[List.getD_eq_getElem?_getD,List.getElem?_eq_getElem h]
def Qdi(t s r:List UInt8):List Bool:=(List.range (s.length+1)).map (mtR t s r)
def Qaf(t s r:List UInt8)(i:Nat):List Bool:=(Qdi t s r).take i++List.replicate (s.length+1-i) false
theorem Yq{t s r:List UInt8}:(Qdi t s r).length=s.length+1:=by simp[Qdi]
theorem QdC{t s r:List UInt8}{i:Nat}(h:i<s.length+1):(Qdi t s r).getD i false=mtR t s r i:=by
 unfold Qdi;rw[List.getD_eq_getElem?_getD,List.getElem?_map,List.getElem?_range h];rfl
theorem QfA{t s r:List UInt8}{i:Nat}(h:i<s.length+1):(Qdi t s r)[i]?=some (mtR t s r i):=by
 unfold Qdi;rw[List.getElem?_map,List.getElem?_range h];rfl
theorem Zw{t s r:List UInt8}{i:Nat}(h:i<=s.length+1):(Qaf t s r i).length=s.length+1:=by simp[Qaf,Yq];omega
theorem Qcn{t s r:List UInt8}{i:Nat}(h:i<s.length+1):(Qaf t s r i).set i (mtR t s r i)=Qaf t s r (i+1):=by
 have h1:=QfA (t:=t) (r:=r) h;have hl:=Yq (t:=t) (s:=s) (r:=r);unfold Qaf;apply List.ext_getElem?;intro j;simp only[List.getElem?_set,List.getElem?_append,List.getElem?_take,List.length_append,List.length_take,List.getElem?_replicate,List.length_replicate]
 grind
theorem QjU{t s r:List UInt8}{i:Nat}(h:i<s.length+1)(hf:mtR t s r i=false):Qaf t s r i=Qaf t s r (i+1):=by
 rw[<-Qcn h,hf];unfold Qaf;have hl:=Yq (t:=t) (s:=s) (r:=r);apply List.ext_getElem?;intro j;simp only[List.getElem?_set,List.getElem?_append,List.getElem?_take,List.length_append,List.length_take,List.getElem?_replicate,List.length_replicate]
 grind
theorem Qlr{t s r:List UInt8}{i j:Nat}(h:i<=s.length+1)(hj:j<i):(Qaf t s r i).getD j false=mtR t s r j:=by
 unfold Qaf;rw[List.getD_eq_getElem?_getD,List.getElem?_append_left (by rw[List.length_take,Yq];omega),List.getElem?_take,if_pos hj,QfA om];rfl
theorem Qll{t s r:List UInt8}:Qaf t s r (s.length+1)=Qdi t s r:=by
 unfold Qaf;rw[Nat.sub_self,List.replicate_zero,List.append_nil,List.take_of_length_le (by rw[Yq];exact Nat.le_refl _)]
theorem Qqo{t s r:List UInt8}:Qaf t s r 0=List.replicate (s.length+1) false:=by simp[Qaf]
theorem QlU{t s:List UInt8}:(List.replicate (s.length+1) false).set 0 true=Qdi t s []:=by
 apply List.ext_getElem?;intro j;rcases Nat.lt_or_ge j (s.length+1)with h|h
 ·rw[QfA h];simp only[List.getElem?_set,List.getElem?_replicate,List.length_replicate,mtR];rcases j with _|j<;>simp[h]
 ·rw[List.getElem?_eq_none (by simpa using h),List.getElem?_eq_none (by rw[Yq];exact h)]
theorem QnY{t s r:List UInt8}{c:UInt8}{i:Nat}(h:c=42):mtR t s (c::r) i=(mtR t s r i||(decide (0<i)&&mtR t s (c::r) (i-1))):=by
 subst h;rcases i with _|i
 ·rw[mtR];simp
 ·rw[mtR];simp
theorem QhL{t s r:List UInt8}{c:UInt8}{i:Nat}(h:¬c=42):mtR t s (c::r) i=((decide (0<i)&&mtR t s r (i-1))&&(decide (c=63)||decide (t.getD c.toNat 0=t.getD (s.getD (i-1) 0).toNat 0))):=by
 rcases i with _|i
 ·rw[mtR];simp[h]
 ·rw[mtR];simp[h]
theorem rev_take{p:List UInt8}{k:Nat}(h:k<p.length):(p.take (k+1)).reverse=p.getD k 0::(p.take k).reverse:=by
 rw[XX (d:=0) h,List.reverse_append];rfl
end Go.Proofs
namespace Go.Proofs
open Go Go.RowKit Gx
attribute [local irreducible] Go.Calls Gx.S Gx.O Gx.D Gx.OpP Gx.OpQ Gx.OpH
set_option maxRecDepth 20000
theorem ZW:tsl Tryz.prog 228=some (4,1,1):=by kernel_rfl
theorem zr_4:Qz Tryz.prog 4=some [.bool false]:=by kernel_rfl
theorem Qd3:tsz Tryz.prog 4=some (1,false):=by kernel_rfl
instance:TSz Tryz.prog 4 1 false:=⟨Qd3⟩
theorem mixed:Tryz.prog.follows .mixedOrders=true:=by kernel_rfl
instance:TFn Tryz.prog 147:=⟨by kernel_rfl⟩
theorem Qlc:QJ Tryz.prog 75=true:=by kernel_rfl
instance:TFn Tryz.prog 75:=⟨Qlc⟩
instance:TFn Tryz.prog 148:=⟨by kernel_rfl⟩
set_option maxHeartbeats 2000000 in
theorem c148(w:World)(t p s:List UInt8)(hl:t.length=128)(hp:∀c∈p,c.toNat<128)(hs:∀c∈s,c.toNat<128)(hmp:p.length<=1000000)(hms:s.length<=1000000):CR 148 #[.string (bs t),.string (bs p),.string (bs s)] w (.bool (mtU t p s)):=by
 refine eN3 Tryz.func148 Tryz.ntmps148 ?_
 refine aU7 ?_
 refine o_p (Qi rfl rfl Tryz.underlying9) rfl (aT ?_)
 refine o_h (QeB (n:=(s.length+1)) rfl rfl rfl ZW zr_4 om om) rfl (λb1 _=>aU5 ?_)
 refine o_p (Qb rfl rfl rfl ZW (0) om om rfl) rfl (Qn (show _=Value.pointer (some ⟨b1,0*1,none⟩)from rfl) (ZG (X5 rfl rfl rfl Qd3 rfl aPt (by rw[Nat.mul_one,Qt];omega) rfl) (λ_ _=>aU5 ?_)))
 refine o_h (ZS rfl rfl Tryz.underlying9 Tryz.underlying226 Tryz.underlying5 rfl (by simp only[maxLen];omega)) rfl (λ⟨b2,c3⟩⟨h4,k5⟩=>aU4 ?_)
 refine Qs (α:=Nat×Nat) [7,9,10,11,21,22,23,24,25,26,27,28,29,30,31,32,33,34,35,36,37,38,39,40,41,42,43,44,45,46,47,48,49,50,51,52,53,54,55,56,57,58,59,60,61,62,63,64,65,66,67,68,69,70,71,72,73,74,75,76,77,78,79,80,81,82,83,84] (λy=>[(21,.int .i64 (y.1:Int)),(7,.slice (some ⟨y.2,0,none⟩) (s.length+1) (s.length+1))]) (λy=>HS w [] [.blk y.2 4 ((s.length+1)*1) ((Qdi t s (p.take y.1).reverse).map Value.bool),.blk b2 5 c3 (p.map bv)]) (λy=>y.1<=p.length) (λy=>p.length-y.1) (0,b1) (Nat.zero_le _) aSx (λw h=>by have h1:=HS.blk_to (b:=b1) h aPk (show Qc (Xa [.bool false] ((s.length+1)*1)) (0*1) [.bool true]=(Qdi t s []).map Value.bool from by rw[Nat.mul_one,Qes,<-List.map_replicate (f:=Value.bool),Qgl (by simp) rfl,QlU]);exact h1.ent aEt) (λ⟨k,b⟩hk1=>?_)
 dsimp only at hk1 ⊢
 refine aU5 ?_
 refine sCd rfl (λh6=>?_) λh6=>?_
 ·have hk:k<p.length:=by omega
  have hpc:=hp (p.getD k 0) (Yt hk)
  refine aU5 ?_
  refine o_p (Qb rfl rfl rfl QN (k) om om rfl) rfl (o_q (X0 rfl rfl QeE (λw h=>by rw[Nat.zero_add];exact h.rd_blk (Mc:=[]) aPk (by rw[Nat.mul_one];exact QcH hk) (by simp))) rfl (aU5 ?_))
  refine o_p (Qi rfl rfl Tryz.underlying9) rfl (aT ?_)
  refine o_h (QeB (n:=(s.length+1)) rfl rfl rfl ZW zr_4 om om) rfl (λb7 _=>ZH ?_)
  refine Qs (α:=Nat) [11,31,32,33,34,35,36,37,38,39,40,41,42,43,44,45,46,47,48,49,50,51,52,53,54,55,56,57,58,59,60,61,62,63,64,65,66,67,68,69,70,71,72,73,74,75,76,77,78,79,80,81,82] (λi=>[(31,.int .i64 (i:Int))]) (λi=>HS w [] [.blk b7 4 ((s.length+1)*1) ((Qaf t s (p.getD k 0::(p.take k).reverse) i).map Value.bool),.blk b 4 ((s.length+1)*1) ((Qdi t s (p.take k).reverse).map Value.bool),.blk b2 5 c3 (p.map bv)]) (λi=>i<=(s.length+1)) (λi=>(s.length+1)-i) 0 (Nat.zero_le _) aSx (λw h=>by have h1:=HS.blk_to (b:=b7) h aPk (show Xa [.bool false] ((s.length+1)*1)=(Qaf t s (p.getD k 0::(p.take k).reverse) 0).map Value.bool from by rw[Nat.mul_one,Qes,Qqo,List.map_replicate]);exact h1.ent aEt) (λi hi1=>?_)
  refine aU5 ?_
  refine sCd rfl (λh8=>?_) λh8=>?_
  ·have hi:i<(s.length+1):=by omega
   refine Qiq ?_
   refine sCd rfl (λh9=>?_) λh9=>?_
   ·have hc42:p.getD k 0=42:=UInt8.toNat_inj.1 (by show(p.getD k 0).toNat=42;have hq:=h9;omega)
    refine aU5 ?_
    refine o_p (Qb rfl rfl rfl ZW (i) om om rfl) rfl (o_q (X0 rfl rfl Qd3 (λw h=>by rw[Nat.zero_add];exact h.rd_blk (Mc:=[]) (b:=b) aPk (by rw[Nat.mul_one,Qeh (by rw[Yq];exact hi),QdC hi]) (by simp))) rfl (aU ?_))
    refine oOr 10 43 53 rfl
     (λhg10 _=>by
      refine aU6 ?_
      refine Xu 6 46 52 rfl
       (λhg12 _=>by
        refine aT6 ?_
        refine aU ?_
        refine o_p (Qb rfl rfl rfl ZW (i-1) om om rfl) rfl (aU ?_)
        refine o_q (X0 rfl rfl Qd3 (λw h=>by rw[Nat.zero_add];exact h.rd_blk (Mc:=[]) (b:=b7) aPk (by rw[Nat.mul_one,Qeh (by rw[Zw om];omega),Qlr om (by have hq:=hg12;omega)]) (by simp))) rfl (aU ?_)
        exact oJt 6 52)
       (λhg14 _=>by
        refine aU6 ?_
        exact oJf 6 52) ?_
      exact oJf 5 53)
     (λhg16 _=>by
      refine aU9 ?_
      exact oJt 10 53) ?_
    refine Qn (show _=Value.bool (mtR t s (p.getD k 0::(p.take k).reverse) i)from by congr 1;rw[QnY (i:=i) hc42];simp) (o_p (Qb rfl rfl rfl ZW (i) om om rfl) rfl (Qn (show _=Value.pointer (some ⟨b7,i*1,none⟩)from by rw[Nat.zero_add]) (ZG (X5 rfl rfl rfl Qd3 rfl aPt (by rw[List.length_map,Zw om];omega) rfl) (λ_ _=>aU3 ?_))))
    refine Ql (L':=[(0,_),(1,_),(2,_),(6,_),(7,_),(9,_),(10,_),(12,_),(13,_),(14,_),(15,_),(16,_),(17,_),(18,_),(19,_),(20,_),(21,_),(22,_),(23,_),(24,_),(25,_),(26,_),(27,_),(28,_),(29,_),(30,_),(31,_)]) aSx (λ_ h=>h) ?_
    refine aT2 ?_
    refine aU2 ?_
    exact Qv (i+1) om om aSx (λw h=>by have h1:=HS.blk_to (b:=b7) h aPk (Qgl (L:=Qaf t s (p.getD k 0::(p.take k).reverse) i) (x:=(mtR t s (p.getD k 0::(p.take k).reverse) i)) (by rw[Zw om];omega) rfl);rw[Qcn hi]at h1;exact h1.ent aEt)
   have hc42:¬p.getD k 0=42:=by intro hA;have hq:=h9;rw[hA]at hq;exact hq rfl
   refine aU5 ?_
   refine Xu 6 58 64 rfl
    (λhg18 _=>by
     refine aT6 ?_
     refine aU ?_
     refine o_p (Qb rfl rfl rfl ZW (i-1) om om rfl) rfl (aU ?_)
     refine o_q (X0 rfl rfl Qd3 (λw h=>by rw[Nat.zero_add];exact h.rd_blk (Mc:=[]) (b:=b) aPk (by rw[Nat.mul_one,Qeh (by rw[Yq];omega),QdC om]) (by simp))) rfl ?_
     exact oJt 6 64)
    (λhg20 _=>by
     refine aU5 ?_
     exact oJf 6 64) ?_
   refine aU2 ?_
   refine sCd rfl (λh22=>?_) λh22=>?_
   ·have hsi:=hs (s.getD (i-1) 0) (Yt (by have hq:=h22;omega))
    have hq5:=h22
    have hpre:(decide (0<i)&&mtR t s (p.take k).reverse (i-1))=true:=by simp;exact⟨om,hq5.2⟩
    have e63:(((p.getD k 0).toNat:Nat):Int)=63 ↔ p.getD k 0=63:=⟨λh=>UInt8.toNat_inj.1 (by show(p.getD k 0).toNat=63;omega),λh=>by rw[h];rfl⟩
    have eT:((t.getD (p.getD k 0).toNat 0).toNat:Int)=((t.getD (s.getD (i-1) 0).toNat 0).toNat:Int) ↔ t.getD (p.getD k 0).toNat 0=t.getD (s.getD (i-1) 0).toNat 0:=⟨λh=>UInt8.toNat_inj.1 om,λh=>by rw[h]⟩
    refine Ql (L':=[(0,_),(1,_),(2,_),(6,_),(7,_),(9,_),(10,_),(11,_),(12,_),(13,_),(14,_),(15,_),(16,_),(17,_),(18,_),(19,_),(20,_),(21,_),(22,_),(23,_),(24,_),(25,_),(26,_),(27,_),(28,_),(29,_),(30,_),(31,_)]) aSx (λ_ h=>h) ?_
    refine QA [17] mixed ?_
    refine dP 0 ?_
    refine dP 1 ?_
    refine dP 2 ?_
    refine dP 3 ?_
    refine dP 4 ?_
    apply Xl 69
    ·exact rfl
    ·intro hg23
     have hs24:=hg23;try simp only[dT]at hs24
     refine dOf 5 69 hg23 ?_
     refine dOf 6 69 hg23 ?_
     refine dOf 7 69 hg23 ?_
     refine dOf 8 69 hg23 ?_
     refine dOf 9 69 hg23 ?_
     refine dOf 10 69 hg23 ?_
     refine dOf 11 69 hg23 ?_
     refine dOf 12 69 hg23 ?_
     refine dOf 13 69 hg23 ?_
     refine dOf 14 69 hg23 ?_
     refine dV 15 rfl (Xf rfl rfl hg23 rfl) (Qu (show _=Value.bool (mtR t s (p.getD k 0::(p.take k).reverse) i)from by rw[QhL hc42,hpre];first|(have hgA:=of_decide_eq_true hg23;rw[e63]at hgA;rw[decide_eq_true hgA];rfl)|(have hgA:=of_decide_eq_false hg23;rw[e63]at hgA;rw[decide_eq_false hgA,decide_eq_decide.2 eT];rfl)) (dV 16 rfl (Qb rfl rfl rfl ZW (i) om om rfl) (Qu (show _=Value.pointer (some ⟨b7,i*1,none⟩)from by rw[Nat.zero_add]) (QnU 17 rfl (X5 rfl rfl rfl Qd3 rfl aPt (by rw[List.length_map,Zw om];omega) rfl) (by kernel_rfl) (λw h=>h.ent aEt) (λ_ _=>?_)))))
     refine dTu [] ?_
     refine dNi ?_
     refine aU2 ?_
     refine Ql (L':=[(0,_),(1,_),(2,_),(6,_),(7,_),(9,_),(10,_),(12,_),(13,_),(14,_),(15,_),(16,_),(17,_),(18,_),(19,_),(20,_),(21,_),(22,_),(23,_),(24,_),(25,_),(26,_),(27,_),(28,_),(29,_),(30,_),(31,_)]) aSx (λ_ h=>h) ?_
     refine aT2 ?_
     refine aU2 ?_
     exact Qv (i+1) om om aSx (λw h=>by have h1:=HS.blk_to (b:=b7) h aPk (Qgl (L:=Qaf t s (p.getD k 0::(p.take k).reverse) i) (x:=(mtR t s (p.getD k 0::(p.take k).reverse) i)) (by rw[Zw om];omega) rfl);rw[Qcn hi]at h1;exact h1.ent aEt)
    intro hg25
    have hs26:=hg25;try simp only[dN]at hs26
    refine dPo 5 69 hg25 ?_
    refine dPo 6 69 hg25 ?_
    refine dVo 7 69 hg25 rfl rfl rfl (QD rfl rfl rfl Tryz.underlying223 ((p.getD k 0).toNat) om om) ?_
    refine dPo 8 69 hg25 ?_
    refine dPo 9 69 hg25 ?_
    refine dPo 10 69 hg25 ?_
    refine dPo 11 69 hg25 ?_
    try refine dWr ?_
    refine dVo 12 69 hg25 rfl rfl rfl (QD rfl rfl rfl Tryz.underlying9 (i-1) om om) ?_
    refine dVo 13 69 hg25 rfl rfl rfl (QD rfl rfl rfl Tryz.underlying223 ((s.getD (i-1) 0).toNat) om om) ?_
    refine dPo 14 69 hg25 ?_
    refine dV 15 rfl (Xk rfl rfl hg25 rfl) (Qu (show _=Value.bool (mtR t s (p.getD k 0::(p.take k).reverse) i)from by rw[QhL hc42,hpre];first|(have hgA:=of_decide_eq_true hg25;rw[e63]at hgA;rw[decide_eq_true hgA];rfl)|(have hgA:=of_decide_eq_false hg25;rw[e63]at hgA;rw[decide_eq_false hgA,decide_eq_decide.2 eT];rfl)) (dV 16 rfl (Qb rfl rfl rfl ZW (i) om om rfl) (Qu (show _=Value.pointer (some ⟨b7,i*1,none⟩)from by rw[Nat.zero_add]) (QnU 17 rfl (X5 rfl rfl rfl Qd3 rfl aPt (by rw[List.length_map,Zw om];omega) rfl) (by kernel_rfl) (λw h=>h.ent aEt) (λ_ _=>?_)))))
    refine dTu [] ?_
    refine dNi ?_
    refine aU2 ?_
    refine Ql (L':=[(0,_),(1,_),(2,_),(6,_),(7,_),(9,_),(10,_),(12,_),(13,_),(14,_),(15,_),(16,_),(17,_),(18,_),(19,_),(20,_),(21,_),(22,_),(23,_),(24,_),(25,_),(26,_),(27,_),(28,_),(29,_),(30,_),(31,_)]) aSx (λ_ h=>h) ?_
    refine aT2 ?_
    refine aU2 ?_
    exact Qv (i+1) om om aSx (λw h=>by have h1:=HS.blk_to (b:=b7) h aPk (Qgl (L:=Qaf t s (p.getD k 0::(p.take k).reverse) i) (x:=(mtR t s (p.getD k 0::(p.take k).reverse) i)) (by rw[Zw om];omega) rfl);rw[Qcn hi]at h1;exact h1.ent aEt)
   have hmf:(mtR t s (p.getD k 0::(p.take k).reverse) i)=false:=by rw[QhL hc42];have hq:=h22;(have eA:(decide (0<i)&&mtR t s (p.take k).reverse (i-1))=false:=by by_cases hz:0<i;(simp[hz];(rcases hq with hq|hq;(exfalso;omega);exact hq));simp[hz]);rw[eA];rfl
   refine aU3 ?_
   refine Ql (L':=[(0,_),(1,_),(2,_),(6,_),(7,_),(9,_),(10,_),(12,_),(13,_),(14,_),(15,_),(16,_),(17,_),(18,_),(19,_),(20,_),(21,_),(22,_),(23,_),(24,_),(25,_),(26,_),(27,_),(28,_),(29,_),(30,_),(31,_)]) aSx (λ_ h=>h) ?_
   refine aT2 ?_
   refine aU2 ?_
   exact Qv (i+1) om om aSx (λw h=>by rw[<-QjU hi hmf];exact h.ent aEt)
  obtain rfl:i=(s.length+1):=om
  rw[Qll,<-rev_take hk]
  refine Qh rfl ?_
  refine aT7 ?_
  refine aU2 ?_
  exact sBk (k+1,b7) (by show p.length-(k+1)<p.length-k;omega) (by show k+1<=p.length;omega)
 obtain rfl:k=p.length:=om
 rw[List.take_length]
 refine Qh rfl ?_
 refine aU4 ?_
 refine o_p (Qi rfl rfl Tryz.underlying9) rfl (o_p (Qb rfl rfl rfl ZW (s.length) om om rfl) rfl (o_q (X0 rfl rfl Qd3 (λw h=>by rw[Nat.zero_add];exact h.rd_blk (Mc:=[]) (b:=b) aPk (by rw[Nat.mul_one,Qeh (by rw[Yq];omega),QdC om]) (by simp))) rfl (aU2 ?_)))
 exact rV
def QfH(t p s:List UInt8):Int:=if(Yj t).2=0 then if Qgi p=0 then Xt s else Qgi p else(Yj t).2
theorem Qoi{t p s:List UInt8}(h:QfH t p s=0):(Yj t).2=0/\Qgi p=0/\Xt s=0:=by
  unfold QfH at h
  grind
theorem c81(w:World)(t p s:List UInt8)(hmt:t.length<=1000000)(hmp:p.length<=1000000)(hms:s.length<=1000000):CR 81 #[.string (bs t),.string (bs p),.string (bs s)] w (.tuple #[.bool (if QfH t p s=0 then mtU t p s else false),.int .i64 (QfH t p s)]):=by
 have he:Xq [.int .i64 (Yj t).2,.int .i64 (Qgi p),.int .i64 (Xt s)]=QfH t p s:=by rw[QnS];rfl
 refine eN3 Tryz.func81 Tryz.ntmps81 ?_
 refine aU8 ?_
 refine oCq rfl (λw1 h1=>c146 w1 t hmt) (QbB ?_)
 refine oCq rfl (λw1 h1=>c147 w1 p hmp) (aU ?_)
 refine oCq rfl (λw1 h1=>c75 w1 s hms) (o_h (Qg (cs:=[_,_,_]) rfl rfl Xp YC rfl rfl rfl) rfl (λb1 _=>oCq rfl (λw1 h1=>f137 h1 aPk (by rfl) (by rfl) (by decide)) (aU7 ?_)))
 refine sCd rfl (λh2=>?_) λh2=>?_
 ·have h0:¬QfH t p s=0:=by rw[<-he];exact h2
  refine aU6 ?_
  exact Qj (rs:=[.tmp 6,.tmp 7]) rfl (.tmp rfl (.tmp rfl (.nil))) (λw' h'=>⟨by rw[if_neg h0,<-he];rfl,h'.below⟩)
 have h0:QfH t p s=0:=by rw[<-he];exact h2
 have ho:=Qoi h0
 refine aU6 ?_
 refine oCq rfl (λw1 h1=>c148 w1 t p s (QcP ho.1).1 (Qn9 ho.2.1).2.2 (Qcz ho.2.2) hmp hms) (aU3 ?_)
 exact Qj (rs:=[.tmp 6,.tmp 7]) rfl (.tmp rfl (.tmp rfl (.nil))) (λw' h'=>⟨by rw[if_pos h0,h0];rfl,h'.below⟩)
end Go.Proofs
namespace Go.Proofs
open Go Go.RowKit Gx
theorem Qhl:∀{s:List UInt8}{c:UInt8},0<=Lib.indexByte s c->∃i:Nat,Lib.indexByte s c=(i:Int)/\i<s.length/\s.getD i 0=c/\∀j,j<i->s.getD j 0≠c
 | [],c,h=>absurd h (by simp[Lib.indexByte])
 | b::s,c,h=>by
  unfold Lib.indexByte at h ⊢
  by_cases e:b=c
  ·subst e;exact⟨0,by simp,by simp,by simp,λj hj=>absurd hj (Nat.not_lt_zero j)⟩
  ·have e':(b==c)=false:=by simpa using e
   rw[e']at h ⊢;simp only[Bool.false_eq_true,if_false]at h ⊢;have h1:=Lib.indexByte_ge s c;split at h
   ·exact absurd h (by decide)
   ·rename_i h2;rw[if_neg h2]
    have h3:0<=Lib.indexByte s c:=by
     have:¬Lib.indexByte s c= -1:=by simpa using h2
     omega
    obtain⟨i,i1,i2,i3,i4⟩:=Qhl h3;refine⟨i+1,by rw[i1];rfl,by simp;omega,by simpa using i3,λj hj=>?_⟩;rcases j with _|j
    ·simpa using e
    ·simpa using i4 j om
theorem QlE:∀{s:List UInt8}{i:Nat},i<s.length->s.getD i 0=46->(∀j,j<i->s.getD j 0≠46)->Zm s=(s.take i,some (s.drop (i+1)))
 | [],i,h,_,_=>absurd h (Nat.not_lt_zero i)
 | b::s,0,_,h,_=>by
  have:b=46:=by simpa using h
  subst this;simp[Zm]
 | b::s,i+1,hl,h,hn=>by
  have h0:b≠46:=by simpa using hn 0 om
  have ih:=QlE (s:=s) (i:=i) (by simpa using hl) (by simpa using h) (λj hj=>by simpa using hn (j+1) om);rw[Zm,if_neg h0,ih];rfl
theorem Qmo:∀{s:List UInt8},46 ∉ s->Zm s=(s,none)
 | [],_=>rfl
 | b::s,h=>by
  have h0:b≠46:=λe=>h (by rw[e];exact List.mem_cons_self ..);rw[Zm,if_neg h0,Qmo (λhm=>h (List.mem_cons_of_mem _ hm))]
theorem Qoa{s:List UInt8}(h:0<=Lib.indexByte s 46):∃i:Nat,Lib.indexByte s 46=(i:Int)/\i<s.length/\Zm s=(s.take i,some (s.drop (i+1))):=by
 obtain⟨i,h1,h2,h3,h4⟩:=Qhl h;exact⟨i,h1,h2,QlE h2 h3 h4⟩
theorem QlH{s:List UInt8}(h:¬0<=Lib.indexByte s 46):Zm s=(s,none):=Qmo (Z4.1 om)
end Go.Proofs
namespace Go.Proofs
open Go Go.RowKit Gx
attribute [local irreducible] Go.Calls Gx.S Gx.O Gx.D Gx.OpP Gx.OpQ Gx.OpH
set_option maxRecDepth 20000
instance:TFn Tryz.prog 324:=⟨by kernel_rfl⟩
instance:TFn Tryz.prog 289:=⟨by kernel_rfl⟩
instance:TFn Tryz.prog 234:=⟨by kernel_rfl⟩
instance:TFn Tryz.prog 235:=⟨by kernel_rfl⟩
theorem zr_9:Qz Tryz.prog 9=some [.string (bs [])]:=by kernel_rfl
instance:TFn Tryz.prog 170:=⟨by kernel_rfl⟩
instance:TFn Tryz.prog 172:=⟨by kernel_rfl⟩
instance:TFn Tryz.prog 171:=⟨by kernel_rfl⟩
theorem ix98(w:World)(s:List UInt8)(c:UInt8):Calls Tryz.prog 324 #[.string (bs s),.string (bs [c])] w λen w'=>en=.returned (.int .i64 (Lib.indexByte s c))/\Below w.heap.size w w':=
  (Tryz.stringslite_Index_one (bs s) c w).mono λe w' h=>⟨by rw[h.1];simp[bs],Zu h.2⟩
theorem c289(w:World)(s:List UInt8)(hm:s.length<=1000000):CR 289 #[.string (bs s),.string (bs [46])] w (.tuple #[.string (bs (Zm s).1),.string (bs ((Zm s).2.getD [])),.bool (Zm s).2.isSome]):=by
 refine eN2 Tryz.func289 Tryz.ntmps289 ?_
 refine QbB ?_
 refine oCq rfl (λw1 h1=>ix98 w1 s 46) (aU7 ?_)
 refine sCd rfl (λh1=>?_) λh1=>?_
 ·obtain⟨i,hi9,hi8,hcd⟩:=Qoa h1
  refine aU ?_
  refine QA [] mixed ?_
  refine dP 0 ?_
  refine dP 1 ?_
  refine dV 2 rfl (Yn i rfl rfl rfl Tryz.underlying9 hi9 om) (dP 3 ?_)
  refine dP 4 ?_
  refine dP 5 ?_
  refine dV 6 rfl (Qi rfl rfl Tryz.underlying9) (dP 7 ?_)
  try refine dWr ?_
  refine Qu (show _=Value.int .i64 ((i+1:Nat):Int)from by rw[hi9];show Value.int .i64 (IntKind.i64.wrap ((i:Int)+1))=.int .i64 ((i:Int)+1);exact Qkt om om) (dV 8 rfl (X1 (i+1) rfl rfl rfl Tryz.underlying9 rfl om) (dP 9 ?_))
  refine dP 10 ?_
  refine dP 11 ?_
  refine dNi ?_
  exact Qj (rs:=[.tmp 4,.tmp 5,.tmp 6]) rfl (.tmp rfl (.tmp rfl (.tmp rfl (.nil)))) (λw' h'=>⟨by rw[hcd];rfl,h'.below⟩)
 have hcd:=QlH h1
 refine aU8 ?_
 exact Qj (rs:=[.tmp 4,.tmp 5,.tmp 6]) rfl (.tmp rfl (.tmp rfl (.tmp rfl (.nil)))) (λw' h'=>⟨by rw[hcd];rfl,h'.below⟩)
theorem c234(w:World)(s:List UInt8)(hm:s.length<=1000000):CR 234 #[.string (bs s),.string (bs [46])] w (.tuple #[.string (bs (Zm s).1),.string (bs ((Zm s).2.getD [])),.bool (Zm s).2.isSome]):=by
 refine eN2 Tryz.func234 Tryz.ntmps234 ?_
 refine ZH ?_
 refine oCq rfl (λw1 h1=>c289 w1 s hm) (aU7 ?_)
 exact Qj (rs:=[.tmp 4,.tmp 5,.tmp 6]) rfl (.tmp rfl (.tmp rfl (.tmp rfl (.nil)))) (λw' h'=>⟨rfl,h'.below⟩)
theorem c290(w:World)(c:UInt8):CR 290 #[.int .u8 (c.toNat:Int)] w (.bool (QbX c)):=by
 have e1:((65:Int)<=(c.toNat:Int)) ↔ 65<=c.toNat:=om
 have e2:((c.toNat:Int)<=90) ↔ c.toNat<=90:=om
 have e3:((48:Int)<=(c.toNat:Int)) ↔ 48<=c.toNat:=om
 have e4:((c.toNat:Int)<=57) ↔ c.toNat<=57:=om
 have e5:decide (0<=Lib.indexByte QaX c)=QaX.contains c:=by by_cases h:c∈QaX;(rw[decide_eq_true (by rcases Int.lt_or_le (Lib.indexByte QaX c) 0 with h9|h9;(exact absurd h (Z4.1 h9));exact h9)];simp[h]);(rw[decide_eq_false (by have:=Z4.2 h;omega)];simp[h])
 refine eN1 Tryz.func290 Tryz.ntmps290 ?_
 refine aU9 ?_
 refine Xu 3 5 8 rfl
  (λhg1 _=>by
   refine aU4 ?_
   exact oJt 3 8)
  (λhg3 _=>by
   refine aU2 ?_
   exact oJf 3 8) ?_
 refine aU ?_
 refine oOr 7 9 16 rfl
  (λhg5 _=>by
   refine aU6 ?_
   refine Xu 3 12 15 rfl
    (λhg7 _=>by
     refine aU5 ?_
     exact oJt 3 15)
    (λhg9 _=>by
     refine aU3 ?_
     exact oJf 3 15) ?_
   exact oJf 5 16)
  (λhg11 _=>by
   refine aU6 ?_
   exact oJt 7 16) ?_
 refine aU ?_
 refine oOr 4 17 21 rfl
  (λhg13 _=>by
   refine aU3 ?_
   refine oCq rfl (λw1 h1=>ib97 w1 QaX c) (aU2 ?_)
   exact oJf 4 21)
  (λhg15 _=>by
   refine aU3 ?_
   exact oJt 4 21) ?_
 refine aU2 ?_
 exact rV (h:=by simp only[Qw,QbX,e1,e2,e3,e4,ge_iff_le,e5])
theorem c235(w:World)(s:List UInt8)(m:Nat)(hm:s.length<=1000000):CR 235 #[.string (bs s),.int .i64 (m:Int)] w (.bool (Qjk s m)):=by
 have e1:((s.length:Int)<=(m:Int)) ↔ s.length<=m:=om
 refine eN2 Tryz.func235 Tryz.ntmps235 ?_
 refine aU9 ?_
 refine Xu 5 7 12 rfl
  (λhg1 _=>by
   refine aU3 ?_
   refine o_p (Qi rfl rfl Tryz.underlying9) rfl (aU4 ?_)
   exact oJt 5 12)
  (λhg3 _=>by
   refine aU4 ?_
   exact oJf 5 12) ?_
 refine aU ?_
 refine Xu 3 13 16 rfl
  (λhg5 _=>by
   refine aU3 ?_
   refine oCq rfl (λw1 h1=>QpE w1 s 290 #[] QbX hm (by kernel_rfl) (λk w2 hk h2=>c290 w2 _)) ?_
   exact oJt 3 16)
  (λhg7 _=>by
   refine aU2 ?_
   exact oJf 3 16) ?_
 refine aU2 ?_
 exact rV (h:=by simp only[Qw,Qjk,e1])
theorem Qqt(s:List UInt8):(Zm s).1.length<=s.length/\((Zm s).2.getD []).length<=s.length:=by
  induction s with
  | nil=>simp[Zm]
  | cons c s ih=>
    unfold Zm;split
    · simp
    · simp only[List.length_cons];omega
theorem Qp2(w:World)(s:List UInt8)(hm:s.length<=1000000):CR 171 #[.string (bs s)] w (.bool (Qa5 s)):=by
 have hcl:=Qqt s
 refine eN1 Tryz.func171 Tryz.ntmps171 ?_
 refine aU7 ?_
 refine oCq rfl (λw1 h1=>c234 w1 s hm) (QbB ?_)
 refine oCq rfl (λw1 h1=>c235 w1 (Zm s).1 8 om) (aU ?_)
 refine Xu 7 14 21 rfl
  (λhg1 _=>by
   refine aU6 ?_
   refine oOr 3 17 20 rfl
    (λhg3 _=>by
     refine aU3 ?_
     refine oCq rfl (λw1 h1=>c235 w1 ((Zm s).2.getD []) 3 om) (aU ?_)
     exact oJf 3 20)
    (λhg5 _=>by
     refine aU3 ?_
     exact oJt 3 20) ?_
   exact oJt 5 21)
  (λhg7 _=>by
   refine aU6 ?_
   exact oJf 7 21) ?_
 refine aU2 ?_
 exact rV (h:=by simp only[Qw,Qa5];rcases hc9:(Zm s).2 with _|r<;>simp[hc9])
theorem c169(w:World)(t s:List UInt8)(hmt:t.length<=1000000)(hm:s.length<=1000000):CR 169 #[.string (bs t),.string (bs s)] w (.tuple #[.bool (if openE t [s]=0 then !Qa5 (up t s)else false),.int .i64 (openE t [s])]):=by
 refine eN2 Tryz.func169 Tryz.ntmps169 ?_
 refine aU9 ?_
 refine o_h (Qg (cs:=[_]) rfl rfl Qjn zr_9 rfl rfl rfl) rfl (λb1 _=>oCq rfl (λw1 h1=>c170 w1 t _ _ [s] hmt (h1.vl_blk aPk) (by simp) (by intro x hx;simp only[List.mem_cons,List.mem_nil_iff,or_false]at hx;subst hx;assumption)) (QcZ ?_))
 refine sCd rfl (λh2=>?_) λh2=>?_
 ·have h0:¬openE t [s]=0:=h2
  refine aU6 ?_
  exact Qj (rs:=[.tmp 4,.tmp 5]) rfl (.tmp rfl (.tmp rfl (.nil))) (λw' h'=>⟨by rw[if_neg h0];rfl,h'.below⟩)
 have h0:openE t [s]=0:=h2
 have ho:=Qg2 h0
 have hx:=Qcz (ho.2 s (by simp))
 have hl:=(QcP ho.1).1
 have hul:=QaE t s
 refine aU5 ?_
 refine oCq rfl (λw1 h1=>QlG w1 t s hl hx hm) (oCq rfl (λw1 h1=>Qp2 w1 (up t s) om) (aU4 ?_))
 exact Qj (rs:=[.tmp 4,.tmp 5]) rfl (.tmp rfl (.tmp rfl (.nil))) (λw' h'=>⟨by rw[if_pos h0,h0];rfl,h'.below⟩)
end Go.Proofs
namespace Go.Proofs
open Go Go.RowKit Gx
def ZR(s:List UInt8):Nat->Nat
 | 0=>0
 | k+1=>if 1<=k/\s.getD k 0=46 then k else ZR s k
def Z6(s:List UInt8):Nat:=ZR s s.length
theorem Qhh(s:List UInt8):∀k,0<k->ZR s k<k
 | 0,h=>absurd h (Nat.lt_irrefl 0)
 | k+1,_=>by
  unfold ZR;split
  ·omega
  ·rcases Nat.eq_zero_or_pos k with e|e
   ·subst e;simp[ZR]
   ·have:=Qhh s k e;omega
theorem bs_data{s:List UInt8}{j:Nat}(h:j<s.length):(bs s).data[j]! =s.getD j 0:=by
 simp[bs,h,List.getD_eq_getElem?_getD,List.getElem?_eq_getElem h]
theorem QdQ(s:List UInt8):∀k,k<=s.length->(if 0<Lib.lastIdx (bs s) 46 k then Lib.lastIdx (bs s) 46 k=(ZR s k:Int)/\0<ZR s k else ZR s k=0)
 | 0,_=>by simp[Lib.lastIdx,ZR]
 | k+1,hk=>by
  have ih:=QdQ s k om;unfold Lib.lastIdx ZR;rw[bs_data om];have e46:((s.getD k 0).toNat:Int)=46 ↔ s.getD k 0=46:=⟨λh=>UInt8.toNat_inj.1 (by show(s.getD k 0).toNat=46;omega),λh=>by rw[h];rfl⟩
  by_cases h:s.getD k 0=46
  ·rw[if_pos (e46.2 h)];rcases Nat.eq_zero_or_pos k with e|e
   ·subst e;simp[ZR]
   ·rw[if_pos om,if_pos ⟨e,h⟩];exact⟨rfl,e⟩
  ·have e2:(if 1<=k/\s.getD k 0=46 then k else ZR s k)=ZR s k:=if_neg (λh9=>h h9.2);rw[if_neg (λh9=>h (e46.1 h9)),e2];exact ih
theorem QoG{s:List UInt8}(h:0<Lib.lastIndexByte (bs s) 46):Lib.lastIndexByte (bs s) 46=(Z6 s:Int)/\0<Z6 s/\Z6 s<s.length:=by
 have h1:=QdQ s s.length (Nat.le_refl _);have hs:(bs s).size=s.length:=by simp[bs,ByteArray.size]
 unfold Lib.lastIndexByte at h ⊢;rw[hs]at h ⊢;rw[if_pos h]at h1;refine⟨h1.1,h1.2,?_⟩;have h2:=h1.2;rcases Nat.eq_zero_or_pos s.length with e|e
 ·rw[e]at h2;simp[ZR]at h2
 ·exact Qhh s _ e
theorem QnT{s:List UInt8}(h:¬0<Lib.lastIndexByte (bs s) 46):Z6 s=0:=by
 have h1:=QdQ s s.length (Nat.le_refl _);have hs:(bs s).size=s.length:=by simp[bs,ByteArray.size]
 unfold Lib.lastIndexByte at h;rw[hs]at h;rw[if_neg h]at h1;exact h1
def Yz(s:List UInt8):List UInt8:=if 0<Z6 s then s.take (Z6 s)else s
def YB(s:List UInt8):List UInt8:=if 0<Z6 s then s.drop (Z6 s+1)else[]
def kpB(c:UInt8):List UInt8:=if c=32\/c=46 then[]else if QbX c=true then[c]else[95]
def YD(t s:List UInt8):List UInt8:=(up t s).flatMap kpB
theorem Qof(c:UInt8):(kpB c).length<=1:=by
 unfold kpB;split
 ·simp
 ·split<;>simp
theorem QbM(u:List UInt8):(u.flatMap kpB).length<=u.length:=by
 induction u with
 | nil=>simp
 | cons c u ih=>
  rw[List.flatMap_cons,List.length_append,List.length_cons];have:=Qof c;omega
theorem Qj0{c:UInt8}(h:QbX c=true):c.toNat<128:=by
 unfold QbX at h;simp only[Bool.or_eq_true,Bool.and_eq_true,decide_eq_true_eq]at h;rcases h with(h|h)|h
 ·omega
 ·omega
 ·have:c∈QaX:=by simpa using h
  simp only[QaX,List.mem_cons,List.mem_nil_iff,or_false]at this;rcases this with rfl|rfl|rfl|rfl|rfl|rfl|rfl|rfl|rfl|rfl|rfl|rfl|rfl<;>decide
theorem QiW{t s:List UInt8}:∀c∈YD t s,c.toNat<128:=by
 intro c hc;obtain⟨x,_,hx⟩:=List.mem_flatMap.1 hc;unfold kpB at hx;split at hx
 ·cases hx
 ·split at hx
  ·rename_i h;rw[List.mem_singleton.1 hx];exact Qj0 h
  ·rw[List.mem_singleton.1 hx];decide
theorem Qhn{t s:List UInt8}:(YD t s).length<=s.length:=by
 have:=QbM (up t s);rw[QaE]at this;exact this
def QaY(t s:List UInt8):List UInt8:=if YD t (YB s)=[]then[]else 46::(YD t (YB s)).take 3
def QcQ(n:Nat):List UInt8:=126::Lib.itoa (n:Int)
def YQ(t s:List UInt8)(n:Nat):List UInt8:=(YD t (Yz s)).take (min 6 (8-(QcQ n).length))++QcQ n++QaY t s
theorem QpT(n:Nat):∀c∈Lib.decDigits n,48<=c.toNat/\c.toNat<=57:=by
 induction n using Nat.strongRecOn with
 | _ n ih=>
  intro c hc;unfold Lib.decDigits at hc;split at hc
  ·rename_i h;rw[List.mem_singleton.1 hc,UInt8.toNat_ofNat'];omega
  ·rename_i h;rcases List.mem_append.1 hc with h1|h1
   ·exact ih (n/10) om c h1
   ·rw[List.mem_singleton.1 h1,UInt8.toNat_ofNat'];omega
theorem Qg8(n:Nat):Lib.itoa (n:Int)=Lib.decDigits n:=by
 unfold Lib.itoa;rw[if_neg om];rfl
theorem Qn1{n:Nat}(h:n<=999):1<=(Lib.decDigits n).length/\(Lib.decDigits n).length<=3:=by
 unfold Lib.decDigits;split
 ·simp
 ·rename_i h1;rw[List.length_append];unfold Lib.decDigits;split
  ·simp
  ·rename_i h2;rw[List.length_append];unfold Lib.decDigits;rw[dif_pos om];simp
theorem Qi6{n:Nat}(h:n<=999):2<=(QcQ n).length/\(QcQ n).length<=4:=by
 unfold QcQ;rw[Qg8,List.length_cons];have:=Qn1 h;omega
theorem QqN{n:Nat}:∀c∈QcQ n,c.toNat<128:=by
 intro c hc;unfold QcQ at hc;rcases List.mem_cons.1 hc with rfl|h
 ·decide
 ·rw[Qg8]at h;have:=QpT n c h;omega
theorem QkR{t s:List UInt8}:∀c∈QaY t s,c.toNat<128:=by
 intro c hc;unfold QaY at hc;split at hc
 ·cases hc
 ·rcases List.mem_cons.1 hc with rfl|h
  ·decide
  ·exact QiW c (List.mem_of_mem_take h)
theorem Qot{t s:List UInt8}{n:Nat}:∀c∈YQ t s n,c.toNat<128:=by
 intro c hc;unfold YQ at hc;rcases List.mem_append.1 hc with h|h
 ·rcases List.mem_append.1 h with h|h
  ·exact QiW c (List.mem_of_mem_take h)
  ·exact QqN c h
 ·exact QkR c h
theorem Qe3{t s:List UInt8}:(QaY t s).length<=4:=by
 unfold QaY;split
 ·simp
 ·simp;omega
theorem QgV{t s:List UInt8}{n:Nat}(h:n<=999):(YQ t s n).length<=14:=by
 have h1:=Qi6 h;have h2:=Qe3 (t:=t) (s:=s);unfold YQ;rw[List.length_append,List.length_append,List.length_take];omega
def Qft(t s:List UInt8)(ks:List (List UInt8)):Nat->Nat->List UInt8×Int
 | _,0=>([],16)
 | n,f+1=>if up t (YQ t s n)∈ks then Qft t s ks (n+1) f else(YQ t s n,0)
def ZD(t s:List UInt8)(ks:List (List UInt8)):List UInt8×Int:=if YD t (Yz s)=[]then([],3)else Qft t s ks 1 999
theorem QdY{t s:List UInt8}{ks ks':List (List UInt8)}(h:∀a,a∈ks ↔ a∈ks'):∀f n,Qft t s ks n f=Qft t s ks' n f
 | 0,n=>rfl
 | f+1,n=>by
  unfold Qft
  by_cases hm:up t (YQ t s n)∈ks
  ·rw[if_pos hm,if_pos ((h _).1 hm)];exact QdY h f (n+1)
  ·rw[if_neg hm,if_neg (λh9=>hm ((h _).2 h9))]
theorem Qfo{t s:List UInt8}{ks ks':List (List UInt8)}(h:∀a,a∈ks ↔ a∈ks'):ZD t s ks=ZD t s ks':=by
 unfold ZD;rw[QdY h]
end Go.Proofs
namespace Gx
open Go Go.RowKit
section
variable{P:Program}{o:Oper}{L:Qa}{w0:World}{M:List Nat}{As As':List HA}
theorem Qpb{x y z:Operand}{k:IntKind}{a b c:Int}{ts:Array TypeId}(ho:o.op=.call {callee:=.builtin .min,args:=#[x,y,z],argTypes:=ts})(hx:ev L x=some (.int k a))(hy:ev L y=some (.int k b))(hz:ev L z=some (.int k c)):OpP P o L (.int k (if c<(if b<a then b else a)then c else(if b<a then b else a))):=by
 intro ρ w hρ;simp[execOp,ho,resolve,invoke,builtin,Builtin.min_,Builtin.min2,hρ _ _ hx,hρ _ _ hy,hρ _ _ hz]
end
end Gx
namespace Go.Proofs
open Go Go.RowKit Gx
attribute [local irreducible] Go.Calls Gx.S Gx.O Gx.D Gx.OpP Gx.OpQ Gx.OpH
set_option maxRecDepth 20000
instance:TFn Tryz.prog 290:=⟨by kernel_rfl⟩
instance:TFn Tryz.prog 236:=⟨by kernel_rfl⟩
instance:TFn Tryz.prog 237:=⟨by kernel_rfl⟩
instance:TFn Tryz.prog 238:=⟨by kernel_rfl⟩
theorem Qqf:tzv Tryz.prog 4=some (.bool false):=by kernel_rfl
abbrev KS:List UInt8->Value:=λl=>.string (bs l)
theorem it88(w:World)(k:Nat)(hk:k<100):Calls Tryz.prog 238 #[.int .i64 (k:Int)] w λen w'=>en=.returned (.string (bs (Lib.itoa (k:Int))))/\Below w.heap.size w w':=
  (Tryz.strconv_Itoa_small k hk w).mono λe w' h=>⟨by rw[h.1];rfl,Zu h.2⟩
theorem li86(w:World)(s:List UInt8)(hm:s.length<=1000000):Calls Tryz.prog 236 #[.string (bs s),.string (bs [46])] w λen w'=>en=.returned (.int .i64 (Lib.lastIndexByte (bs s) 46))/\Below w.heap.size w w':=
  (Tryz.strings_LastIndex_one (bs s) (bs [46]) rfl (by rw[bs_size];omega) w).mono λe w' h=>⟨by rw[h.1];rfl,Zu h.2⟩
theorem c237(w:World)(t s:List UInt8)(hl:t.length=128)(hc:∀c∈s,c.toNat<128)(hm:s.length<=1000000):CR 237 #[.string (bs t),.string (bs s)] w (.string (bs (YD t s))):=by
 have hul:=QaE t s
 refine eN2 Tryz.func237 Tryz.ntmps237 ?_
 refine Qby ?_
 refine oCq rfl (λw1 h1=>QlG w1 t s hl hc hm) (o_h (ZS rfl rfl Tryz.underlying9 Tryz.underlying226 Tryz.underlying5 rfl (by simp only[maxLen];omega)) rfl (λ⟨b1,c2⟩⟨h3,k4⟩=>aU4 ?_))
 refine Qs (α:=Nat×(Option Addr×Nat)) [5,7,13,14,15,16,17,18,19,20,21,22,23,24,25,26,27,28,29,30,31,32,33,34,35,36] (λy=>[(13,.int .i64 (y.1:Int)),(5,.slice y.2.1 (((up t s).take y.1).flatMap kpB).length y.2.2)]) (λy=>HS w [] [.own (.slice y.2.1 (((up t s).take y.1).flatMap kpB).length y.2.2) 5 1 (((up t s).take y.1).flatMap kpB).length ((((up t s).take y.1).flatMap kpB).map bv),.blk b1 5 c2 ((up t s).map bv)]) (λy=>y.1<=(up t s).length) (λy=>(up t s).length-y.1) (0,(none,0)) (Nat.zero_le _) aSx (λw h=>(h.own_nil 5 1).ent aEt) (λ⟨k,A⟩hk1=>?_)
 dsimp only at hk1 ⊢
 refine aU5 ?_
 refine sCd rfl (λh5=>?_) λh5=>?_
 ·have hk:k<(up t s).length:=by omega
  have e32:(((up t s).getD k 0).toNat:Int)=32 ↔ (up t s).getD k 0=32:=⟨λh=>UInt8.toNat_inj.1 (by show((up t s).getD k 0).toNat=32;omega),λh=>by rw[h];rfl⟩
  have e46:(((up t s).getD k 0).toNat:Int)=46 ↔ (up t s).getD k 0=46:=⟨λh=>UInt8.toNat_inj.1 (by show((up t s).getD k 0).toNat=46;omega),λh=>by rw[h];rfl⟩
  have hst:((up t s).take (k+1)).flatMap kpB=((up t s).take k).flatMap kpB++kpB ((up t s).getD k 0):=by rw[XX (d:=0) hk,List.flatMap_append];simp
  have hkl:=QbM ((up t s).take k)
  have htl:((up t s).take k).length<=k:=by simp;omega
  refine aU5 ?_
  refine o_p (Qb rfl rfl rfl QN (k) om om rfl) rfl (o_q (X0 rfl rfl QeE (λw h=>by rw[Nat.zero_add];exact h.rd_blk (Mc:=[]) (b:=b1) aPk (by rw[Nat.mul_one];exact QcH hk) (by simp))) rfl (aU6 ?_))
  refine o_p (QD rfl rfl rfl Tryz.underlying9 (0) om (by first|omega|decide)) rfl ?_
  refine aU2 ?_
  refine oOr 4 24 28 rfl
   (λhg6 _=>by
    refine aU3 ?_
    refine o_p (QD rfl rfl rfl Tryz.underlying9 (0) om (by first|omega|decide)) rfl ?_
    refine aU2 ?_
    exact oJf 4 28)
   (λhg8 _=>by
    refine aU3 ?_
    exact oJt 4 28) ?_
  refine aU2 ?_
  refine sCd rfl (λh10=>?_) λh10=>?_
  ·have hkp:kpB ((up t s).getD k 0)=[]:=by have hq:(((up t s).getD k 0).toNat:Int)=32\/(((up t s).getD k 0).toNat:Int)=46:=h10;rw[e32,e46]at hq;unfold kpB;rw[if_pos hq]
   refine aT5 ?_
   refine aU2 ?_
   exact Qv (k+1,A) (by show(up t s).length-(k+1)<(up t s).length-k;omega) (by show k+1<=_;omega) (by(try dsimp only);rw[hst,hkp,List.append_nil];exact aSx) (λw h=>by dsimp only;rw[hst,hkp,List.append_nil];exact h.ent aEt)
  have hq1:¬(((up t s).getD k 0).toNat:Int)=32/\¬(((up t s).getD k 0).toNat:Int)=46:=h10
  rw[e32,e46]at hq1
  refine aU3 ?_
  refine oCq rfl (λw1 h1=>c290 w1 ((up t s).getD k 0)) (aU2 ?_)
  refine sCd rfl (λh11=>?_) λh11=>?_
  ·have hkp:kpB ((up t s).getD k 0)=[(up t s).getD k 0]:=by unfold kpB;rw[if_neg (by rintro(hA|hA);exact hq1.1 hA;exact hq1.2 hA),if_pos h11]
   refine aU3 ?_
   refine o_h (Qg (cs:=[_]) rfl rfl QN Qao rfl rfl rfl) rfl (λb12 _=>o_h (QZ (n:=(((up t s).take k).flatMap kpB).length) [bv ((up t s).getD k 0)] rfl rfl rfl QN Tryz.underlying226 Qao rfl aPk (Xx aPk) rfl (by intro u hu;simp only[List.mem_cons,List.mem_nil_iff,or_false]at hu;subst hu;rfl) om (by simp only[maxLen];omega)) rfl (λb13 _=>aT6 ?_))
   refine aU2 ?_
   exact Qv (k+1,b13) (by show(up t s).length-(k+1)<(up t s).length-k;omega) (by show k+1<=_;omega) (by(try dsimp only);rw[hst,hkp,List.length_append];exact aSx) (λw h=>by dsimp only;rw[hst,hkp,List.length_append,List.map_append];exact h.ent aEt)
  have hkp:kpB ((up t s).getD k 0)=[95]:=by unfold kpB;rw[if_neg (by rintro(hA|hA);exact hq1.1 hA;exact hq1.2 hA),if_neg (by rw[h11];simp)]
  refine aU2 ?_
  refine o_h (Qg (cs:=[_]) rfl rfl QN Qao rfl rfl rfl) rfl (λb14 _=>o_h (QZ (n:=(((up t s).take k).flatMap kpB).length) [bv 95] rfl rfl rfl QN Tryz.underlying226 Qao rfl aPk (Xx aPk) rfl (by intro u hu;simp only[List.mem_cons,List.mem_nil_iff,or_false]at hu;subst hu;rfl) om (by simp only[maxLen];omega)) rfl (λb15 _=>aT6 ?_))
  refine aU2 ?_
  exact Qv (k+1,b15) (by show(up t s).length-(k+1)<(up t s).length-k;omega) (by show k+1<=_;omega) (by(try dsimp only);rw[hst,hkp,List.length_append];exact aSx) (λw h=>by dsimp only;rw[hst,hkp,List.length_append,List.map_append];exact h.ent aEt)
 obtain rfl:k=(up t s).length:=om
 rw[List.take_length]
 refine Qh rfl ?_
 refine aU3 ?_
 refine o_q (Zk rfl rfl Tryz.underlying226 Tryz.underlying9 Tryz.underlying5 aPk (Zn _)) rfl (aU2 ?_)
 exact rV (h:=by simp only[Yo];rfl)
set_option maxHeartbeats 2000000 in
theorem c174(w:World)(t s:List UInt8)(r:Nat)(ks:List (List UInt8))(hl:t.length=128)(hc:∀c∈s,c.toNat<128)(hm:s.length<=1000000)(hr:MpR w [] r KS ks)(m9:Nat)(hm9:1<=m9/\m9<=99)(hmn:¬up t (YQ t s m9)∈ks):CR 174 #[.string (bs t),.string (bs s),.map (some r)] w (.tuple #[.string (bs (ZD t s ks).1),.int .i64 (ZD t s ks).2]):=by
 have hcs:∀c∈Yz s,c.toNat<128:=by intro c hA;unfold Yz at hA;split at hA;exact hc c (List.mem_of_mem_take hA);exact hc c hA
 have hct:∀c∈YB s,c.toNat<128:=by intro c hA;unfold YB at hA;split at hA;exact hc c (List.mem_of_mem_drop hA);cases hA
 have hms:(Yz s).length<=1000000:=by unfold Yz;split;(rw[List.length_take];omega);exact hm
 have hmt:(YB s).length<=1000000:=by unfold YB;split;(rw[List.length_drop];omega);exact Nat.zero_le _
 have hks:=Qhn (t:=t) (s:=Yz s)
 have hkt:=Qhn (t:=t) (s:=YB s)
 have h3:=Qe3 (t:=t) (s:=s)
 refine eN3 Tryz.func174 Tryz.ntmps174 ?_
 refine Qiq ?_
 refine oCq rfl (λw1 h1=>li86 w1 s hm) (aU7 ?_)
 refine YE (α:=Unit) [8,9,19,20,21,22,23,24,25] (λ_=>[(8,.string (bs (Yz s))),(9,.string (bs (YB s)))]) (λ_=>HS w [] []) (λ_=>True) ?_ ?_
 ·skip
  refine sCd rfl (λh1=>?_) λh1=>?_
  ·obtain⟨hd1,hd2,hd3⟩:=QoG h1
   have hst:Yz s=s.take (Z6 s):=by rw[Yz,if_pos hd2]
   have htl:YB s=s.drop (Z6 s+1):=by rw[YB,if_pos hd2]
   refine QA [] mixed ?_
   refine dP 0 ?_
   refine dP 1 ?_
   refine dV 2 rfl (Yn (Z6 s) rfl rfl rfl Tryz.underlying9 hd1 om) (dP 3 ?_)
   refine dP 4 ?_
   refine dP 5 ?_
   try refine dWr ?_
   refine Qu (show _=Value.int .i64 ((Z6 s+1:Nat):Int)from by rw[hd1];rfl) (dV 6 rfl (X1 (Z6 s+1) rfl rfl rfl Tryz.underlying9 rfl om) (dP 7 ?_))
   refine dP 8 ?_
   refine dNi ?_
   exact QM () trivial (by(try dsimp only);rw[hst,htl];exact aSx) (λw h=>h.ent aEt)
  have hd2:=QnT h1
  have hst:Yz s=s:=by rw[Yz,if_neg om]
  have htl:YB s=[]:=by rw[YB,if_neg om]
  refine aU ?_
  exact QM () trivial (by(try dsimp only);rw[hst,htl];exact aSx) (λw h=>h.ent aEt)
 intro _ _
 refine aU4 ?_
 refine oCq rfl (λw1 h1=>c237 w1 t (Yz s) hl hcs hms) (aU2 ?_)
 refine oCq rfl (λw1 h1=>c237 w1 t (YB s) hl hct hmt) (aU9 ?_)
 refine sCd rfl (λh2=>?_) λh2=>?_
 ·have hz:YD t (Yz s)=[]:=h2
  refine aU5 ?_
  exact Qj (rs:=[.tmp 6,.tmp 7]) rfl (.tmp rfl (.tmp rfl (.nil))) (λw' h'=>⟨by rw[ZD,if_pos hz];rfl,h'.below⟩)
 have hz:¬YD t (Yz s)=[]:=h2
 refine aU7 ?_
 refine Ql (L':=[(0,_),(2,_),(6,_),(7,_),(8,_),(9,_),(35,_)]) aSx (λ_ h=>h) ?_
 refine YE (α:=Unit) [9,36,37,38,39,40,41] (λ_=>[(9,.string (bs (QaY t s)))]) (λ_=>HS w [] []) (λ_=>True) ?_ ?_
 ·skip
  refine sCd rfl (λh3=>?_) λh3=>?_
  ·have h3e:QaY t s=[46]++(YD t (YB s)).take (min (YD t (YB s)).length 3):=by rw[QaY,if_neg h3];rcases Nat.le_total (YD t (YB s)).length 3 with hA|hA;(rw[Nat.min_eq_left hA,List.take_length,List.take_of_length_le hA];rfl);(rw[Nat.min_eq_right hA];rfl)
   refine aU3 ?_
   refine o_p (Qi rfl rfl Tryz.underlying9) rfl (o_p (Qit rfl rfl rfl ) rfl (o_p (Yn (min (YD t (YB s)).length 3) rfl rfl rfl Tryz.underlying9 om om) rfl (o_p (Qk rfl rfl rfl (by(try simp only[List.length_append,List.length_cons,List.length_nil,List.length_replicate,List.length_take,List.length_drop]);omega)) rfl (aU2 ?_))))
   exact QM () trivial (by(try dsimp only);rw[h3e];exact aSx) (λw h=>h.ent aEt)
  have h3e:QaY t s=[]:=by rw[QaY,if_pos h3]
  have h3f:YD t (YB s)=[]:=h3
  refine aU ?_
  exact QM () trivial (by(try dsimp only);rw[h3e,h3f];exact aSx) (λw h=>h.ent aEt)
 intro _ _
 refine aU6 ?_
 refine Qs (α:=Nat) [6,7,11,12,13,42,43,44,45,46,47,48,49,50,51,52,53,54,55,56,57,58,59,60,61,62,63,64,65,66,67] (λk=>[(11,.int .i64 (k:Int))]) (λ_=>_) (λk=>1<=k/\k<=m9/\Qft t s ks 1 999=Qft t s ks k (1000-k)) (λk=>1000-k) 1 ⟨om,hm9.1,rfl⟩ aSx (λw h=>h) (λk hkk=>?_)
 obtain⟨hk0,hk1,hk2⟩:=hkk
 refine aU6 ?_
 refine sCd rfl (λh4=>?_) λh4=>?_
 ·have hk:k<=999:=by omega
  have hel:=Qi6 hk
  have hel2:(Lib.itoa (k:Int)).length+1=(QcQ k).length:=rfl
  obtain⟨f,hf⟩:∃f,1000-k=f+1:=⟨999-k,om⟩
  have hcl:=QgV (t:=t) (s:=s) hk
  refine aU6 ?_
  refine oCq rfl (λw1 h1=>it88 w1 k om) (o_p (Qk rfl rfl rfl (by(try simp only[List.length_append,List.length_cons,List.length_nil,List.length_replicate,List.length_take,List.length_drop]);omega)) rfl (Qn (show _=Value.string (bs (QcQ k))from rfl) (aU6 ?_)))
  refine o_p (Qi rfl rfl Tryz.underlying9) rfl (aU ?_)
  refine o_p (Qi rfl rfl Tryz.underlying9) rfl (aT ?_)
  refine o_p (Qpb rfl rfl rfl rfl ) rfl (o_p (Yn (min (YD t (Yz s)).length (min 6 (8-(QcQ k).length))) rfl rfl rfl Tryz.underlying9 om om) rfl (aU ?_))
  refine o_p (Qk rfl rfl rfl (by(try simp only[List.length_append,List.length_cons,List.length_nil,List.length_replicate,List.length_take,List.length_drop]);omega)) rfl (aU ?_)
  refine o_p (Qk rfl rfl rfl (by(try simp only[List.length_append,List.length_cons,List.length_nil,List.length_replicate,List.length_take,List.length_drop]);omega)) rfl (Qn (show _=Value.string (bs (YQ t s k))from by rw[show YQ t s k=(YD t (Yz s)).take (min (YD t (Yz s)).length (min 6 (8-(QcQ k).length)))++QcQ k++QaY t s from by rw[YQ,List.take_eq_take_min (i:=min 6 (8-(QcQ k).length)),Nat.min_comm (YD t (Yz s)).length]]) (aU7 ?_))
  refine oCq rfl (λw1 h1=>QlG w1 t (YQ t s k) hl Qot (by have:=QgV (t:=t) (s:=s) (n:=k) om;omega)) (o_q (Qfy (K:=KS) rfl rfl rfl Tryz.underlying248 Qqf (Qjt Tryz.underlying9) (hr)) rfl (aU2 ?_))
  refine sCd rfl (λh5=>?_) λh5=>?_
  ·have hin:¬up t (YQ t s k)∈ks:=h5
   refine aU ?_
   refine Ql (L':=[(0,_),(2,_),(8,_),(9,_),(11,_),(13,_),(35,_)]) aSx (λ_ h=>h) ?_
   refine aU5 ?_
   exact Qj (rs:=[.tmp 6,.tmp 7]) rfl (.tmp rfl (.tmp rfl (.nil))) (λw' h'=>⟨by rw[ZD,if_neg hz,hk2,hf,Qft,if_neg hin];rfl,h'.below⟩)
  have hin:up t (YQ t s k)∈ks:=h5
  have hne9:k≠m9:=λe=>hmn (by rw[<-e];exact hin)
  refine aU2 ?_
  refine Ql (L':=[(0,_),(2,_),(8,_),(9,_),(11,_),(35,_)]) aSx (λ_ h=>h) ?_
  refine aT3 ?_
  refine aU2 ?_
  exact Qv (k+1) om ⟨om,om,by rw[hk2,hf,Qft,if_pos hin,show 1000-(k+1)=f by omega]⟩ aSx (λw h=>h)
 exfalso;omega
instance:TFn Tryz.prog 173:=⟨by kernel_rfl⟩
instance:TFn Tryz.prog 175:=⟨by kernel_rfl⟩
instance:TFn Tryz.prog 174:=⟨by kernel_rfl⟩
noncomputable def QgJ(t:List UInt8)(l:List (List UInt8)):List (List UInt8):=(l.map (up t)).foldl Z8 []
theorem Qle{l ks:List (List UInt8)}:∀{x},x∈l.foldl Z8 ks ↔ x∈ks\/x∈l:=by
  induction l generalizing ks with
  | nil=>intro x;simp
  | cons a l ih=>
    intro x;rw[List.foldl_cons,ih];unfold Z8;split
    · rename_i h;simp only[List.mem_cons];constructor
      · rintro(h1|h1)
        · exact .inl h1
        · exact .inr (.inr h1)
      · rintro(h1|rfl|h1)
        · exact .inl h1
        · exact .inl h
        · exact .inr h1
    · simp only[List.mem_append,List.mem_cons,List.mem_nil_iff,or_false,or_assoc]
theorem Qi5{t:List UInt8}{l:List (List UInt8)}(x:List UInt8):x∈QgJ t l ↔ x∈l.map (up t):=by
  unfold QgJ;rw[Qle];simp
theorem QlW{t:List UInt8}{l:List (List UInt8)}{k:Nat}(h:k<l.length):QgJ t (l.take (k+1))=Z8 (QgJ t (l.take k)) (up t (l.getD k [])):=by
  unfold QgJ;rw[XX (d:=[]) h,List.map_append,List.foldl_append];rfl
def Z5(t s:List UInt8)(l:List (List UInt8)):Int:=if openE t [s]=0 then if Qa5 (up t s)=true then 12 else QcI l else openE t [s]
theorem c175(w:World)(t:List UInt8)(a:Option Addr)(cap:Nat)(l:List (List UInt8))(hl:t.length=128)(hc:∀s∈l,∀c∈s,c.toNat<128)(hs:Vl w a (l.map Qhg))(hln:l.length<=1000000)(hml:∀s∈l,s.length<=1000000):CE 175 #[.string (bs t),.slice a l.length cap] w [] (λg:Nat=>.map (some g)) (λg=>True) λg=>[.mp g KS (QgJ t l)]:=by
 refine eN2 Tryz.func175 Tryz.ntmps175 ?_
 refine aU6 ?_
 refine o_h (QcX rfl KS) rfl (λb1 _=>ZH ?_)
 refine Qs (α:=Nat) [7,11,12,13,14,15,16,17,18,19] (λk=>[(11,.int .i64 (k:Int))]) (λk=>HS w [] [.mp b1 KS (QgJ t (l.take k))]) (λk=>k<=l.length) (λk=>l.length-k) 0 (Nat.zero_le _) aSx (λw h=>h.ent aEt) (λk hk1=>?_)
 refine aU5 ?_
 refine sCd rfl (λh2=>?_) λh2=>?_
 ·have hk:k<l.length:=by omega
  have hgm:=Yt (d:=[]) hk
  have hst:=QlW (t:=t) hk
  refine aU5 ?_
  refine o_p (Qb rfl rfl rfl Qjn (k) om om (hs.some (by rw[List.length_map];omega))) rfl (o_q (Qp rfl rfl QhK ((hs.rd (QgT (k:=k) hk)))) rfl (aU6 ?_))
  refine oCq rfl (λw1 h1=>QlG w1 t (l.getD k []) hl (hc _ hgm) (hml _ hgm)) (ZG (Qdd (K:=KS) (.inl rfl) rfl rfl rfl Tryz.underlying248 (Qjt Tryz.underlying9) aPt) (λ_ _=>aT4 ?_))
  refine aU2 ?_
  exact Qv (k+1) om om aSx (λw h=>by rw[hst];exact h.ent aEt)
 obtain rfl:k=l.length:=om
 rw[List.take_length]
 refine Qh rfl ?_
 refine aU5 ?_
 exact rT rfl rfl (λw' h'=>⟨_,rfl,trivial,h'.ent aEt⟩)
theorem c118(w:World)(t s:List UInt8)(a:Option Addr)(cap:Nat)(l:List (List UInt8))(hmt:t.length<=1000000)(hm:s.length<=1000000)(hs:Vl w a (l.map Qhg))(hln:l.length<=1000000)(hml:∀s∈l,s.length<=1000000)(m9:Nat)(hm9:1<=m9/\m9<=99)(hmn:¬up t (YQ t s m9)∈l.map (up t)):CR 118 #[.string (bs t),.string (bs s),.slice a l.length cap] w (.tuple #[.string (bs (if(Z5 t s l)=0 then(ZD t s (l.map (up t))).1 else[])),.int .i64 (if(Z5 t s l)=0 then(ZD t s (l.map (up t))).2 else(Z5 t s l))]):=by
 refine eN3 Tryz.func118 Tryz.ntmps118 ?_
 refine aU9 ?_
 refine o_h (Qg (cs:=[_]) rfl rfl Qjn zr_9 rfl rfl rfl) rfl (λb1 _=>oCq rfl (λw1 h1=>c170 w1 t _ _ [s] hmt (h1.vl_blk aPk) (by simp) (by intro x hx;simp only[List.mem_cons,List.mem_nil_iff,or_false]at hx;subst hx;assumption)) (QcZ ?_))
 refine sCd rfl (λh2=>?_) λh2=>?_
 ·have h0:¬openE t [s]=0:=h2
  have hse:Z5 t s l=openE t [s]:=by rw[Z5,if_neg h0]
  refine aU6 ?_
  exact Qj (rs:=[.tmp 6,.tmp 7]) rfl (.tmp rfl (.tmp rfl (.nil))) (λw' h'=>⟨by rw[hse,if_neg h0,if_neg h0];rfl,h'.below⟩)
 have h0:openE t [s]=0:=h2
 have ho:=Qg2 h0
 have hx:=Qcz (ho.2 s (by simp))
 have hl:=(QcP ho.1).1
 have hul:=QaE t s
 have hse:Xq [.int .i64 (bif !Qa5 (up t s)then 0 else 12),.int .i64 (QcI l)]=Z5 t s l:=by rw[Qco,Z5,if_pos h0];cases Qa5 (up t s)<;>simp
 refine aU6 ?_
 refine oCq rfl (λw1 h1=>QlG w1 t s hl hx hm) (oCq rfl (λw1 h1=>Qp2 w1 (up t s) om) (aU ?_))
 refine oCq rfl (λw1 h1=>Qgz w1 _ _) (aU ?_)
 refine oCq rfl (λw1 h1=>c173 w1 a cap l (hs.later h1) hln hml) (o_h (Qg (cs:=[_,_]) rfl rfl Xp YC rfl rfl rfl) rfl (λb3 _=>oCq rfl (λw1 h1=>f137 h1 aPk (by rfl) (by rfl) (by decide)) (aU7 ?_)))
 refine sCd rfl (λh4=>?_) λh4=>?_
 ·have h1z:¬Z5 t s l=0:=by rw[<-hse];exact h4
  refine aU6 ?_
  exact Qj (rs:=[.tmp 6,.tmp 7]) rfl (.tmp rfl (.tmp rfl (.nil))) (λw' h'=>⟨by rw[<-hse]at h1z ⊢;rw[if_neg h1z,if_neg h1z];rfl,h'.below⟩)
 have h1z:Z5 t s l=0:=by rw[<-hse];exact h4
 have hnl:∀q∈l,∀c∈q,c.toNat<128:=by unfold Z5 at h1z;rw[if_pos h0]at h1z;split at h1z;(exact absurd h1z (by decide));exactλq hq=>Qcz ((Qkf h1z).2 q hq)
 refine aU7 ?_
 refine oCh rfl (λw1 h1=>c175 w1 t a cap l hl hnl (hs.later h1) hln hml) (λb5 _=>oCq rfl (λw1 h1=>c174 w1 t s b5 (QgJ t l) hl hx hm (h1.mpr aPk) m9 hm9 (λhm=>hmn ((Qi5 _).1 hm))) (aU5 ?_))
 exact Qj (rs:=[.tmp 6,.tmp 7]) rfl (.tmp rfl (.tmp rfl (.nil))) (λw' h'=>⟨by rw[if_pos h1z,if_pos h1z,<-Qfo (λx=>Qi5 (t:=t) (l:=l) x)];rfl,h'.below⟩)
end Go.Proofs
namespace Gx
open Go Go.RowKit
def by8(n:Int):UInt8:=UInt8.ofNat (n%256).toNat
def at1(s:List UInt8)(i:Nat):Int:=((s.getD i 0).toNat:Int)
theorem u8wI(n:Int):IntKind.u8.wrap n=n%256:=by simp[IntKind.wrap,IntKind.signed,IntKind.bits]
theorem Qkc(n:Int):((by8 n).toNat:Int)=n%256:=by
 unfold by8;rw[UInt8.toNat_ofNat'];omega
theorem Qcf(n:Int):Value.int .u8 (IntKind.u8.wrap n)=bv (by8 n):=by rw[u8wI,bv,Qkc]
theorem QpB{m n:Int}(h:m%256=n%256):by8 m=by8 n:=by unfold by8;rw[h]
def Q7:Nat->Int->List UInt8
 | 0,_=>[]
 | k+1,n=>by8 n::Q7 k (n/256)
theorem Qm:∀(k:Nat)(n:Int),(Q7 k n).length=k
 | 0,_=>rfl
 | k+1,n=>by rw[Q7,List.length_cons,Qm k]
theorem QjO(a b:Nat)(ha:a<9223372036854775808)(hb:b<9223372036854775808):bits .or .i64 (a:Int) (b:Int)=((a ||| b:Nat):Int):=by
 change IntKind.i64.wrap (((BitVec.ofInt 64 (a:Int)) ||| (BitVec.ofInt 64 (b:Int)):BitVec 64).toNat:Int)=_
 rw[BitVec.toNat_or,Qbi 64 a om,Qbi 64 b om];have:a ||| b<9223372036854775808:=Nat.or_lt_two_pow (n:=63) ha hb
 exact IntWalk.i64_in _ ⟨om,om⟩
theorem QnB(a b:Nat)(h:a<256):a ||| 256*b=a+256*b:=by
 have h:=Nat.two_pow_add_eq_or_of_lt (i:=8) (b:=a) om b
 grind
theorem Qip(s:List UInt8)(i:Nat):0<=at1 s i/\at1 s i<256:=by
 have:=(s.getD i 0).toNat_lt;unfold at1;omega
theorem QmG(s:List UInt8)(k i:Nat):at1 (s.drop k) i=at1 s (k+i):=by grind[at1]
def Q9(s:List UInt8):Nat->Nat->Int
 | _,0=>0
 | a,k+1=>at1 s a+256*Q9 s (a+1) k
theorem QiV(s:List UInt8):∀(k a:Nat),0<=Q9 s a k/\Q9 s a k<256^k
 | 0,a=>by simp[Q9]
 | k+1,a=>by
  have h1:=QiV s k (a+1);have h2:=Qip s a
  grind[Q9]
theorem Qk6(s:List UInt8)(a:Nat){k:Nat}(h:k<=6):0<=Q9 s a k/\Q9 s a k<281474976710656:=by
 have h1:=QiV s k a;have h2:∀k≤6,(256:Int)^k<=281474976710656:=by decide
 grind
end Gx
namespace Gx
open Go Go.RowKit
structure TEnt where
 key:List UInt8
 val:List UInt8
deriving DecidableEq,Inhabited
def inV(x:Int):List Value:=[.int .i64 x]
theorem iv1(x:Int):(inV x).length=1:=rfl
def QeK:List UInt8->List UInt8->Int
 | [],[]=>0
 | [],_::_=>-1
 | _::_,[]=>1
 | a::x,b::y=>if a<b then -1 else if b<a then 1 else QeK x y
def QbZ(c:UInt8):UInt8:=if 97<=c/\c<=122 then c-32 else c
def XL(a b:Int):Int:=if a<b then -1 else if b<a then 1 else 0
end Gx
namespace Gx
open Go Go.RowKit
theorem Qhc:∀a b,Lib.compareBytes a b=QeK a b
 | [],[]=>rfl
 | [],_::_=>rfl
 | _::_,[]=>rfl
 | a::x,b::y=>by
  unfold Lib.compareBytes QeK;rw[Qhc x y]
section
variable{P:Program}{o:Oper}{L:Qa}
def QpP(P:Program)(f:FuncId):Prop:=∃fn,P.funcs[f]?=some fn/\(fn.name== "runtime.NumGoroutine")=false/\fn.body.isNone=true/\Extern.findNext fn=none/\Extern.find fn=some Extern.BytealgCompare.compare
theorem Qc4{f:FuncId}{x y:Operand}{a b:List UInt8}{at':Array TypeId}{C:World->Prop}(ho:o.op=.call {callee:=.value (.func f),args:=#[x,y],argTypes:=at'})(hx:ev L x=some (.string (bs a)))(hy:ev L y=some (.string (bs b)))(hf:QpP P f):OpQ P o L C (.int .i64 (QeK a b)):=by
 intro ρ w hρ hw;obtain⟨fn,h1,h2,h3,h4,h5⟩:=hf;have hcall:=run_callFunc_extern h1 h2 h3 h4 h5 #[.string (bs a),.string (bs b)] w;rw[Lib.run_compareString,bs_data,bs_data,Qhc]at hcall
 have:(execOp ρ o).run P w=.ok (.value (.int .i64 (QeK a b))) w:=by
  unfold execOp;simp only[ho,resolve,Sem.run_bind,hρ (.func f) _ rfl,Deferred.ofValue,Sem.run_pure,Result.andThen_ok,invoke,List.map_toArray,List.map_cons,List.map_nil,hρ _ _ hx,hρ _ _ hy,Array.empty_append,Array.append_empty,hcall]
 rw[this];exact⟨rfl,Below.refl _ _⟩
end
end Gx
namespace Go.Proofs
open Go Go.RowKit Gx
attribute [local irreducible] Go.Calls Gx.S Gx.O Gx.D Gx.OpP Gx.OpQ Gx.OpH
set_option maxRecDepth 20000
theorem XO:tsl Tryz.prog 124=some (84,2,32):=by kernel_rfl
theorem Xd:tsl Tryz.prog 125=some (3,1,8):=by kernel_rfl
theorem QiE:Qz Tryz.prog 84=some [.string (bs []),.string (bs [])]:=by kernel_rfl
theorem QqW:Qpt Tryz.prog 294 124 4:=⟨_,Tryz.func294,rfl,rfl,by kernel_rfl,by kernel_rfl⟩
theorem Qk2:Qz Tryz.prog 3=some [.int .i64 0]:=by kernel_rfl
theorem QpA:Qpt Tryz.prog 329 125 4:=⟨_,Tryz.func329,rfl,rfl,by kernel_rfl,by kernel_rfl⟩
theorem QlA:QpP Tryz.prog 308:=⟨_,Tryz.func308,rfl,rfl,by kernel_rfl,by kernel_rfl⟩
instance:TFn Tryz.prog 270:=⟨by kernel_rfl⟩
instance:TFn Tryz.prog 212:=⟨by kernel_rfl⟩
instance:TFn Tryz.prog 209:=⟨by kernel_rfl⟩
theorem Qrm(w:World)(a:Option Addr)(i n m cap:Nat)(xs news:List Value)(b0 c0 tot2:Nat)(hw:HS w (fps [.own (.slice a n cap) 84 2 n xs,.blk b0 84 tot2 news]) [.own (.slice a n cap) 84 2 n xs,.blk b0 84 tot2 news] w)(hm0:0<m)(hl:news.length=m*2)(hn1:∀u∈news,u.oneCell'=true)(hx1:∀u∈xs,u.oneCell'=true)(hmax:(n+m)*32<=140737488355328)(hi:i=n):CE 239 #[.slice a n cap,.int .i64 i,.slice (some ⟨b0,0,none⟩) m c0] w (fps [.own (.slice a n cap) 84 2 n xs,.blk b0 84 tot2 news]) (λg:Option Addr×Nat=>.slice g.1 (n+m) g.2) (λg=>True) λg=>[.own (.slice g.1 (n+m) g.2) 84 2 (n+m) (xs.take (i*2)++news++xs.drop (i*2)),.blk b0 84 tot2 news]:=by
 obtain⟨_,hnc,hcm,hxl⟩:=hw.own_facts .here
 refine eW3 Tryz.func239 Tryz.ntmps239 hw ?_
 refine aU8 ?_
 refine o_p (QG _ _ i n rfl rfl XO ⟨_,_,rfl,rfl⟩ rfl om om) rfl (Qby ?_)
 refine sCd rfl (λh1=>?_) λh1=>?_
 ·exfalso;first|omega|(simp at h1;done)|(simp_all;done)
 refine Qgo ?_
 refine sCd rfl (λh2=>?_) λh2=>?_
 ·refine aU4 ?_
  refine o_h (QZ news rfl rfl rfl XO Tryz.underlying124 QiE rfl aPk (Xx aPk) hl hn1 om (by simp only[maxLen];omega)) rfl (λb3 _=>aU2 ?_)
  exact rT rfl rfl (λw' h'=>⟨(_,_),rfl,trivial,by subst hi;rw[List.take_of_length_le om,List.drop_eq_nil_of_le om,List.append_nil];exact h'.ent aEt⟩)
 exfalso;first|omega|(simp at h2;done)|(simp_all;done)
theorem Qro(w:World)(gg i n m cap:Nat)(xs news:List Value)(b0 c0 tot2:Nat)(M:List Nat)(hw:HS w M [.blk gg 84 (cap*2) xs,.blk b0 84 tot2 news] w)(hnc:n<=cap)(hcm:cap<=maxLen)(hxl:xs.length=n*2)(hm0:0<m)(hl:news.length=m*2)(hn1:∀u∈news,u.oneCell'=true)(hx1:∀u∈xs,u.oneCell'=true)(hmax:(n+m)*32<=140737488355328)(hi:i<n):CE 239 #[.slice (some ⟨gg,0,none⟩) n cap,.int .i64 i,.slice (some ⟨b0,0,none⟩) m c0] w M (λg:Option Addr×Nat=>.slice g.1 (n+m) g.2) (λg=>True) λg=>[.own (.slice g.1 (n+m) g.2) 84 2 (n+m) (xs.take (i*2)++news++xs.drop (i*2)),.blk b0 84 tot2 news]:=by
 have ht2:=(hw.blk_get (.there .here)).len_le
 have hcl:(cut xs 0 (i*2)).length=i*2:=QY _ _ _ om
 refine eW3 Tryz.func239 Tryz.ntmps239 hw ?_
 refine aU8 ?_
 refine o_p (QG _ _ i n rfl rfl XO ⟨_,_,rfl,rfl⟩ rfl om om) rfl (Qby ?_)
 refine sCd rfl (λh1=>?_) λh1=>?_
 ·exfalso;first|omega|(simp at h1;done)|(simp_all;done)
 refine Qgo ?_
 refine sCd rfl (λh2=>?_) λh2=>?_
 ·exfalso;first|omega|(simp at h2;done)|(simp_all;done)
 refine aT7 ?_
 refine aU ?_
 refine o_p (QlR rfl rfl Tryz.underlying124) rfl (aU2 ?_)
 refine sCd rfl (λh3=>?_) λh3=>?_
 ·refine aU4 ?_
  refine o_p (QG _ _ 0 i rfl rfl XO rfl ⟨_,_,rfl,rfl⟩ om om) rfl ?_
  refine Qn (show _=Value.slice (some ⟨gg,0,none⟩) (i) (cap)from by rw[Qbd]<;>(congr 1<;>omega)) (aT3 ?_)
  refine aT2 ?_
  refine Qn (show _=Value.int .i64 ((n+m-i:Nat):Int)from by first|rfl|(congr 1<;>first|rfl|omega)) (o_h (Zy (m:=n+m-i) (olds:=cut xs 0 (i*2)) rfl rfl rfl XO YN QiE rfl (by decide) om om (Zo 0 (i*2) (λ_=>rfl) aPk) hcl om (by simp only[maxLen];omega)) rfl (λ⟨b4,c5⟩⟨h6,k7⟩=>?_))
  refine Qn (show _=Value.slice (some ⟨b4,0,none⟩) (n+m) c5 from by first|rfl|(congr 1<;>first|rfl|omega)) (aU3 ?_)
  refine Ql (L':=[(0,_),(1,_),(2,_),(6,_),(7,_),(8,_),(9,_)]) aSx (λ_ h=>h) ?_
  refine aU3 ?_
  refine o_p (QG _ _ i (n+m) rfl rfl XO ⟨_,_,rfl,rfl⟩ rfl om om) rfl ?_
  refine Qn (show _=Value.slice (some ⟨b4,i*2,none⟩) (n+m-i) (c5-i)from by rw[Xw om]<;>(congr 1<;>omega)) (aU ?_)
  refine o_h (QaA m news rfl rfl rfl XO aPt om hl (λ_=>rfl) (by simp only[Qt,List.length_append,Qf];omega) (Xx aPk) hn1) rfl (λ_ _=>aU2 ?_)
  refine QA [8] mixed ?_
  refine dP 0 ?_
  refine dP 1 ?_
  refine dP 2 ?_
  refine dP 3 ?_
  try refine dWr ?_
  refine dV 4 rfl (QG _ _ (i+m) (n+m) rfl rfl XO ⟨_,_,rfl,om⟩ rfl om om) ?_
  refine Qu (show _=Value.slice (some ⟨b4,(i+m)*2,none⟩) (n-i) (c5-(i+m))from by rw[Xw om]<;>(congr 1<;>omega)) (dP 5 ?_)
  refine dP 6 ?_
  refine dV 7 rfl (QG _ _ i n rfl rfl XO ⟨_,_,rfl,rfl⟩ rfl om om) ?_
  refine Qu (show _=Value.slice (some ⟨gg,i*2,none⟩) (n-i) (cap-i)from by rw[Xw om]<;>(congr 1<;>omega)) (dH 8 rfl (QaA (n-i) (cut xs (i*2) ((n-i)*2)) rfl rfl rfl XO aPt om (QY _ _ _ om) (λ_=>rfl) (by rw[QY _ _ _ om];simp only[Qt,List.length_append,Qf];omega) (Zo (i*2) ((n-i)*2) (λ_=>rfl) aPk) (Qf5 hx1 _ _)) (λ_ _=>dTu [] ?_))
  refine dNi ?_
  refine aU5 ?_
  exact rT rfl rfl (λw' h'=>⟨(some ⟨b4,0,none⟩,c5),rfl,trivial,(HS.to_own (n:=n+m) (xs:=xs.take (i*2)++news++xs.drop (i*2)) (ds:=[]) aPk h' (by have hq:=QgL (xs:=xs) (news:=news) (z:=Xa [.string (bs []),.string (bs [])] ((n+m-i)*2)) (p:=i*2) (q:=m*2) (N:=n*2) hxl om hl (by rw[Qt];omega);rw[List.append_nil];rw[show(i+m)*2=i*2+m*2 from om,show(n-i)*2=n*2-i*2 from om];exact hq) (by simp only[List.length_append,List.length_take,List.length_drop];omega) om om).ent aEt⟩)
 refine aT7 ?_
 refine o_p (QG _ _ 0 (n+m) rfl rfl XO rfl ⟨_,_,rfl,om⟩ om om) rfl ?_
 refine Qn (show _=Value.slice (some ⟨gg,0,none⟩) (n+m) cap from by rw[Qbd]<;>(congr 1<;>omega)) (o_ex (λw h=>HS.blk_full (b:=gg) aPk h) λds=>?_)
 refine QkV (λw h=>h.1) λhds=>Qbg (λw h=>h.2) (Qnz ?_)
 refine o_p (QG _ _ (i+m) (n+m) rfl rfl XO ⟨_,_,rfl,om⟩ rfl om om) rfl ?_
 refine Qn (show _=Value.slice (some ⟨gg,(i+m)*2,none⟩) (n-i) (cap-(i+m))from by rw[Xw om]<;>(congr 1<;>omega)) (o_q (Qed rfl QqW rfl rfl XO (hp:=aPk) (hp':=aPk) (by decide) om om) rfl (aU2 ?_))
 refine sCd rfl (λh8=>?_) λh8=>?_
 ·refine aU ?_
  refine Ql (L':=[(0,_),(1,_),(2,_),(6,_),(7,_),(8,_)]) aSx (λ_ h=>h) ?_
  refine QA [8] mixed ?_
  refine dP 0 ?_
  refine dP 1 ?_
  refine dP 2 ?_
  refine dP 3 ?_
  try refine dWr ?_
  refine dV 4 rfl (QG _ _ (i+m) (n+m) rfl rfl XO ⟨_,_,rfl,om⟩ rfl om om) ?_
  refine Qu (show _=Value.slice (some ⟨gg,(i+m)*2,none⟩) (n-i) (cap-(i+m))from by rw[Xw om]<;>(congr 1<;>omega)) (dP 5 ?_)
  refine dP 6 ?_
  refine dV 7 rfl (QG _ _ i (n+m) rfl rfl XO ⟨_,_,rfl,rfl⟩ rfl om om) ?_
  refine Qu (show _=Value.slice (some ⟨gg,i*2,none⟩) (n+m-i) (cap-i)from by rw[Xw om]<;>(congr 1<;>omega)) (dH 8 rfl (QaA (n-i) (cut (xs++ds) (i*2) ((n-i)*2)) rfl rfl rfl XO aPt om (QY _ _ _ (by simp only[Qt,List.length_append,Qf];omega)) (λ_=>rfl) (by rw[QY _ _ _ (by simp only[Qt,List.length_append,Qf];omega)];simp only[Qt,List.length_append,Qf];omega) (Zo (i*2) ((n-i)*2) (λ_=>rfl) aPk) (QiH hx1 om)) (λ_ _=>dTu [] ?_))
  refine dNi ?_
  refine aU4 ?_
  refine o_p (QG _ _ i (n+m) rfl rfl XO ⟨_,_,rfl,rfl⟩ rfl om om) rfl ?_
  refine Qn (show _=Value.slice (some ⟨gg,i*2,none⟩) (n+m-i) (cap-i)from by rw[Xw om]<;>(congr 1<;>omega)) (aU ?_)
  refine o_h (QaA m news rfl rfl rfl XO aPt om hl (λ_=>rfl) (by simp only[Qt,List.length_append,Qf];omega) (Xx aPk) hn1) rfl (λ_ _=>aU6 ?_)
  exact rT rfl rfl (λw' h'=>⟨(some ⟨gg,0,none⟩,cap),rfl,trivial,(HS.to_own (n:=n+m) (xs:=xs.take (i*2)++news++xs.drop (i*2)) (ds:=ds.drop (m*2)) aPk h' (by have hq:=Qlj (xs:=xs) (ds:=ds) (news:=news) (p:=i*2) (q:=m*2) (N:=n*2) hxl om hl om;rw[show(i+m)*2=i*2+m*2 from om,show(n-i)*2=n*2-i*2 from om];exact hq) (by simp only[List.length_append,List.length_take,List.length_drop];omega) om om).ent aEt⟩)
 exfalso;first|omega|(simp at h8;done)|(simp_all;done)
theorem c239(w:World)(a:Option Addr)(i n m cap:Nat)(xs news:List Value)(b0 c0 tot2:Nat)(hw:HS w (fps [.own (.slice a n cap) 84 2 n xs,.blk b0 84 tot2 news]) [.own (.slice a n cap) 84 2 n xs,.blk b0 84 tot2 news] w)(hm0:0<m)(hl:news.length=m*2)(hn1:∀u∈news,u.oneCell'=true)(hx1:∀u∈xs,u.oneCell'=true)(hmax:(n+m)*32<=140737488355328)(hi:i<=n):CE 239 #[.slice a n cap,.int .i64 i,.slice (some ⟨b0,0,none⟩) m c0] w (fps [.own (.slice a n cap) 84 2 n xs,.blk b0 84 tot2 news]) (λg:Option Addr×Nat=>.slice g.1 (n+m) g.2) (λg=>True) λg=>[.own (.slice g.1 (n+m) g.2) 84 2 (n+m) (xs.take (i*2)++news++xs.drop (i*2)),.blk b0 84 tot2 news]:=by
  rcases Nat.lt_or_ge i n with h|h
  · obtain⟨gg,rfl,_,hnc,hcm,hxl,hb⟩:=hw.own_blk om .here;exact Qro w gg i n m cap xs news b0 c0 tot2 _ hb hnc hcm hxl hm0 hl hn1 hx1 hmax h
  · exact Qrm w a i n m cap xs news b0 c0 tot2 hw hm0 hl hn1 hx1 hmax om
theorem Qq3(w:World)(a:Option Addr)(i n m cap:Nat)(xs news:List Value)(b0 c0 tot2:Nat)(hw:HS w (fps [.own (.slice a n cap) 3 1 n xs,.blk b0 3 tot2 news]) [.own (.slice a n cap) 3 1 n xs,.blk b0 3 tot2 news] w)(hm0:0<m)(hl:news.length=m*1)(hn1:∀u∈news,u.oneCell'=true)(hx1:∀u∈xs,u.oneCell'=true)(hmax:(n+m)*8<=140737488355328)(hi:i=n):CE 302 #[.slice a n cap,.int .i64 i,.slice (some ⟨b0,0,none⟩) m c0] w (fps [.own (.slice a n cap) 3 1 n xs,.blk b0 3 tot2 news]) (λg:Option Addr×Nat=>.slice g.1 (n+m) g.2) (λg=>True) λg=>[.own (.slice g.1 (n+m) g.2) 3 1 (n+m) (xs.take (i*1)++news++xs.drop (i*1)),.blk b0 3 tot2 news]:=by
 obtain⟨_,hnc,hcm,hxl⟩:=hw.own_facts .here
 refine eW3 Tryz.func302 Tryz.ntmps302 hw ?_
 refine aU8 ?_
 refine o_p (QG _ _ i n rfl rfl Xd ⟨_,_,rfl,rfl⟩ rfl om om) rfl (Qby ?_)
 refine sCd rfl (λh1=>?_) λh1=>?_
 ·exfalso;first|omega|(simp at h1;done)|(simp_all;done)
 refine Qgo ?_
 refine sCd rfl (λh2=>?_) λh2=>?_
 ·refine aU4 ?_
  refine o_h (QZ news rfl rfl rfl Xd Tryz.underlying125 Qk2 rfl aPk (Xx aPk) hl hn1 om (by simp only[maxLen];omega)) rfl (λb3 _=>aU2 ?_)
  exact rT rfl rfl (λw' h'=>⟨(_,_),rfl,trivial,by subst hi;rw[List.take_of_length_le om,List.drop_eq_nil_of_le om,List.append_nil];exact h'.ent aEt⟩)
 exfalso;first|omega|(simp at h2;done)|(simp_all;done)
theorem Qri(w:World)(gg i n m cap:Nat)(xs news:List Value)(b0 c0 tot2:Nat)(M:List Nat)(hw:HS w M [.blk gg 3 (cap*1) xs,.blk b0 3 tot2 news] w)(hnc:n<=cap)(hcm:cap<=maxLen)(hxl:xs.length=n*1)(hm0:0<m)(hl:news.length=m*1)(hn1:∀u∈news,u.oneCell'=true)(hx1:∀u∈xs,u.oneCell'=true)(hmax:(n+m)*8<=140737488355328)(hi:i<n):CE 302 #[.slice (some ⟨gg,0,none⟩) n cap,.int .i64 i,.slice (some ⟨b0,0,none⟩) m c0] w M (λg:Option Addr×Nat=>.slice g.1 (n+m) g.2) (λg=>True) λg=>[.own (.slice g.1 (n+m) g.2) 3 1 (n+m) (xs.take (i*1)++news++xs.drop (i*1)),.blk b0 3 tot2 news]:=by
 have ht2:=(hw.blk_get (.there .here)).len_le
 have hcl:(cut xs 0 (i*1)).length=i*1:=QY _ _ _ om
 refine eW3 Tryz.func302 Tryz.ntmps302 hw ?_
 refine aU8 ?_
 refine o_p (QG _ _ i n rfl rfl Xd ⟨_,_,rfl,rfl⟩ rfl om om) rfl (Qby ?_)
 refine sCd rfl (λh1=>?_) λh1=>?_
 ·exfalso;first|omega|(simp at h1;done)|(simp_all;done)
 refine Qgo ?_
 refine sCd rfl (λh2=>?_) λh2=>?_
 ·exfalso;first|omega|(simp at h2;done)|(simp_all;done)
 refine aT7 ?_
 refine aU ?_
 refine o_p (QlR rfl rfl Tryz.underlying125) rfl (aU2 ?_)
 refine sCd rfl (λh3=>?_) λh3=>?_
 ·refine aU4 ?_
  refine o_p (QG _ _ 0 i rfl rfl Xd rfl ⟨_,_,rfl,rfl⟩ om om) rfl ?_
  refine Qn (show _=Value.slice (some ⟨gg,0,none⟩) (i) (cap)from by rw[Qbd]<;>(congr 1<;>omega)) (aT3 ?_)
  refine aT2 ?_
  refine Qn (show _=Value.int .i64 ((n+m-i:Nat):Int)from by first|rfl|(congr 1<;>first|rfl|omega)) (o_h (Zy (m:=n+m-i) (olds:=cut xs 0 (i*1)) rfl rfl rfl Xd YN Qk2 rfl (by decide) om om (Zo 0 (i*1) (λ_=>rfl) aPk) hcl om (by simp only[maxLen];omega)) rfl (λ⟨b4,c5⟩⟨h6,k7⟩=>?_))
  refine Qn (show _=Value.slice (some ⟨b4,0,none⟩) (n+m) c5 from by first|rfl|(congr 1<;>first|rfl|omega)) (aU3 ?_)
  refine Ql (L':=[(0,_),(1,_),(2,_),(6,_),(7,_),(8,_),(9,_)]) aSx (λ_ h=>h) ?_
  refine aU3 ?_
  refine o_p (QG _ _ i (n+m) rfl rfl Xd ⟨_,_,rfl,rfl⟩ rfl om om) rfl ?_
  refine Qn (show _=Value.slice (some ⟨b4,i*1,none⟩) (n+m-i) (c5-i)from by rw[Xw om]<;>(congr 1<;>omega)) (aU ?_)
  refine o_h (QaA m news rfl rfl rfl Xd aPt om hl (λ_=>rfl) (by simp only[Qt,List.length_append,Qf];omega) (Xx aPk) hn1) rfl (λ_ _=>aU2 ?_)
  refine QA [8] mixed ?_
  refine dP 0 ?_
  refine dP 1 ?_
  refine dP 2 ?_
  refine dP 3 ?_
  try refine dWr ?_
  refine dV 4 rfl (QG _ _ (i+m) (n+m) rfl rfl Xd ⟨_,_,rfl,om⟩ rfl om om) ?_
  refine Qu (show _=Value.slice (some ⟨b4,(i+m)*1,none⟩) (n-i) (c5-(i+m))from by rw[Xw om]<;>(congr 1<;>omega)) (dP 5 ?_)
  refine dP 6 ?_
  refine dV 7 rfl (QG _ _ i n rfl rfl Xd ⟨_,_,rfl,rfl⟩ rfl om om) ?_
  refine Qu (show _=Value.slice (some ⟨gg,i*1,none⟩) (n-i) (cap-i)from by rw[Xw om]<;>(congr 1<;>omega)) (dH 8 rfl (QaA (n-i) (cut xs (i*1) ((n-i)*1)) rfl rfl rfl Xd aPt om (QY _ _ _ om) (λ_=>rfl) (by rw[QY _ _ _ om];simp only[Qt,List.length_append,Qf];omega) (Zo (i*1) ((n-i)*1) (λ_=>rfl) aPk) (Qf5 hx1 _ _)) (λ_ _=>dTu [] ?_))
  refine dNi ?_
  refine aU5 ?_
  exact rT rfl rfl (λw' h'=>⟨(some ⟨b4,0,none⟩,c5),rfl,trivial,(HS.to_own (n:=n+m) (xs:=xs.take (i*1)++news++xs.drop (i*1)) (ds:=[]) aPk h' (by have hq:=QgL (xs:=xs) (news:=news) (z:=Xa [.int .i64 0] ((n+m-i)*1)) (p:=i*1) (q:=m*1) (N:=n*1) hxl om hl (by rw[Qt];omega);rw[List.append_nil];rw[show(i+m)*1=i*1+m*1 from om,show(n-i)*1=n*1-i*1 from om];exact hq) (by simp only[List.length_append,List.length_take,List.length_drop];omega) om om).ent aEt⟩)
 refine aT7 ?_
 refine o_p (QG _ _ 0 (n+m) rfl rfl Xd rfl ⟨_,_,rfl,om⟩ om om) rfl ?_
 refine Qn (show _=Value.slice (some ⟨gg,0,none⟩) (n+m) cap from by rw[Qbd]<;>(congr 1<;>omega)) (o_ex (λw h=>HS.blk_full (b:=gg) aPk h) λds=>?_)
 refine QkV (λw h=>h.1) λhds=>Qbg (λw h=>h.2) (Qnz ?_)
 refine o_p (QG _ _ (i+m) (n+m) rfl rfl Xd ⟨_,_,rfl,om⟩ rfl om om) rfl ?_
 refine Qn (show _=Value.slice (some ⟨gg,(i+m)*1,none⟩) (n-i) (cap-(i+m))from by rw[Xw om]<;>(congr 1<;>omega)) (o_q (Qed rfl QpA rfl rfl Xd (hp:=aPk) (hp':=aPk) (by decide) om om) rfl (aU2 ?_))
 refine sCd rfl (λh8=>?_) λh8=>?_
 ·refine aU ?_
  refine Ql (L':=[(0,_),(1,_),(2,_),(6,_),(7,_),(8,_)]) aSx (λ_ h=>h) ?_
  refine QA [8] mixed ?_
  refine dP 0 ?_
  refine dP 1 ?_
  refine dP 2 ?_
  refine dP 3 ?_
  try refine dWr ?_
  refine dV 4 rfl (QG _ _ (i+m) (n+m) rfl rfl Xd ⟨_,_,rfl,om⟩ rfl om om) ?_
  refine Qu (show _=Value.slice (some ⟨gg,(i+m)*1,none⟩) (n-i) (cap-(i+m))from by rw[Xw om]<;>(congr 1<;>omega)) (dP 5 ?_)
  refine dP 6 ?_
  refine dV 7 rfl (QG _ _ i (n+m) rfl rfl Xd ⟨_,_,rfl,rfl⟩ rfl om om) ?_
  refine Qu (show _=Value.slice (some ⟨gg,i*1,none⟩) (n+m-i) (cap-i)from by rw[Xw om]<;>(congr 1<;>omega)) (dH 8 rfl (QaA (n-i) (cut (xs++ds) (i*1) ((n-i)*1)) rfl rfl rfl Xd aPt om (QY _ _ _ (by simp only[Qt,List.length_append,Qf];omega)) (λ_=>rfl) (by rw[QY _ _ _ (by simp only[Qt,List.length_append,Qf];omega)];simp only[Qt,List.length_append,Qf];omega) (Zo (i*1) ((n-i)*1) (λ_=>rfl) aPk) (QiH hx1 om)) (λ_ _=>dTu [] ?_))
  refine dNi ?_
  refine aU4 ?_
  refine o_p (QG _ _ i (n+m) rfl rfl Xd ⟨_,_,rfl,rfl⟩ rfl om om) rfl ?_
  refine Qn (show _=Value.slice (some ⟨gg,i*1,none⟩) (n+m-i) (cap-i)from by rw[Xw om]<;>(congr 1<;>omega)) (aU ?_)
  refine o_h (QaA m news rfl rfl rfl Xd aPt om hl (λ_=>rfl) (by simp only[Qt,List.length_append,Qf];omega) (Xx aPk) hn1) rfl (λ_ _=>aU6 ?_)
  exact rT rfl rfl (λw' h'=>⟨(some ⟨gg,0,none⟩,cap),rfl,trivial,(HS.to_own (n:=n+m) (xs:=xs.take (i*1)++news++xs.drop (i*1)) (ds:=ds.drop (m*1)) aPk h' (by have hq:=Qlj (xs:=xs) (ds:=ds) (news:=news) (p:=i*1) (q:=m*1) (N:=n*1) hxl om hl om;rw[show(i+m)*1=i*1+m*1 from om,show(n-i)*1=n*1-i*1 from om];exact hq) (by simp only[List.length_append,List.length_take,List.length_drop];omega) om om).ent aEt⟩)
 exfalso;first|omega|(simp at h8;done)|(simp_all;done)
theorem c302(w:World)(a:Option Addr)(i n m cap:Nat)(xs news:List Value)(b0 c0 tot2:Nat)(hw:HS w (fps [.own (.slice a n cap) 3 1 n xs,.blk b0 3 tot2 news]) [.own (.slice a n cap) 3 1 n xs,.blk b0 3 tot2 news] w)(hm0:0<m)(hl:news.length=m*1)(hn1:∀u∈news,u.oneCell'=true)(hx1:∀u∈xs,u.oneCell'=true)(hmax:(n+m)*8<=140737488355328)(hi:i<=n):CE 302 #[.slice a n cap,.int .i64 i,.slice (some ⟨b0,0,none⟩) m c0] w (fps [.own (.slice a n cap) 3 1 n xs,.blk b0 3 tot2 news]) (λg:Option Addr×Nat=>.slice g.1 (n+m) g.2) (λg=>True) λg=>[.own (.slice g.1 (n+m) g.2) 3 1 (n+m) (xs.take (i*1)++news++xs.drop (i*1)),.blk b0 3 tot2 news]:=by
  rcases Nat.lt_or_ge i n with h|h
  · obtain⟨gg,rfl,_,hnc,hcm,hxl,hb⟩:=hw.own_blk om .here;exact Qri w gg i n m cap xs news b0 c0 tot2 _ hb hnc hcm hxl hm0 hl hn1 hx1 hmax h
  · exact Qq3 w a i n m cap xs news b0 c0 tot2 hw hm0 hl hn1 hx1 hmax om
def Qnv(c:Int):Int:=if 97<=c/\c<=122 then c-32 else c
theorem QgQ(u:UInt8):Qnv (u.toNat:Int)=((QbZ u).toNat:Int):=by
  have hu:=u.toNat_lt;unfold Qnv QbZ
  by_cases h:97<=u/\u<=122
  · have h2:=h;rw[UInt8.le_iff_toNat_le,UInt8.le_iff_toNat_le]at h2;have e97:(97:UInt8).toNat=97:=rfl;have e122:(122:UInt8).toNat=122:=rfl;rw[e97,e122]at h2;rw[if_pos h,if_pos om,UInt8.toNat_sub_of_le _ _ (by rw[UInt8.le_iff_toNat_le];show 32<=_;omega)];show(u.toNat:Int)-32=((u.toNat-32:Nat):Int);omega
  · have h2:=h;rw[UInt8.le_iff_toNat_le,UInt8.le_iff_toNat_le]at h2;have e97:(97:UInt8).toNat=97:=rfl;have e122:(122:UInt8).toNat=122:=rfl;rw[e97,e122]at h2;rw[if_neg h,if_neg om]
theorem c270(w:World)(a b:List UInt8):CR 270 #[.string (bs a),.string (bs b)] w (.int .i64 (QeK a b)):=by
 refine eN2 Tryz.func270 Tryz.ntmps270 ?_
 refine aU8 ?_
 refine o_q (Qc4 rfl rfl rfl QlA) rfl (aU2 ?_)
 exact rV
theorem c209(w:World)(a b:List UInt8):CR 209 #[.string (bs a),.string (bs b)] w (.int .i64 (QeK a b)):=by
 refine eN2 Tryz.func209 Tryz.ntmps209 ?_
 refine aU8 ?_
 refine oCq rfl (λw1 h1=>c270 w1 _ _) (aU2 ?_)
 exact rV
theorem bset{L:List UInt8}{k:Nat}{x:UInt8}{v:Value}(h:k<L.length)(hv:v=bv x):Qc (L.map bv) (k*1) [v]=(L.set k x).map bv:=by
  subst hv;have h9:=Qcy (vals:=byV) (sz:=1) (λ_=>rfl) L k 0 [bv x] (L.getD k 0) x (by rw[List.getElem?_eq_getElem h,List.getD_eq_getElem?_getD,List.getElem?_eq_getElem h];rfl) rfl (by simp);rw[Nat.add_zero]at h9;have e:∀M:List UInt8,M.flatMap byV=M.map bv:=λM=>Qcr bv M;rw[e,e]at h9;exact h9
def QbA(s:List UInt8)(k:Nat):List UInt8:=(s.map QbZ).take k++s.drop k
theorem Qa4{s:List UInt8}{k:Nat}(h:k<=s.length):(QbA s k).length=s.length:=by simp[QbA];omega
theorem Qhf{s:List UInt8}{k:Nat}(h:k<s.length):(QbA s k).getD k 0=s.getD k 0:=by
  unfold QbA;rw[List.getD_eq_getElem?_getD,List.getElem?_append_right (by simp;omega),List.getElem?_drop,List.getD_eq_getElem?_getD];congr 2;simp;omega
theorem Qhb{s:List UInt8}{k:Nat}(h:k<s.length):(QbA s k).set k (QbZ (s.getD k 0))=QbA s (k+1):=by
  unfold QbA;apply List.ext_getElem?;intro j;simp only[List.getElem?_set,List.getElem?_append,List.getElem?_take,List.getElem?_drop,List.length_append,List.length_take,List.length_map,List.length_drop,List.getElem?_map,List.getD_eq_getElem?_getD];have hk:=List.getElem?_eq_getElem h
  grind
theorem Qo7(s:List UInt8):QbA s 0=s:=by simp[QbA]
theorem QkW(s:List UInt8):QbA s s.length=s.map QbZ:=by
  unfold QbA;rw[List.drop_length,List.append_nil,List.take_of_length_le (by simp)]
theorem Qkv{s:List UInt8}{k:Nat}(h:k<s.length)(hc:QbZ (s.getD k 0)=s.getD k 0):QbA s k=QbA s (k+1):=by
  rw[<-Qhb h,hc];apply List.ext_getElem?;intro j;rw[List.getElem?_set];split
  · rename_i e;subst e;rw[<-Qhf h,List.getD_eq_getElem?_getD];rw[if_pos (by rw[Qa4 om];exact h),List.getElem?_eq_getElem (by rw[Qa4 om];exact h)];rfl
  · rfl
theorem Qmf{x:UInt8}(h:97<=x.toNat/\x.toNat<=122):Value.int .u8 (IntKind.u8.wrap (IntKind.u8.wrap ((x.toNat:Int)-97)+65))=bv (QbZ x):=by
  have h2:=QgQ x;unfold Qnv at h2;rw[if_pos om]at h2;rw[show(x.toNat:Int)-97=((x.toNat-97:Nat):Int) by omega,Qdq _ om,show((x.toNat-97:Nat):Int)+65=((x.toNat-32:Nat):Int) by omega,Qdq _ om];unfold bv;exact congrArg (Value.int .u8) om
theorem Qqk{x:UInt8}(h:¬(97<=x.toNat/\x.toNat<=122)):QbZ x=x:=by
  have h2:=QgQ x;unfold Qnv at h2;rw[if_neg om]at h2;exact UInt8.toNat_inj.1 om
theorem c212(w:World)(s:List UInt8)(hm:s.length<=1000000):CR 212 #[.string (bs s)] w (.string (bs (s.map QbZ))):=by
 refine eN1 Tryz.func212 Tryz.ntmps212 ?_
 refine aU7 ?_
 refine o_h (ZS rfl rfl Tryz.underlying9 Tryz.underlying226 Tryz.underlying5 rfl (by simp only[maxLen];omega)) rfl (λ⟨b1,c2⟩⟨h3,k4⟩=>ZH ?_)
 refine Qs (α:=Nat) [4,5,10,11,12,13,14,15,16,17,18,19,20,21,22,23,24,25,26,27] (λk=>[(10,.int .i64 (k:Int))]) (λk=>HS w [] [.blk b1 5 c2 ((QbA s k).map bv)]) (λk=>k<=s.length) (λk=>s.length-k) 0 (Nat.zero_le _) aSx (λw h=>by rw[Qo7];exact h.ent aEt) (λk hk1=>?_)
 refine aU5 ?_
 refine sCd rfl (λh5=>?_) λh5=>?_
 ·have hk:k<s.length:=by omega
  have hb9:=(s.getD k 0).toNat_lt
  refine aU6 ?_
  refine o_p (Qb rfl rfl rfl QN (k) om om rfl) rfl (o_q (X0 rfl rfl QeE (λw h=>by rw[Nat.zero_add];exact h.rd_blk (Mc:=[]) aPk (by rw[Nat.mul_one,QcH (by rw[Qa4 hk1];exact hk),Qhf hk]) (by simp))) rfl (aU8 ?_))
  refine Xu 3 17 20 rfl
   (λhg6 _=>by
    refine aU4 ?_
    exact oJt 3 20)
   (λhg8 _=>by
    refine aU2 ?_
    exact oJf 3 20) ?_
  refine aU ?_
  refine YE (α:=Unit) [21,22,23,24,25,26] (λ_=>[]) (λ_=>HS w [] [.blk b1 5 c2 ((QbA s (k+1)).map bv)]) (λ_=>True) ?_ ?_
  ·skip
   refine sCd rfl (λh10=>?_) λh10=>?_
   ·have hcc:97<=(s.getD k 0).toNat/\(s.getD k 0).toNat<=122:=by have hq:=h10;omega
    refine aU6 ?_
    try (refine Qn (u8add _ _) ?_)
    refine Qn (Qmf hcc) (o_p (Qb rfl rfl rfl QN (k) om om rfl) rfl (Qn (show _=Value.pointer (some ⟨b1,k*1,none⟩)from by rw[Nat.zero_add]) (ZG (X5 rfl rfl rfl QeE rfl aPt (by rw[List.length_map,Qa4 hk1];omega) rfl) (λ_ _=>aU ?_))))
    exact QM () trivial aSx (λw h=>by have h2:=HS.blk_to (b:=b1) h aPk (bset (L:=QbA s k) (x:=QbZ (s.getD k 0)) (by rw[Qa4 hk1];exact hk) rfl);rw[Qhb hk]at h2;exact h2.ent aEt)
   have hno:QbZ (s.getD k 0)=s.getD k 0:=Qqk (by have hq:=h10;omega)
   refine aU ?_
   exact QM () trivial aSx (λw h=>by rw[<-Qkv hk hno];exact h.ent aEt)
  intro _ _
  refine aT3 ?_
  refine aU2 ?_
  exact sBk (k+1)
 obtain rfl:k=s.length:=om
 rw[QkW]
 refine Qh rfl ?_
 refine aU3 ?_
 refine o_q (Ys rfl rfl Tryz.underlying226 Tryz.underlying9 Tryz.underlying5 aPk (by simp[List.length_map]) (Zn _)) rfl (aU2 ?_)
 exact rV (h:=by simp only[Yo];rfl)
theorem c211(w:World)(a b:List UInt8)(ha:a.length<=1000000)(hb:b.length<=1000000):CR 211 #[.string (bs a),.string (bs b)] w (.int .i64 (QeK (a.map QbZ) (b.map QbZ))):=by
 refine eN2 Tryz.func211 Tryz.ntmps211 ?_
 refine aU7 ?_
 refine oCq rfl (λw1 h1=>c212 w1 a ha) (aU ?_)
 refine oCq rfl (λw1 h1=>c212 w1 b hb) (oCq rfl (λw1 h1=>c209 w1 _ _) (aU2 ?_))
 exact rV
end Go.Proofs
namespace Gx
open Go Go.RowKit
structure DEnt where
 nm:List UInt8
 sp:Int
 ot:List UInt8
 re:Int
 sq:Int
 fl:Int
 tm:Int
 al:Int
 sz:Int
deriving DecidableEq,Inhabited
def noE:DEnt:=⟨[],0,[],0,0,0,0,0,0⟩
structure DLnk where
 re:Int
 sq:Int
 sp:Int
 nm:List UInt8
deriving DecidableEq,Inhabited
def DLnk.vals(l:DLnk):List Value:=[.int .i64 l.re,.int .i64 l.sq,.int .i64 l.sp,.string (bs l.nm)]
def noL:DLnk:=⟨0,0,0,[]⟩
def okE(b:Bool)(e:Int):Int:=if b then 0 else e
def QfD(re sq:Int):Int:=okE ((decide (0<=re)&&decide (re<=95))&&(decide (1<=sq)&&decide (sq<=65535))) 2
def QpQ(fl tm al sz:Int):Int:=okE ((decide (0<=fl)&&decide (fl<=7))&&(decide (0<=tm)&&decide (tm<=1000000))&&(decide (0<=al)&&decide (al<=2147483647))&&(decide (0<=sz)&&decide (sz<=2147483647))) 2
def Qgd(sp:Int):Int:=okE (decide (0<=sp)&&decide (sp<=2)) 2
def QC(a b:Int):Int:=if a=0 then b else a
def QoF(ot:List UInt8):Int:=if ot=[]then 0 else Xt ot
def Qkm(e:DEnt):Int:=QC (Xt e.nm) (QC (Qgd e.sp) (QC (okE (decide (e.sp=2)==decide (e.ot=[])) 3) (QC (QoF e.ot) (QC (QfD e.re e.sq) (QpQ e.fl e.tm e.al e.sz)))))
def encV(e:DEnt):List UInt8:=Q7 4 e.re++Q7 2 e.sq++Q7 1 e.sp++Q7 1 e.fl++Q7 4 e.tm++Q7 4 e.al++Q7 4 e.sz++e.ot
def Qnx(e:DEnt):TEnt:=⟨e.nm,encV e⟩
def X3(x:TEnt):DEnt:=⟨x.key,Q9 x.val 6 1,x.val.drop 20,Q9 x.val 0 4,Q9 x.val 4 2,Q9 x.val 7 1,Q9 x.val 8 4,Q9 x.val 12 4,Q9 x.val 16 4⟩
def dcE(x:TEnt):Int:=if x.val.length<20 then 3 else Qkm (X3 x)
def dcD(x:TEnt):DEnt:=if dcE x=0 then X3 x else noE
def Qbz(l:DLnk):Int:=QC (QfD l.re l.sq) (QC (Qgd l.sp) (Xt l.nm))
def encK(l:DLnk):List UInt8:=Q7 4 l.re++Q7 2 l.sq++Q7 1 l.sp++Q7 1 (l.nm.length:Int)++l.nm
def YS(s:List UInt8):DLnk:=⟨Q9 s 0 4,Q9 s 4 2,Q9 s 6 1,s.drop 8⟩
def dlE(s:List UInt8):Int:=if s.length<8 then 3 else QC (okE (decide (((s.drop 8).length:Int)=Q9 s 7 1)) 3) (Qbz (YS s))
def dlD(s:List UInt8):DLnk:=if dlE s=0 then YS s else noL
end Gx
namespace Gx
open Go Go.RowKit
def HA.obj(b:Nat)(o:Obj):HA:=⟨[b],λw=>w.heap[b]?=some o,λw w' h hk=>(h b (List.mem_singleton.2 rfl)).trans hk⟩
section
variable{w0 w:World}{M:List Nat}{As As':List HA}
theorem HS.allocObj(h:HS w0 M As w)(o:Obj):HS w0 M (.obj w.heap.size o::As) (w.alloc o):=h.alloc o _ rfl (World.alloc_heap_new w o)
theorem HS.obj_get{b:Nat}{o:Obj}(h:HS w0 M As w)(hp:QF As (.obj b o) As'):w.heap[b]?=some o:=h.ok _ hp.mem
theorem HS.putObj{b:Nat}{o:Obj}(h:HS w0 M As w)(hp:QF As (.obj b o) As')(o':Obj):HS w0 M (.obj b o'::As') (w.putObj b o'):=by
 have h1:=h.pick hp;have hb:w.heap[b]?=some o:=h1.head;have hlt:b<w.heap.size:=(Array.getElem?_eq_some_iff.1 hb).1;refine h1.swap (λ_ hx=>hx) rfl rfl rfl (by simp[World.putObj]) (λc hc=>World.putObj_heap_other (λe=>hc (by subst e;exact List.mem_singleton.2 rfl))) (World.putObj_heap_same hlt)
end
def QfB(P:Program)(l:Nat)(args:Array Value)(w:World)(R:Ending->World->Prop):Prop:=
 ∃f tmps assign body,(Instr.yield l args).run P w=.ok (.round l f tmps assign body) w/\RoundIn Fence.wide 0 P l f tmps assign body w R
section
variable{P:Program}{o:Oper}{L:Qa}
theorem QoD{C:World->Prop}{G:Type}{V:G->Value}{F:G->Prop}{C':G->World->Prop}{x:Operand}{args:Array Operand}{vs:List Value}{ts:Array TypeId}{l:Nat}(ho:o.op=.call {callee:=.value x,args:=args,argTypes:=ts})(hx:ev L x=some (.func (.yield l) #[] #[]))
  (ha:evs L args.toList=some vs)(hy:∀w,C w->QfB P l vs.toArray w λe w'=>∃g,e=.returned (V g)/\F g/\C' g w'):OpH P o L C V F C':=by
 intro ρ w hρ hw;obtain⟨f,tmps,assign,body,hr,hR⟩:=hy w hw;have e1:args.map ρ=vs.toArray:=by rw[<-QcB hρ ha,<-List.map_toArray]
 unfold execOp;simp only[ho,resolve,Sem.run_bind,hρ _ _ hx,Deferred.ofValue,e1,Sem.run_pure,Result.andThen_ok,invoke,Array.empty_append,hr];exact RoundIn.mono hR λe w'⟨g,he,hf,hc⟩=>⟨V g,he,g,rfl,hf,hc⟩
end
def rdy(fid:FuncId)(tmps:Array Value)(ps:Array Tmp)(assign body:Code)(D:Nat):Loop:={state:=.ready,pending:=none,fn:=fid,tmps:=tmps,params:=ps,assign:=assign,body:=body,defers:=D}
section
variable{X:Ctx}{k:List KI}{L:Qa}{w0:World}{M:List Nat}{As As':List HA}
theorem Qgk{C:World->Prop}{l:Nat}(hrd:X.rd=some l)(h:∀w,C w->∃r,w.heap[l]?=some (.loop r)/\X.R (.returned (.bool true)) (w.putObj l (.loop {r with state:=.ready,pending:=none}))):S X [] L C:=by
 intro a w ha hw;show(match X.rd with|none=>bodyPostM X.F 0 X.P X.fn X.R .normal a w|some l=>roundPost X.P l X.R .normal a w);rw[hrd];obtain⟨r,h1,h2⟩:=h w hw;exact⟨_,_,run_endRound none h1,h2⟩
theorem QmM{l D:Nat}{fid:FuncId}{tmps:Array Value}{ps:Array Tmp}{assign body:Code}(hrd:X.rd=some l)(hp:QF As (.obj l (.loop {rdy fid tmps ps assign body D with state:=.busy})) As')(h:∀w,HS w0 M (.obj l (.loop (rdy fid tmps ps assign body D))::As') w->X.R (.returned (.bool true)) w):S X [] L (HS w0 M As):=
 Qgk hrd λw hw=>⟨_,hw.obj_get hp,h _ (hw.putObj hp _)⟩
theorem Qb9(d:List Nat):∀k,post {X with df:=d} k=post X k
 | []=>by funext e a w;rfl
 | Sum.inl c::k=>by funext e a w;cases e<;>simp only[post,Qb9 d k]
 | Sum.inr (Sum.inl id)::k=>by funext e a w;cases e<;>simp only[post,Qb9 d k]
 | Sum.inr (Sum.inr J)::k=>by funext e a w;cases e<;>simp only[post,Qb9 d k]
end
end Gx
namespace Gx
open Go Go.RowKit
theorem Qqj{X:Ctx}{k:List KI}{L:Qa}{C:World->Prop}{α:Type}{c:Code}(md:List Nat)(Lm:α->Qa)(I:α->Prop)(h1:S X (.c c::.join (AtI X.n X.df (λx=>Lm x++QbJ md L) (λ_=>C) I)::k) L C)(h2:∀x,I x->S X k (Lm x++QbJ md L) C):S X (.c c::k) L C:=
 YE md Lm (λ_=>C) I h1 h2
end Gx
namespace Gx
open Go Go.RowKit
section
variable{w0 w:World}{M:List Nat}{As As':List HA}{p:Prop}
theorem Qqy{X:Ctx}{L:Qa}{D:Nat}(hr:X.fn.results= #[])(hp:QF As (.obj D (.deferred (some []))) As')(h:∀w,HS w0 M As' w->X.R (.returned (.tuple #[])) w)(hrd:X.rd=none:=by rfl)(hdf:X.df=[D]:=by rfl):S X [] L (HS w0 M As):=by
 intro a w ha hw;show(match X.rd with|none=>bodyPostM X.F 0 X.P X.fn X.R .normal a w|some l=>roundPost X.P l X.R .normal a w);rw[hrd];show LeavesInM X.F 0 X.P X.fn a.tmps X.R a.defers .returning w;rw[ha.defers,hdf];have h1:=(hw.putObj hp (.deferred none)).tail;exact⟨by simp,.inl ⟨D,_,rfl,run_takeDeferred (hw.obj_get hp),.tuple #[],results_none hr _ _ _,h _ h1⟩⟩
end
end Gx
namespace Go.Proofs
open Go Go.RowKit Gx
attribute [local irreducible] Go.Calls Gx.S Gx.O Gx.D Gx.OpP Gx.OpQ Gx.OpH
set_option maxRecDepth 20000
instance:TFd Tryz.prog 26 0 0 3:=⟨by kernel_rfl⟩
theorem ZI:tsz Tryz.prog 3=some (1,false):=by kernel_rfl
instance:TSz Tryz.prog 3 1 false:=⟨ZI⟩
instance:TFn Tryz.prog 78:=⟨by kernel_rfl⟩
instance:TFd Tryz.prog 26 1 1 3:=⟨by kernel_rfl⟩
theorem QgP:QJ Tryz.prog 77=true:=by kernel_rfl
instance:TFn Tryz.prog 77:=⟨QgP⟩
instance:TFd Tryz.prog 28 0 0 3:=⟨by kernel_rfl⟩
instance:TFd Tryz.prog 28 1 1 3:=⟨by kernel_rfl⟩
instance:TFd Tryz.prog 28 2 2 3:=⟨by kernel_rfl⟩
instance:TFd Tryz.prog 28 3 3 3:=⟨by kernel_rfl⟩
theorem QmZ:tsz Tryz.prog 26=some (2,true):=by kernel_rfl
instance:TSz Tryz.prog 26 2 true:=⟨QmZ⟩
theorem Qo5:QJ Tryz.prog 89=true:=by kernel_rfl
instance:TSz Tryz.prog 28 4 true:=⟨by kernel_rfl⟩
theorem QpN:QJ Tryz.prog 108=true:=by kernel_rfl
theorem Qna:QJ Tryz.prog 62=true:=by kernel_rfl
instance:TFd Tryz.prog 66 2 2 9:=⟨by kernel_rfl⟩
instance:TFd Tryz.prog 66 0 0 9:=⟨by kernel_rfl⟩
instance:TFd Tryz.prog 66 1 1 3:=⟨by kernel_rfl⟩
theorem Ql0:QJ Tryz.prog 160=true:=by kernel_rfl
instance:TFd Tryz.prog 66 3 3 26:=⟨by kernel_rfl⟩
instance:TFd Tryz.prog 66 4 5 28:=⟨by kernel_rfl⟩
instance:TSz Tryz.prog 166 1 false:=⟨by kernel_rfl⟩
theorem Qi9:Qz Tryz.prog 26=some [.int .i64 0,.int .i64 0]:=by kernel_rfl
theorem QaC:QJ Tryz.prog 100=true:=by kernel_rfl
theorem QoS:Zi Tryz.prog 26=some [(0,1),(1,1)]:=by kernel_rfl
theorem c78(w:World)(n lo hi:Int):CR 78 #[.int .i64 n,.int .i64 lo,.int .i64 hi] w (.bool (decide (lo<=n)&&decide (n<=hi))):=by
 refine eN3 Tryz.func78 Tryz.ntmps78 ?_
 refine ZH ?_
 refine Xu 4 10 14 rfl
  (λhg1 _=>by
   refine aU6 ?_
   exact oJt 4 14)
  (λhg3 _=>by
   refine aU3 ?_
   exact oJf 4 14) ?_
 refine aU2 ?_
 exact rV
theorem c77(w:World)(ok:Bool)(e:Int):CR 77 #[.bool ok,.int .i64 e] w (.int .i64 (cond ok 0 e)):=by
 refine eN2 Tryz.func77 Tryz.ntmps77 ?_
 refine aU9 ?_
 refine sCd rfl (λh1=>?_) λh1=>?_
 ·refine aU4 ?_
  exact rV (h:=by simp_all[Qw])
 refine aU6 ?_
 exact rV (h:=by simp_all[Qw])
theorem c62(w:World)(a:Option Addr)(cap:Nat)(es:List Int)(hs:Sl w [] a 1 es.length (λi=>[.int .i64 (es.getD i 0)]))(hm:es.length<=1000):CR 62 #[.slice a es.length cap] w (.int .i64 (Q2 es)):=by
 refine eN1 Tryz.func62 Tryz.ntmps62 ?_
 refine QcZ ?_
 refine Qs (α:=Nat) [2,4,7,8,9,10,11,12,13,14] (λk=>[(7,.int .i64 (k:Int))]) (λ_=>_) (λk=>k<=es.length/\Q2 es=Q2 (es.drop k)) (λk=>es.length-k) 0 ⟨om,rfl⟩ aSx (λw h=>h) (λk hk=>?_)
 obtain⟨hk1,hk2⟩:=hk
 refine aU5 ?_
 refine sCd rfl (λh1=>?_) λh1=>?_
 ·refine aU5 ?_
  refine o_p (Qb rfl rfl rfl Xp _ rfl om (hs.some om)) rfl (o_q (Qp rfl rfl Qmk (hs.rd (i:=k) (j:=0) om rfl)) rfl (aU7 ?_))
  refine sCd rfl (λh2=>?_) λh2=>?_
  ·refine aU5 ?_
   exact rV (h:=by simp only[Qw];rw[hk2,XE om,if_neg (by assumption)])
  refine aT4 ?_
  refine aU2 ?_
  exact Qv (k+1) om ⟨om,by rw[hk2,XE om,if_pos (by assumption)]⟩ aSx (λw h=>h)
 refine Qh rfl ?_
 refine aU4 ?_
 exact rV (h:=by simp only[Qw];rw[hk2,Qau om])
theorem f62{w0 w:World}{M:List Nat}{As As':List HA}{b cap n:Nat}{t:TypeId}{tot:Nat}{cs:List Value}(h:HS w0 M As w)(hp:QF As (.blk b t tot cs) As')(hc:cs.all Qfi=true)(hn:cs.length=n)(hl:n<=1000) :
    Calls Tryz.prog 62 #[.slice (some ⟨b,0,none⟩) n cap] w λen w'=>en=.returned (.int .i64 (Xq cs))/\Below w.heap.size w w':=by
  subst hn;have:=c62 w (some ⟨b,0,none⟩) cap (cs.map Go.RowKit.intOf) (by simpa using h.sl_ints hp hc) (by simpa using hl);rw[Qbh hc]at this
  simpa using this
theorem QoA(X v:Int)(hX:0<=X/\X<281474976710656)(hv:0<=v/\v<256):Value.int .i64 (Gx.bits .or .i64 (IntKind.i64.wrap (X*2^8)) v)=.int .i64 (v+256*X):=by
  obtain⟨x,rfl⟩:=Int.eq_ofNat_of_zero_le hX.1;obtain⟨y,rfl⟩:=Int.eq_ofNat_of_zero_le hv.1
  have hw:IntKind.i64.wrap ((x:Int)*2^8)=((256*x:Nat):Int):=by
    have h9:=Qkt (e:=(x:Int)*2^8) om om;injection h9 with h8 h7
    rw[h7];omega
  have e:(256*x ||| y:Nat)=y+256*x:=by rw[Nat.or_comm];exact QnB y x om
  rw[hw,QjO _ _ om om,e];exact congrArg (Value.int .i64) om
theorem X7(s:List UInt8)(a:Nat):∀(k b:Nat),Q9 (s.drop a) b k=Q9 s (a+b) k
  | 0,b=>rfl
  | k+1,b=>by
    show at1 (s.drop a) b+256*Q9 (s.drop a) (b+1) k=at1 s (a+b)+256*Q9 s (a+b+1) k;rw[X7 s a k (b+1),QmG];rfl
theorem Qor(a b c d e f:Int):Xq [.int .i64 a,.int .i64 b,.int .i64 c,.int .i64 d,.int .i64 e,.int .i64 f]=QC a (QC b (QC c (QC d (QC e f)))):=by
  simp only[Xq,QC]
  grind
theorem Qgb(a b:Int):Xq [.int .i64 a,.int .i64 b]=QC a b:=by
  simp only[Xq,QC]
  grind
theorem Qbw(a b c:Int):Xq [.int .i64 a,.int .i64 b,.int .i64 c]=QC a (QC b c):=by
  simp only[Xq,QC]
  grind
theorem c89(w:World)(re sq:Int):CR 89 #[.agg #[.int .i64 re,.int .i64 sq]] w (.int .i64 (QfD re sq)):=by
 refine eN1 Tryz.func89 Tryz.ntmps89 ?_
 refine aU2 ?_
 refine oBx λb1 _=>?_
 refine aU6 ?_
 refine oCq rfl (λw1 h1=>c78 w1 _ _ _) (aU ?_)
 refine Xu 4 6 10 rfl
  (λhg2 _=>by
   refine aU5 ?_
   refine oCq rfl (λw1 h1=>c78 w1 _ _ _) ?_
   exact oJt 4 10)
  (λhg4 _=>by
   refine aU3 ?_
   exact oJf 4 10) ?_
 refine oCq rfl (λw1 h1=>c77 w1 _ _) (aU2 ?_)
 exact rV (h:=by simp only[Qw,QfD,okE,cond_eq_ite])
theorem c108(w:World)(fl tm al sz:Int):CR 108 #[.agg #[.int .i64 fl,.int .i64 tm,.int .i64 al,.int .i64 sz]] w (.int .i64 (QpQ fl tm al sz)):=by
 refine eN1 Tryz.func108 Tryz.ntmps108 ?_
 refine aU2 ?_
 refine oBx λb1 _=>?_
 refine aU6 ?_
 refine oCq rfl (λw1 h1=>c78 w1 _ _ _) (aU ?_)
 refine Xu 4 7 11 rfl
  (λhg2 _=>by
   refine aU5 ?_
   refine oCq rfl (λw1 h1=>c78 w1 _ _ _) ?_
   exact oJt 4 11)
  (λhg4 _=>by
   refine aU3 ?_
   exact oJf 4 11) ?_
 refine aU ?_
 refine Xu 4 12 16 rfl
  (λhg6 _=>by
   refine aU5 ?_
   refine oCq rfl (λw1 h1=>c78 w1 _ _ _) ?_
   exact oJt 4 16)
  (λhg8 _=>by
   refine aU3 ?_
   exact oJf 4 16) ?_
 refine aU ?_
 refine Xu 4 17 21 rfl
  (λhg10 _=>by
   refine aU5 ?_
   refine oCq rfl (λw1 h1=>c78 w1 _ _ _) ?_
   exact oJt 4 21)
  (λhg12 _=>by
   refine aU3 ?_
   exact oJf 4 21) ?_
 refine aU5 ?_
 refine oCq rfl (λw1 h1=>c77 w1 _ _) (aU2 ?_)
 exact rV (h:=by simp only[Qw,QpQ,okE,cond_eq_ite])
theorem c160(w:World)(n:Int):CR 160 #[.int .i64 n] w (.bool (decide (0<=n)&&decide (n<=2))):=by
 refine eN1 Tryz.func160 Tryz.ntmps160 ?_
 refine aU7 ?_
 refine oCq rfl (λw1 h1=>c78 w1 _ _ _) (aU2 ?_)
 exact rV
theorem c97(w:World)(e:DEnt)(hnm:e.nm.length<=1000000)(hot:e.ot.length<=1000000):CR 97 #[.agg #[.string (bs e.nm),.int .i64 e.sp,.string (bs e.ot),.int .i64 e.re,.int .i64 e.sq,.int .i64 e.fl,.int .i64 e.tm,.int .i64 e.al,.int .i64 e.sz]] w (.int .i64 (Qkm e)):=by
 refine eN1 Tryz.func97 Tryz.ntmps97 ?_
 refine aU2 ?_
 refine oBx λb1 _=>?_
 refine Qby ?_
 refine Qqj (α:=Unit) [3,7,8,9] (λ_=>[(3,.int .i64 (QoF e.ot))]) (λ_=>True) ?_ ?_
 ·skip
  refine sCd rfl (λh2=>?_) λh2=>?_
  ·have ho:QoF e.ot=Xt e.ot:=if_neg (by have hq:=h2;simpa using hq)
   refine aU3 ?_
   refine oCq rfl (λw1 hh=>c75 w1 e.ot hot) (aU2 ?_)
   exact QM () trivial (by rw[ho];exact aSx) (λw h=>h.ent aEt)
  have ho:QoF e.ot=0:=if_pos (by have hq:=h2;simpa using hq)
  refine aU ?_
  exact QM () trivial (by rw[ho];exact aSx) (λw h=>h.ent aEt)
 intro _ _
 refine aU ?_
 refine QA [] mixed ?_
 refine dFa 0 ?_
 refine dLd 1 [] ?_
 refine dQ 2 [] rfl (Qd rfl Qlc rfl (λw1 hh=>c75 w1 e.nm hnm)) (dFa 3 ?_)
 refine dLd 4 [] ?_
 refine dQ 5 [] rfl (Qd rfl Ql0 rfl (λw1 h1=>c160 w1 _)) (dQ 6 [] rfl (Qd rfl QgP rfl (λw1 h1=>c77 w1 _ _)) (dFa 7 ?_))
 refine dLd 8 [] ?_
 refine dP 9 ?_
 refine dFa 10 ?_
 refine dLd 11 [] ?_
 refine dP 12 ?_
 refine dV 13 rfl (Qb2 rfl rfl rfl Tryz.underlying4) (dQ 14 [] rfl (Qd rfl QgP rfl (λw1 h1=>c77 w1 _ _)) (dP 15 ?_))
 refine dFa 16 ?_
 refine dLn 17 [] ?_
 refine dQ 18 [] rfl (Qd rfl Qo5 rfl (λw1 h1=>c89 w1 _ _)) (dFa 19 ?_)
 refine dLn 20 [] ?_
 refine dQ 21 [] rfl (Qd rfl QpN rfl (λw1 h1=>c108 w1 _ _ _ _)) (dH 22 rfl (Qg (cs:=[_,_,_,_,_,_]) rfl rfl Xp YC rfl rfl rfl) (λb3 _=>dBa ?_))
 refine dQ 23 [] rfl (Qd rfl Qna rfl (λw1 h1=>f62 h1 aPk (by rfl) (by rfl) (by decide))) (dP 24 ?_)
 refine dNi ?_
 exact rV (h:=by rw[Qor];simp only[Qw,Qkm,Qgd,okE,cond_eq_ite])
theorem QfK(w:World)(n:Int)(c:Nat)(hn:0<=n/\n<=9223372036854775807)(hc:c<=1000):CR 103 #[.int .i64 n,.int .i64 (c:Int)] w (.string (bs (Q7 c n))):=by
 refine eN2 Tryz.func103 Tryz.ntmps103 ?_
 refine Qiq ?_
 refine Qs (α:=Nat×Int×List UInt8×Option Addr×Nat) [0,5,7,8,9,10,11,12,13,14,15,16] (λx=>[(7,.int .i64 (x.1:Int)),(0,.int .i64 x.2.1),(5,.slice x.2.2.2.1 x.2.2.1.length x.2.2.2.2)]) (λx=>HS w [] [.own (.slice x.2.2.2.1 x.2.2.1.length x.2.2.2.2) 5 1 (x.2.2.1.length) ((x.2.2.1).map bv)]) (λx=>x.1<=c/\x.2.2.1.length=x.1/\(0<=x.2.1/\x.2.1<=9223372036854775807)/\Q7 c n=x.2.2.1++Q7 (c-x.1) x.2.1) (λx=>c-x.1) (0,n,[],none,0) ⟨Nat.zero_le _,rfl,hn,rfl⟩ aSx (λw h=>(h.own_nil 5 1).ent aEt) (λ⟨k,m,p,ga,gc⟩hx=>?_)
 dsimp only
 obtain⟨hk1,hpl,hm,hst⟩:=hx
 simp only[]at hk1 hpl hm hst
 refine aU5 ?_
 refine sCd rfl (λh1=>?_) λh1=>?_
 ·have hk:k<c:=by omega
  refine aU7 ?_
  refine o_p (Q5 rfl rfl YN QeC) rfl (Qn (show _=bv (by8 m)from Qcf m) (o_h (Qg (cs:=[_]) rfl rfl QN Qao rfl rfl rfl) rfl (λb2 _=>o_h (QZ _ rfl rfl rfl QN Tryz.underlying226 Qao rfl aPk (Xx aPk) rfl (by intro u hu;simp only[List.mem_cons,List.mem_nil_iff,or_false]at hu;subst hu;rfl) om (by simp only[maxLen];omega)) rfl (λb3 _=>aU4 ?_))))
  refine o_p (QiS rfl rfl rfl (by decide) 8 rfl) rfl (Qn (show _=Value.int .i64 (m/256)from rfl) (aT5 ?_))
  refine aU2 ?_
  exact Qv (k+1,m/256,p++[by8 m],b3.1,b3.2) (by(try simp only[]);omega) ⟨by(try simp only[]);omega,by simp[hpl],by(try simp only[]);omega,by simp only[];rw[hst,show c-k=(c-(k+1))+1 by omega,Q7,List.append_assoc];rfl⟩ (by dsimp only;rw[List.length_append];exact aSx) (λw h=>by dsimp only;rw[List.length_append,List.map_append];exact h.ent aEt)
 obtain rfl:k=c:=om
 rw[Nat.sub_self,Q7,List.append_nil]at hst
 refine Qh rfl ?_
 refine aU3 ?_
 refine o_q (Zk rfl rfl Tryz.underlying226 Tryz.underlying9 Tryz.underlying5 aPk (Zn _)) rfl (aU2 ?_)
 exact rV (h:=by rw[Yo,hst];rfl)
theorem QfL(w:World)(b:Nat)(s:List UInt8)(c:Nat)(hw:HS w (fps [.blk b 166 1 [.string (bs s)]]) [.blk b 166 1 [.string (bs s)]] w)(hc:c<=7)(hcl:c<=s.length)(hm:s.length<=1000000):CE 100 #[.pointer (some ⟨b,0,none⟩),.int .i64 (c:Int)] w (fps [.blk b 166 1 [.string (bs s)]]) (λg:Unit=>.int .i64 (Q9 s 0 c)) (λg=>True) λg=>[.blk b 166 1 [.string (bs (s.drop c))]]:=by
 refine eW2 Tryz.func100 Tryz.ntmps100 hw ?_
 refine aT13 ?_
 refine aU3 ?_
 refine Qs (α:=Nat) [5,6,9,10,11,12,13,14,15,16,17,18,19,20,21] (λj=>[(6,.int .i64 ((j:Int)-1)),(5,.int .i64 (Q9 s j (c-j)))]) (λ_=>_) (λj=>j<=c) (λj=>j) c (Nat.le_refl _) (by rw[Nat.sub_self];exact aSx) (λw h=>h) (λj hj=>?_)
 refine aU6 ?_
 refine sCd rfl (λh1=>?_) λh1=>?_
 ·obtain⟨i,rfl⟩:∃i,j=i+1:=⟨j-1,om⟩
  have hst:Q9 s i (c-i)=at1 s i+256*Q9 s (i+1) (c-(i+1)):=by rw[show c-i=(c-(i+1))+1 by omega];rfl
  have hb1:=Qip s i
  have hn6:=Qk6 s (i+1) (k:=c-(i+1)) om
  have hb9:=(s.getD i 0).toNat_lt
  refine aU5 ?_
  refine o_p (QhF rfl rfl rfl (by decide) 8 rfl) rfl (aU4 ?_)
  refine o_p (QD rfl rfl rfl Tryz.underlying166 (i) om om) rfl ?_
  refine o_p (Q5 rfl rfl QeC YN) rfl ?_
  try refine oWr ?_
  refine aU ?_
  refine Qn (show _=Value.int .i64 (Q9 s i (c-i))from by rw[hst];exact QoA _ _ hn6 hb1) (aT6 ?_)
  refine aU2 ?_
  exact Qv i om om (by rw[show((i:Int)-1)=((i+1:Nat):Int)-1-1 from om];exact aSx) (λw h=>h)
 obtain rfl:j=0:=om
 rw[Nat.sub_zero]
 refine Qh rfl ?_
 refine aU7 ?_
 refine o_p (X1 c rfl rfl rfl Tryz.underlying166 rfl om) rfl (aU8 ?_)
 exact rT rfl rfl (λw' h'=>⟨(),rfl,trivial,h'.ent aEt⟩)
theorem c99(w:World)(b:Nat)(s:List UInt8)(hw:HS w (fps [.blk b 166 1 [.string (bs s)]]) [.blk b 166 1 [.string (bs s)]] w)(hcl:6<=s.length)(hm:s.length<=1000000):CE 99 #[.pointer (some ⟨b,0,none⟩)] w (fps [.blk b 166 1 [.string (bs s)]]) (λg:Unit=>.agg #[.int .i64 (Q9 s 0 4),.int .i64 (Q9 s 4 2)]) (λg=>True) λg=>[.blk b 166 1 [.string (bs (s.drop 6))]]:=by
 refine eW1 Tryz.func99 Tryz.ntmps99 hw ?_
 refine aU2 ?_
 refine oAl (λb1 _=>?_) Qi9
 refine aU4 ?_
 refine o_h (QH (Cs:=[.blk b 166 1 [.string (bs s)]]) rfl QaC rfl aPs (λw1 h1 hf=>QfL w1 b s 4 hf om (by(try simp only[List.length_drop]);omega) (by(try simp only[List.length_drop]);omega))) rfl (λ_ _=>aU5 ?_)
 refine o_h (QH (Cs:=[.blk b 166 1 [.string (bs (s.drop 4))]]) rfl QaC rfl aPs (λw1 h1 hf=>QfL w1 b (s.drop 4) 2 hf om (by(try simp only[List.length_drop]);omega) (by(try simp only[List.length_drop]);omega))) rfl (λ_ _=>aU6 ?_)
 refine o_p (XP (cs:=[_,_]) rfl rfl QoS Qi9 rfl) rfl (aU2 ?_)
 exact Qj (rs:=[.cell 2 26]) rfl (.cell rfl QmZ aPk rfl (.nil)) (λw' h'=>⟨(),by rw[X7];rfl,trivial,by have h2:=h'.pick (A:=.blk b 166 1 [.string (bs ((s.drop 4).drop 2))]) aPk;rw[List.drop_drop]at h2;exact h2.ent aEt⟩)
theorem Qax:QJ Tryz.prog 103=true:=by kernel_rfl
theorem Qq0:Qz Tryz.prog 28=some [.int .i64 0,.int .i64 0,.int .i64 0,.int .i64 0]:=by kernel_rfl
theorem Ql9:QJ Tryz.prog 102=true:=by kernel_rfl
theorem Qry:Zi Tryz.prog 84=some [(0,1),(1,1)]:=by kernel_rfl
theorem Qo3:tsz Tryz.prog 84=some (2,true):=by kernel_rfl
instance:TSz Tryz.prog 84 2 true:=⟨Qo3⟩
theorem Qgc:Qz Tryz.prog 66=some [.string (bs []),.int .i64 0,.string (bs []),.int .i64 0,.int .i64 0,.int .i64 0,.int .i64 0,.int .i64 0,.int .i64 0]:=by kernel_rfl
instance:TFd Tryz.prog 84 1 1 9:=⟨by kernel_rfl⟩
theorem QlL:Zi Tryz.prog 66=some [(0,1),(1,1),(2,1),(3,2),(5,4)]:=by kernel_rfl
theorem QiL:tsz Tryz.prog 66=some (9,true):=by kernel_rfl
instance:TSz Tryz.prog 66 9 true:=⟨QiL⟩
theorem Qm4:Qz Tryz.prog 166=some [.string (bs [])]:=by kernel_rfl
instance:TFd Tryz.prog 84 0 0 9:=⟨by kernel_rfl⟩
theorem QoV:QJ Tryz.prog 99=true:=by kernel_rfl
instance:TFn Tryz.prog 97:=⟨by kernel_rfl⟩
theorem QoN{b:Bool}{e:Int}(he:e≠0)(h:okE b e=0):b=true:=by
  unfold okE at h;cases b with
  | true=>rfl
  | false=>exact absurd h he
theorem Qln{a b:Int}(h:QC a b=0):a=0/\b=0:=by
  unfold QC at h;split at h
  · exact⟨by assumption,h⟩
  · exact absurd h (by assumption)
theorem c102(w:World)(re sq:Int)(hre:0<=re/\re<=9223372036854775807)(hsq:0<=sq/\sq<=9223372036854775807):CR 102 #[.agg #[.int .i64 re,.int .i64 sq]] w (.string (bs (Q7 4 re++Q7 2 sq))):=by
 refine eN1 Tryz.func102 Tryz.ntmps102 ?_
 refine aU2 ?_
 refine oBx λb1 _=>?_
 refine aU3 ?_
 refine QA [] mixed ?_
 refine dFa 0 ?_
 refine dLd 1 [] ?_
 refine dQ 2 [] rfl (Qd rfl Qax rfl (λw1 h1=>QfK w1 re 4 hre (by decide))) (dFa 3 ?_)
 refine dLd 4 [] ?_
 refine dQ 5 [] rfl (Qd rfl Qax rfl (λw1 h1=>QfK w1 sq 2 hsq (by decide))) (dV 6 rfl (Qk rfl rfl rfl (by(try simp only[List.length_append,List.length_cons,List.length_nil,List.length_replicate,List.length_take,List.length_drop,Qm]);omega)) (dP 7 ?_))
 refine dNi ?_
 exact rV
theorem c98(w:World)(e:DEnt)(hnm:e.nm.length<=1000000)(hot:e.ot.length<=1000000)(hre:0<=e.re/\e.re<=9223372036854775807)(hsq:0<=e.sq/\e.sq<=9223372036854775807)(hsp:0<=e.sp/\e.sp<=9223372036854775807)(hfl:0<=e.fl/\e.fl<=9223372036854775807)(htm:0<=e.tm/\e.tm<=9223372036854775807)(hal:0<=e.al/\e.al<=9223372036854775807)(hsz:0<=e.sz/\e.sz<=9223372036854775807):CR 98 #[.agg #[.string (bs e.nm),.int .i64 e.sp,.string (bs e.ot),.int .i64 e.re,.int .i64 e.sq,.int .i64 e.fl,.int .i64 e.tm,.int .i64 e.al,.int .i64 e.sz]] w (.agg #[.string (bs (Qnx e).key),.string (bs (Qnx e).val)]):=by
 refine eN1 Tryz.func98 Tryz.ntmps98 ?_
 refine aU2 ?_
 refine oBx λb1 _=>?_
 refine oAl (λb2 _=>?_) QiE
 refine aU5 ?_
 refine oAl (λb3 _=>?_) Qq0
 refine aU3 ?_
 refine QA [29] mixed ?_
 refine dFa 0 ?_
 refine dLd 1 [[]] ?_
 refine dFa 2 ?_
 refine dLn 3 [[]] ?_
 refine dQ 4 [[]] rfl (Qd rfl Ql9 rfl (λw1 h1=>c102 w1 e.re e.sq hre hsq)) (dFa 5 ?_)
 refine dLd 6 [[]] ?_
 refine dQ 7 [[]] rfl (Qd rfl Qax rfl (λw1 h1=>QfK w1 e.sp 1 hsp (by decide))) (dV 8 rfl (Qk rfl rfl rfl (by(try simp only[List.length_append,List.length_cons,List.length_nil,List.length_replicate,List.length_take,List.length_drop,Qm]);omega)) (dFa 9 ?_))
 refine dLd 10 [[]] ?_
 refine dQ 11 [[]] rfl (Qd rfl Qax rfl (λw1 h1=>QfK w1 e.fl 1 hfl (by decide))) (dV 12 rfl (Qk rfl rfl rfl (by(try simp only[List.length_append,List.length_cons,List.length_nil,List.length_replicate,List.length_take,List.length_drop,Qm]);omega)) (dFa 13 ?_))
 refine dLd 14 [[]] ?_
 refine dQ 15 [[]] rfl (Qd rfl Qax rfl (λw1 h1=>QfK w1 e.tm 4 htm (by decide))) (dV 16 rfl (Qk rfl rfl rfl (by(try simp only[List.length_append,List.length_cons,List.length_nil,List.length_replicate,List.length_take,List.length_drop,Qm]);omega)) (dFa 17 ?_))
 refine dLd 18 [[]] ?_
 refine dQ 19 [[]] rfl (Qd rfl Qax rfl (λw1 h1=>QfK w1 e.al 4 hal (by decide))) (dV 20 rfl (Qk rfl rfl rfl (by(try simp only[List.length_append,List.length_cons,List.length_nil,List.length_replicate,List.length_take,List.length_drop,Qm]);omega)) (dFa 21 ?_))
 refine dLd 22 [[]] ?_
 refine dQ 23 [[]] rfl (Qd rfl Qax rfl (λw1 h1=>QfK w1 e.sz 4 hsz (by decide))) (dV 24 rfl (Qk rfl rfl rfl (by(try simp only[List.length_append,List.length_cons,List.length_nil,List.length_replicate,List.length_take,List.length_drop,Qm]);omega)) (dFa 25 ?_))
 refine dLd 26 [[]] ?_
 refine dV 27 rfl (Qk rfl rfl rfl (by(try simp only[List.length_append,List.length_cons,List.length_nil,List.length_replicate,List.length_take,List.length_drop,Qm]);omega)) (dV 28 rfl (XP (cs:=[_,_]) rfl rfl Qry QiE rfl) (dSt 29 ?_ (hl:=(by simp only[Qf,List.length_set,List.length_cons,List.length_nil,List.length_map];omega))))
 refine dTu [] ?_
 refine dNi ?_
 exact Qj (rs:=[.cell 2 84]) rfl (.cell rfl Qo3 aPk rfl (.nil)) (λw' h'=>⟨by rfl,h'.below⟩)
theorem c40(w:World)(x:TEnt)(hk:x.key.length<=1000000)(hv:x.val.length<=1000000):CR 40 #[.agg #[.string (bs x.key),.string (bs x.val)]] w (.tuple #[.agg #[.string (bs (dcD x).nm),.int .i64 (dcD x).sp,.string (bs (dcD x).ot),.int .i64 (dcD x).re,.int .i64 (dcD x).sq,.int .i64 (dcD x).fl,.int .i64 (dcD x).tm,.int .i64 (dcD x).al,.int .i64 (dcD x).sz],.int .i64 (dcE x)]):=by
 refine eN1 Tryz.func40 Tryz.ntmps40 ?_
 refine aU2 ?_
 refine oBx λb1 _=>?_
 refine oAl (λb2 _=>?_) Qgc
 refine aU7 ?_
 refine o_p (Qi rfl rfl Tryz.underlying9) rfl (aU2 ?_)
 refine sCd rfl (λh3=>?_) λh3=>?_
 ·have hl20:x.val.length<20:=by have hq:=h3;omega
  have hE:dcE x=3:=if_pos hl20
  have hD:dcD x=noE:=if_neg (by rw[hE];decide)
  refine aU2 ?_
  refine o_p (XP (cs:=[_,_,_,_,_,_,_,_,_]) rfl rfl QlL Qgc rfl) rfl (aU3 ?_)
  exact Qj (rs:=[.cell 2 66,.tmp 3]) rfl (.cell rfl QiL aPk rfl (.tmp rfl (.nil))) (λw' h'=>⟨by rw[hD,hE];rfl,h'.below⟩)
 have hl20:¬x.val.length<20:=by have hq:=h3;omega
 have hE:dcE x=Qkm (X3 x):=if_neg hl20
 refine aU5 ?_
 refine oAl (λb4 _=>?_) Qm4
 refine aU6 ?_
 refine o_p (XP (cs:=[_,_,_,_,_,_,_,_,_]) rfl rfl QlL Qgc rfl) rfl (oAl (λb5 _=>?_) Qgc)
 refine aU4 ?_
 refine o_h (QH (Cs:=[.blk b4 166 1 [.string (bs x.val)]]) rfl QoV rfl aPs (λw1 h1 hf=>c99 w1 b4 x.val hf om hv)) rfl (λ_ _=>aU5 ?_)
 refine o_h (QH (Cs:=[.blk b4 166 1 [.string (bs (x.val.drop 6))]]) rfl QaC rfl aPs (λw1 h1 hf=>QfL w1 b4 (x.val.drop 6) 1 hf om (by simp only[List.length_drop];omega) (by simp only[List.length_drop];omega))) rfl (λ_ _=>Qn (show _=Value.int .i64 (Q9 x.val 6 1)from by rw[X7]) (aU5 ?_))
 refine o_h (QH (Cs:=[.blk b4 166 1 [.string (bs ((x.val.drop 6).drop 1))]]) rfl QaC rfl aPs (λw1 h1 hf=>QfL w1 b4 ((x.val.drop 6).drop 1) 1 hf om (by simp only[List.length_drop];omega) (by simp only[List.length_drop];omega))) rfl (λ_ _=>Qn (show _=Value.int .i64 (Q9 x.val 7 1)from by rw[List.drop_drop,X7]) (aU6 ?_))
 refine o_h (QH (Cs:=[.blk b4 166 1 [.string (bs (((x.val.drop 6).drop 1).drop 1))]]) rfl QaC rfl aPs (λw1 h1 hf=>QfL w1 b4 (((x.val.drop 6).drop 1).drop 1) 4 hf om (by simp only[List.length_drop];omega) (by simp only[List.length_drop];omega))) rfl (λ_ _=>Qn (show _=Value.int .i64 (Q9 x.val 8 4)from by rw[List.drop_drop,List.drop_drop,X7]) (aU6 ?_))
 refine o_h (QH (Cs:=[.blk b4 166 1 [.string (bs ((((x.val.drop 6).drop 1).drop 1).drop 4))]]) rfl QaC rfl aPs (λw1 h1 hf=>QfL w1 b4 ((((x.val.drop 6).drop 1).drop 1).drop 4) 4 hf om (by simp only[List.length_drop];omega) (by simp only[List.length_drop];omega))) rfl (λ_ _=>Qn (show _=Value.int .i64 (Q9 x.val 12 4)from by rw[List.drop_drop,List.drop_drop,List.drop_drop,X7]) (aU6 ?_))
 refine o_h (QH (Cs:=[.blk b4 166 1 [.string (bs (((((x.val.drop 6).drop 1).drop 1).drop 4).drop 4))]]) rfl QaC rfl aPs (λw1 h1 hf=>QfL w1 b4 (((((x.val.drop 6).drop 1).drop 1).drop 4).drop 4) 4 hf om (by simp only[List.length_drop];omega) (by simp only[List.length_drop];omega))) rfl (λ_ _=>Qn (show _=Value.int .i64 (Q9 x.val 16 4)from by rw[List.drop_drop,List.drop_drop,List.drop_drop,List.drop_drop,X7]) (aU5 ?_))
 refine Ql (L':=[(2,_),(3,_),(4,_),(5,_)]) aSx (λ_ h=>h) ?_
 refine aU2 ?_
 refine Qn (show _=Value.string (bs (x.val.drop 20))from by rw[List.drop_drop,List.drop_drop,List.drop_drop,List.drop_drop,List.drop_drop]) (aU7 ?_)
 refine Qn (show _=.agg #[.string (bs (X3 x).nm),.int .i64 (X3 x).sp,.string (bs (X3 x).ot),.int .i64 (X3 x).re,.int .i64 (X3 x).sq,.int .i64 (X3 x).fl,.int .i64 (X3 x).tm,.int .i64 (X3 x).al,.int .i64 (X3 x).sz]from rfl) (Qbg (C':=HS w [] [.blk b5 66 9 [.string (bs (X3 x).nm),.int .i64 (X3 x).sp,.string (bs (X3 x).ot),.int .i64 (X3 x).re,.int .i64 (X3 x).sq,.int .i64 (X3 x).fl,.int .i64 (X3 x).tm,.int .i64 (X3 x).al,.int .i64 (X3 x).sz],.blk b2 66 9 [.string (bs []),.int .i64 0,.string (bs []),.int .i64 0,.int .i64 0,.int .i64 0,.int .i64 0,.int .i64 0,.int .i64 0]]) (λw h=>h.ent aEt) (oCq rfl (λw1 h1=>c97 w1 (X3 x) hk (by show(x.val.drop 20).length<=_;rw[List.length_drop];omega)) (aU7 ?_)))
 refine sCd rfl (λh6=>?_) λh6=>?_
 ·have hz:¬Qkm (X3 x)=0:=by have hq:=h6;exact hq
  have hD:dcD x=noE:=if_neg (by rw[hE];exact hz)
  refine aU2 ?_
  refine o_p (XP (cs:=[_,_,_,_,_,_,_,_,_]) rfl rfl QlL Qgc rfl) rfl (aU4 ?_)
  exact Qj (rs:=[.cell 2 66,.tmp 3]) rfl (.cell rfl QiL aPk rfl (.tmp rfl (.nil))) (λw' h'=>⟨by rw[hD,hE];rfl,h'.below⟩)
 have hz:Qkm (X3 x)=0:=by have hq:=h6;simpa using hq
 have hD:dcD x=X3 x:=if_pos (by rw[hE];exact hz)
 refine aU4 ?_
 refine Qn (show _=.agg #[.string (bs (X3 x).nm),.int .i64 (X3 x).sp,.string (bs (X3 x).ot),.int .i64 (X3 x).re,.int .i64 (X3 x).sq,.int .i64 (X3 x).fl,.int .i64 (X3 x).tm,.int .i64 (X3 x).al,.int .i64 (X3 x).sz]from rfl) (aU3 ?_)
 exact Qj (rs:=[.cell 2 66,.tmp 3]) rfl (.cell rfl QiL aPk rfl (.tmp rfl (.nil))) (λw' h'=>⟨by rw[hD,hE,hz];rfl,h'.below⟩)
instance:TFn Tryz.prog 67:=⟨by kernel_rfl⟩
theorem Qdy{s:List UInt8}{c:UInt8}(h:0<s.length):[c].isSuffixOf s=decide (s.getD (s.length-1) 0=c):=by
  rcases List.eq_nil_or_concat s with e|⟨r,x,e⟩
  · subst e;simp at h
  · rw[List.concat_eq_append]at e;subst e
    have e1:(r++[x]).getD ((r++[x]).length-1) 0=x:=by
      rw[List.getD_eq_getElem?_getD,List.length_append,List.length_singleton,Nat.add_sub_cancel,List.getElem?_append_right (Nat.le_refl _),Nat.sub_self];rfl
    rw[e1,Bool.eq_iff_iff,List.isSuffixOf_iff_suffix,decide_eq_true_eq];constructor
    · rintro⟨t,ht⟩;have:=List.append_inj_right' ht rfl
      simpa using this.symm
    · rintro rfl;exact⟨r,rfl⟩
theorem QkF{s:List UInt8}{p:UInt8->Bool}{k:Nat}(h:k<s.length):(s.take (k+1)).all p=((s.take k).all p&&p (s.getD k 0)):=by
  rw[XX (d:=0) h,List.all_append];simp
theorem Qny{s:List UInt8}{p:UInt8->Bool}{k:Nat}(h:k<s.length)(hp:p (s.getD k 0)=false):s.all p=false:=by
  rw[List.all_eq_false];exact⟨s.getD k 0,Yt h,by rw[hp];simp⟩
theorem Qmw{s:List UInt8}(h:0<s.length)(hl:s.length<=32)(h1:¬s=[46,46])(h2:¬s.getD (s.length-1) 0=32)(h3:¬s.getD (s.length-1) 0=46):Zz s=s.all Yc:=by
  unfold Zz;rw[Qdy h,Qdy h,decide_eq_false h1,decide_eq_false h2,decide_eq_false h3,decide_eq_false (by intro e;rw[e]at h;simp at h),decide_eq_true hl];simp
theorem Ql8{s:List UInt8}(h:s=[]\/s=[46,46]\/(0<s.length/\(s.getD (s.length-1) 0=32\/s.getD (s.length-1) 0=46))):Zz s=false:=by
  unfold Zz;rcases h with h|h|⟨h0,h|h⟩
  · simp[h]
  · simp[h]
  · rw[Qdy h0,decide_eq_true h];simp
  · rw[Qdy (c:=46) h0,decide_eq_true h];simp
theorem c67(w:World)(c:UInt8):CR 67 #[.int .u8 (c.toNat:Int)] w (.bool (Yc c)):=by
 have hns:¬c∈Xc->(Xc.contains c)=false:=by intro h;simpa using h
 refine eN1 Tryz.func67 Tryz.ntmps67 ?_
 refine ZH ?_
 refine oOr 3 6 9 rfl
  (λhg1 _=>by
   refine aU4 ?_
   exact oJf 3 9)
  (λhg3 _=>by
   refine aU2 ?_
   exact oJt 3 9) ?_
 refine aU ?_
 refine sCd rfl (λh5=>?_) λh5=>?_
 ·refine aU4 ?_
  exact rV (h:=by unfold Yc;simp only[Qw];by_cases hA:32<=c.toNat;(by_cases hB:c.toNat<=126;(exfalso;omega);simp[hA,hB]);simp[hA])
 have hc1:32<=c.toNat/\c.toNat<=126:=by have hq:=h5;omega
 refine aU7 ?_
 refine Qs (α:=Nat) [2,3,10,11,12,13,14,15,16,17] (λk=>[(3,.int .i64 (k:Int))]) (λ_=>_) (λk=>k<=9/\∀j,j<k->¬Xc.getD j 0=c) (λk=>9-k) 0 ⟨Nat.zero_le _,λj h=>absurd h (Nat.not_lt_zero j)⟩ aSx (λw h=>h) (λk hkk=>?_)
 obtain⟨hk1,hk2⟩:=hkk
 refine aU6 ?_
 refine sCd rfl (λh6=>?_) λh6=>?_
 ·have hk:k<Xc.length:=by show k<9;omega
  refine aU6 ?_
  refine o_p (QD rfl rfl rfl Tryz.underlying9 (k) om (by show k<9;omega)) rfl ?_
  refine aU3 ?_
  refine sCd rfl (λh7=>?_) λh7=>?_
  ·have hin:c∈Xc:=by have hq2:((Xc.getD k 0).toNat:Int)=(c.toNat:Int):=h7;have e9:Xc.getD k 0=c:=UInt8.toNat_inj.1 om;rw[<-e9];exact Yt hk
   refine aU4 ?_
   exact rV (h:=by unfold Yc;simp[Qw,hin])
  have hne:¬Xc.getD k 0=c:=by intro hA;have hq:¬((Xc.getD k 0).toNat:Int)=(c.toNat:Int):=h7;rw[hA]at hq;exact hq rfl
  refine aT5 ?_
  refine aU2 ?_
  exact Qv (k+1) om ⟨om,λj hj=>(Nat.lt_succ_iff_lt_or_eq.1 hj).elim (hk2 j) (λe=>by rw[e];exact hne)⟩ aSx (λw h=>h)
 have hni:¬c∈Xc:=by intro hm;obtain⟨j,hj,e⟩:=QmQ (d:=0) hm;exact hk2 j (by have:j<9:=hj;omega) e
 refine Qh rfl ?_
 refine aU4 ?_
 exact rV (h:=by unfold Yc;simp only[Qw,hns hni,decide_eq_true hc1.1,decide_eq_true hc1.2];rfl)
theorem c16(w:World)(s:List UInt8)(hm:s.length<=9223372036854775807):CR 16 #[.string (bs s)] w (.int .i64 (Xt s)):=by
 have e32:0<s.length->(((s.getD (s.length-1) 0).toNat:Int)=32 ↔ s.getD (s.length-1) 0=32):=λ_=>⟨λh=>UInt8.toNat_inj.1 (by show(s.getD (s.length-1) 0).toNat=32;omega),λh=>by rw[h];rfl⟩
 have e46:0<s.length->(((s.getD (s.length-1) 0).toNat:Int)=46 ↔ s.getD (s.length-1) 0=46):=λ_=>⟨λh=>UInt8.toNat_inj.1 (by show(s.getD (s.length-1) 0).toNat=46;omega),λh=>by rw[h];rfl⟩
 have hpos:¬s=[]->0<s.length:=λh=>List.length_pos_iff.2 h
 refine eN1 Tryz.func16 Tryz.ntmps16 ?_
 refine aU8 ?_
 refine o_p (Qi rfl rfl Tryz.underlying9) rfl (aU2 ?_)
 refine sCd rfl (λh1=>?_) λh1=>?_
 ·have hl:¬s.length<=32:=by have hq:=h1;omega
  refine aU4 ?_
  exact rV (h:=by rw[Xt,if_neg hl];rfl)
 have hl:s.length<=32:=by have hq:=h1;omega
 refine aU7 ?_
 refine oOr 3 9 12 rfl
  (λhg2 _=>by
   refine aU4 ?_
   exact oJf 3 12)
  (λhg4 _=>by
   refine aU2 ?_
   exact oJt 3 12) ?_
 refine aU ?_
 refine oOr 3 13 16 rfl
  (λhg6 _=>by
   refine aU4 ?_
   exact oJf 3 16)
  (λhg8 _=>by
   refine aU2 ?_
   exact oJt 3 16) ?_
 refine aU ?_
 refine oOr 7 17 24 rfl
  (λhg10 _=>by
   refine aU5 ?_
   refine o_p (Qi rfl rfl Tryz.underlying9) rfl (aT2 ?_)
   have hp9:0<s.length:=hpos (by have hq:=hg10;simp at hq;grind)
   refine aU ?_
   refine o_p (QD rfl rfl rfl Tryz.underlying9 (s.length-1) om om) rfl ?_
   refine aU2 ?_
   exact oJf 7 24)
  (λhg12 _=>by
   refine aU6 ?_
   exact oJt 7 24) ?_
 refine aU ?_
 refine oOr 7 25 32 rfl
  (λhg14 _=>by
   refine aU5 ?_
   refine o_p (Qi rfl rfl Tryz.underlying9) rfl (aT2 ?_)
   have hp9:0<s.length:=hpos (by have hq:=hg14;simp at hq;grind)
   refine aU ?_
   refine o_p (QD rfl rfl rfl Tryz.underlying9 (s.length-1) om om) rfl ?_
   refine aU2 ?_
   exact oJf 7 32)
  (λhg16 _=>by
   refine aU6 ?_
   exact oJt 7 32) ?_
 refine aU ?_
 refine sCd rfl (λh18=>?_) λh18=>?_
 ·have hf:Zz s=false:=by have hq:=h18;apply Ql8;by_cases hz:s=[];(exact .inl hz);(have hp:=hpos hz;simp only[e32 hp,e46 hp]at hq;rcases hq with(((hq|hq)|hq)|hq)|hq;(exact absurd hq hz);(exact .inr (.inr ⟨hp,.inr (by rw[hq];rfl)⟩));(exact .inr (.inl hq));(exact .inr (.inr ⟨hp,.inl hq⟩));(exact .inr (.inr ⟨hp,.inr hq⟩)))
  refine aU4 ?_
  exact rV (h:=by rw[Xt,if_pos hl,hf];rfl)
 have hq:=h18
 have hz:¬s=[]:=hq.1.1.1.1
 have hp:=hpos hz
 simp only[e32 hp,e46 hp]at hq
 have hr:=Qmw hp hl hq.1.1.2 hq.1.2 hq.2
 refine aU7 ?_
 refine Ql (L':=[(0,_),(2,_),(3,_)]) aSx (λ_ h=>h) ?_
 refine Qs (α:=Nat) [2,3,33,34,35,36,37,38,39,40,41,42,43] (λk=>[(3,.int .i64 (k:Int))]) (λ_=>_) (λk=>k<=s.length/\(s.take k).all Yc=true) (λk=>s.length-k) 0 ⟨Nat.zero_le _,rfl⟩ aSx (λw h=>h) (λk hkk=>?_)
 obtain⟨hk1,hk2⟩:=hkk
 refine aU5 ?_
 refine o_p (Qi rfl rfl Tryz.underlying9) rfl (aU2 ?_)
 refine sCd rfl (λh19=>?_) λh19=>?_
 ·have hk:k<s.length:=by omega
  have hst:=QkF (p:=Yc) hk
  refine aU7 ?_
  refine o_p (QD rfl rfl rfl Tryz.underlying9 (k) om om) rfl ?_
  refine oCq rfl (λw1 h1=>c67 w1 (s.getD k 0)) (aU2 ?_)
  refine sCd rfl (λh20=>?_) λh20=>?_
  ·have hf:Zz s=false:=by rw[hr];exact Qny hk h20
   refine aU4 ?_
   exact rV (h:=by rw[Xt,if_pos hl,hf];rfl)
  have hk3:(s.take (k+1)).all Yc=true:=by rw[hst,hk2,h20];rfl
  refine aT5 ?_
  refine aU2 ?_
  exact Qv (k+1) om ⟨om,hk3⟩ aSx (λw h=>h)
 obtain rfl:k=s.length:=om
 refine Qh rfl ?_
 refine aU4 ?_
 exact rV (h:=by rw[List.take_length]at hk2;rw[Xt,if_pos hl,hr,hk2];rfl)
instance:TFd Tryz.prog 82 0 0 26:=⟨by kernel_rfl⟩
instance:TFd Tryz.prog 82 1 2 3:=⟨by kernel_rfl⟩
instance:TFd Tryz.prog 82 2 3 9:=⟨by kernel_rfl⟩
theorem Qcb:tsz Tryz.prog 82=some (4,true):=by kernel_rfl
instance:TSz Tryz.prog 82 4 true:=⟨Qcb⟩
theorem Qmq:QJ Tryz.prog 101=true:=by kernel_rfl
instance:TFn Tryz.prog 101:=⟨Qmq⟩
theorem Ze:Qz Tryz.prog 82=some [.int .i64 0,.int .i64 0,.int .i64 0,.string (bs [])]:=by kernel_rfl
theorem QeR:Zi Tryz.prog 82=some [(0,2),(2,1),(3,1)]:=by kernel_rfl
theorem Qqp{l:DLnk}(h:Qbz l=0):Xt l.nm=0/\(0<=l.sp/\l.sp<=2)/\(0<=l.re/\l.re<=95)/\1<=l.sq/\l.sq<=65535:=by
  obtain⟨a1,h⟩:=Qln h;obtain⟨a2,a3⟩:=Qln h;have b1:=QoN (by decide) a1;have b2:=QoN (by decide) a2;simp only[Bool.and_eq_true,decide_eq_true_eq]at b1 b2;exact⟨a3,b2,b1⟩
theorem c101(w:World)(l:DLnk)(hnm:l.nm.length<=1000000):CR 101 #[.agg #[.int .i64 l.re,.int .i64 l.sq,.int .i64 l.sp,.string (bs l.nm)]] w (.int .i64 (Qbz l)):=by
 refine eN1 Tryz.func101 Tryz.ntmps101 ?_
 refine aU2 ?_
 refine oBx λb1 _=>?_
 refine aU3 ?_
 refine QA [] mixed ?_
 refine dFa 0 ?_
 refine dLn 1 [] ?_
 refine dQ 2 [] rfl (Qd rfl Qo5 rfl (λw1 h1=>c89 w1 _ _)) (dFa 3 ?_)
 refine dLd 4 [] ?_
 refine dQ 5 [] rfl (Qd rfl Ql0 rfl (λw1 h1=>c160 w1 _)) (dQ 6 [] rfl (Qd rfl QgP rfl (λw1 h1=>c77 w1 _ _)) (dFa 7 ?_))
 refine dLd 8 [] ?_
 refine dQ 9 [] rfl (Qd rfl Qlc rfl (λw1 hh=>c75 w1 l.nm hnm)) (dH 10 rfl (Qg (cs:=[_,_,_]) rfl rfl Xp YC rfl rfl rfl) (λb2 _=>dBa ?_))
 refine dQ 11 [] rfl (Qd rfl Qna rfl (λw1 h1=>f62 h1 aPk (by rfl) (by rfl) (by decide))) (dP 12 ?_)
 refine dNi ?_
 exact rV (h:=by rw[Qbw];simp only[Qw,Qbz,Qgd,okE,cond_eq_ite])
theorem c41(w:World)(l:DLnk)(hnm:l.nm.length<=1000000):CR 41 #[.agg #[.int .i64 l.re,.int .i64 l.sq,.int .i64 l.sp,.string (bs l.nm)]] w (.tuple #[.string (bs (if Qbz l=0 then encK l else[])),.int .i64 (Qbz l)]):=by
 refine eN1 Tryz.func41 Tryz.ntmps41 ?_
 refine aU2 ?_
 refine oBx λb1 _=>?_
 refine aU7 ?_
 refine oCq rfl (λw1 h1=>c101 w1 l hnm) (aU7 ?_)
 refine sCd rfl (λh2=>?_) λh2=>?_
 ·have hz:¬Qbz l=0:=by have hq:=h2;exact hq
  refine aU6 ?_
  exact Qj (rs:=[.tmp 2,.tmp 3]) rfl (.tmp rfl (.tmp rfl (.nil))) (λw' h'=>⟨by rw[if_neg hz];rfl,h'.below⟩)
 have hz:Qbz l=0:=by have hq:=h2;simpa using hq
 have h0:=Qqp hz
 refine aU2 ?_
 refine QA [] mixed ?_
 refine dFa 0 ?_
 refine dLn 1 [] ?_
 refine dQ 2 [] rfl (Qd rfl Ql9 rfl (λw1 h1=>c102 w1 l.re l.sq om om)) (dFa 3 ?_)
 refine dLd 4 [] ?_
 refine dQ 5 [] rfl (Qd rfl Qax rfl (λw1 h1=>QfK w1 l.sp 1 om (by decide))) (dV 6 rfl (Qk rfl rfl rfl (by(try simp only[List.length_append,List.length_cons,List.length_nil,List.length_replicate,List.length_take,List.length_drop,Qm]);omega)) (dFa 7 ?_))
 refine dLd 8 [] ?_
 refine dV 9 rfl (Qi rfl rfl Tryz.underlying9) (dQ 10 [] rfl (Qd rfl Qax rfl (λw1 h1=>QfK w1 (l.nm.length:Int) 1 om (by decide))) (dV 11 rfl (Qk rfl rfl rfl (by(try simp only[List.length_append,List.length_cons,List.length_nil,List.length_replicate,List.length_take,List.length_drop,Qm]);omega)) (dFa 12 ?_)))
 refine dLd 13 [] ?_
 refine dV 14 rfl (Qk rfl rfl rfl (by(try simp only[List.length_append,List.length_cons,List.length_nil,List.length_replicate,List.length_take,List.length_drop,Qm]);omega)) (dP 15 ?_)
 refine dP 16 ?_
 refine dNi ?_
 exact Qj (rs:=[.tmp 2,.tmp 3]) rfl (.tmp rfl (.tmp rfl (.nil))) (λw' h'=>⟨by rw[if_pos hz,hz];rfl,h'.below⟩)
theorem c42(w:World)(s:List UInt8)(hv:s.length<=1000000):CR 42 #[.string (bs s)] w (.tuple #[.agg #[.int .i64 (dlD s).re,.int .i64 (dlD s).sq,.int .i64 (dlD s).sp,.string (bs (dlD s).nm)],.int .i64 (dlE s)]):=by
 refine eN1 Tryz.func42 Tryz.ntmps42 ?_
 refine aU2 ?_
 refine oAl (λb1 _=>?_) Ze
 refine aU6 ?_
 refine o_p (Qi rfl rfl Tryz.underlying9) rfl (aU2 ?_)
 refine sCd rfl (λh2=>?_) λh2=>?_
 ·have hl8:s.length<8:=by have hq:=h2;omega
  have hE:dlE s=3:=if_pos hl8
  have hD:dlD s=noL:=if_neg (by rw[hE];decide)
  refine aU2 ?_
  refine o_p (XP (cs:=[_,_,_,_]) rfl rfl QeR Ze rfl) rfl (aU3 ?_)
  exact Qj (rs:=[.cell 2 82,.tmp 3]) rfl (.cell rfl Qcb aPk rfl (.tmp rfl (.nil))) (λw' h'=>⟨by rw[hD,hE];rfl,h'.below⟩)
 have hl8:¬s.length<8:=by have hq:=h2;omega
 have hE:dlE s=QC (okE (decide (((s.drop 8).length:Int)=Q9 s 7 1)) 3) (Qbz (YS s)):=if_neg hl8
 refine aU4 ?_
 refine oAl (λb3 _=>?_) Qm4
 refine aU4 ?_
 refine o_h (QH (Cs:=[.blk b3 166 1 [.string (bs s)]]) rfl QoV rfl aPs (λw1 h1 hf=>c99 w1 b3 s hf om hv)) rfl (λ_ _=>o_p (XP (cs:=[_,_,_,_]) rfl rfl QeR Ze rfl) rfl (oAl (λb4 _=>?_) Ze))
 refine aU4 ?_
 refine o_h (QH (Cs:=[.blk b3 166 1 [.string (bs (s.drop 6))]]) rfl QaC rfl aPs (λw1 h1 hf=>QfL w1 b3 (s.drop 6) 1 hf om (by simp only[List.length_drop];omega) (by simp only[List.length_drop];omega))) rfl (λ_ _=>Qn (show _=Value.int .i64 (Q9 s 6 1)from by rw[X7]) (aU5 ?_))
 refine o_h (QH (Cs:=[.blk b3 166 1 [.string (bs ((s.drop 6).drop 1))]]) rfl QaC rfl aPs (λw1 h1 hf=>QfL w1 b3 ((s.drop 6).drop 1) 1 hf om (by simp only[List.length_drop];omega) (by simp only[List.length_drop];omega))) rfl (λ_ _=>Qn (show _=Value.int .i64 (Q9 s 7 1)from by rw[List.drop_drop,X7]) (aU5 ?_))
 refine Qn (show _=Value.string (bs (s.drop 8))from by rw[List.drop_drop,List.drop_drop]) (aU5 ?_)
 refine QA [] mixed ?_
 refine dFa 0 ?_
 refine dLd 1 [] ?_
 refine dV 2 rfl (Qi rfl rfl Tryz.underlying9) (dP 3 ?_)
 refine dP 4 ?_
 refine dQ 5 [] rfl (Qd rfl QgP rfl (λw1 h1=>c77 w1 _ _)) (dLn 6 [] ?_)
 refine Qu (show _=.agg #[.int .i64 (YS s).re,.int .i64 (YS s).sq,.int .i64 (YS s).sp,.string (bs (YS s).nm)]from rfl) (dQ 7 [] rfl (Qd rfl Qmq rfl (λw1 h1=>c101 w1 (YS s) (by show(s.drop 8).length<=_;rw[List.length_drop];omega))) (dH 8 rfl (Qg (cs:=[_,_]) rfl rfl Xp YC rfl rfl rfl) (λb5 _=>dBa ?_)))
 refine dQ 9 [] rfl (Qd rfl Qna rfl (λw1 h1=>f62 h1 aPk (by rfl) (by rfl) (by decide))) (Qu (show _=Value.int .i64 (dlE s)from by rw[Qgb,hE];simp only[okE,cond_eq_ite]) (dP 10 ?_))
 refine dNi ?_
 refine aU5 ?_
 refine sCd rfl (λh6=>?_) λh6=>?_
 ·have hz:¬dlE s=0:=by have hq:=h6;exact hq
  have hD:dlD s=noL:=if_neg hz
  refine aU ?_
  refine Ql (L':=[(2,_),(3,_),(5,_),(7,_)]) aSx (λ_ h=>h) ?_
  refine aU ?_
  refine o_p (XP (cs:=[_,_,_,_]) rfl rfl QeR Ze rfl) rfl (aU4 ?_)
  exact Qj (rs:=[.cell 2 82,.tmp 3]) rfl (.cell rfl Qcb aPk rfl (.tmp rfl (.nil))) (λw' h'=>⟨by rw[hD];rfl,h'.below⟩)
 have hz:dlE s=0:=by have hq:=h6;simpa using hq
 have hD:dlD s=YS s:=if_pos hz
 refine aU2 ?_
 refine Ql (L':=[(2,_),(3,_),(5,_)]) aSx (λ_ h=>h) ?_
 refine aU2 ?_
 refine Qn (show _=.agg #[.int .i64 (YS s).re,.int .i64 (YS s).sq,.int .i64 (YS s).sp,.string (bs (YS s).nm)]from rfl) (aU3 ?_)
 exact Qj (rs:=[.cell 2 82,.tmp 3]) rfl (.cell rfl Qcb aPk rfl (.tmp rfl (.nil))) (λw' h'=>⟨by rw[hD,hz];rfl,h'.below⟩)
instance:TFn Tryz.prog 27:=⟨by kernel_rfl⟩
instance:TFn Tryz.prog 35:=⟨by kernel_rfl⟩
instance:TFn Tryz.prog 16:=⟨by kernel_rfl⟩
theorem Za:QJ Tryz.prog 107=true:=by kernel_rfl
instance:TFn Tryz.prog 107:=⟨Za⟩
instance:TFn Tryz.prog 105:=⟨by kernel_rfl⟩
theorem QqQ:QJ Tryz.prog 104=true:=by kernel_rfl
instance:TFn Tryz.prog 47:=⟨by kernel_rfl⟩
theorem QgY(s:List UInt8)(k:Nat):at1 s k=Q9 s k 1:=by
  show at1 s k=at1 s k+256*0;omega
theorem Qrz(s:List UInt8)(k:Nat):Value.int .i64 (IntKind.i64.wrap ((s.getD k 0).toNat:Int))=Value.int .i64 (Q9 s k 1):=by
  have h:=(s.getD k 0).toNat_lt;rw[<-QgY];exact Qkt om om
theorem QhN{a b:Int}(h:a=0):QC a b=b:=if_pos h
theorem QqJ{a b:Int}(h:¬a=0):QC a b=a:=if_neg h
theorem c35(w:World)(re sq:Int):CR 35 #[.agg #[.int .i64 re,.int .i64 sq]] w (.int .i64 (QfD re sq)):=by
 refine eN1 Tryz.func35 Tryz.ntmps35 ?_
 refine aU2 ?_
 refine oBx λb1 _=>?_
 refine aU7 ?_
 refine oCq rfl (λw1 h1=>c27 w1 _ _ _) (aU2 ?_)
 refine oOr 5 7 12 rfl
  (λhg2 _=>by
   refine aU5 ?_
   refine oCq rfl (λw1 h1=>c27 w1 _ _ _) (aU2 ?_)
   exact oJf 5 12)
  (λhg4 _=>by
   refine aU4 ?_
   exact oJt 5 12) ?_
 refine aU ?_
 refine sCd rfl (λh6=>?_) λh6=>?_
 ·refine aU4 ?_
  exact rV (h:=by have hq:=h6;simp only[Qw,QfD,okE];grind)
 refine aU5 ?_
 exact rV (h:=by have hq:=h6;simp only[Qw,QfD,okE];grind)
theorem Qat(w:World)(n:Int)(c:Nat)(hn:0<=n/\n<=9223372036854775807)(hc:c<=1000):CR 107 #[.int .i64 n,.int .i64 (c:Int)] w (.string (bs (Q7 c n))):=by
 refine eN2 Tryz.func107 Tryz.ntmps107 ?_
 refine Qgo ?_
 refine Qs (α:=Nat×Int×List UInt8×Option Addr×Nat) [0,5,6,7,8,9,10,11,12,13,14,15,16,17,18,19] (λx=>[(6,.int .i64 (x.1:Int)),(0,.int .i64 x.2.1),(5,.slice x.2.2.2.1 x.2.2.1.length x.2.2.2.2)]) (λx=>HS w [] [.own (.slice x.2.2.2.1 x.2.2.1.length x.2.2.2.2) 5 1 (x.2.2.1.length) ((x.2.2.1).map bv)]) (λx=>x.1<=c/\x.2.2.1.length=x.1/\(0<=x.2.1/\x.2.1<=9223372036854775807)/\Q7 c n=x.2.2.1++Q7 (c-x.1) x.2.1) (λx=>c-x.1) (0,n,[],none,0) ⟨Nat.zero_le _,rfl,hn,rfl⟩ aSx (λw h=>(h.own_nil 5 1).ent aEt) (λ⟨k,m,p,ga,gc⟩hx=>?_)
 dsimp only
 obtain⟨hk1,hpl,hm,hst⟩:=hx
 simp only[]at hk1 hpl hm hst
 refine aU7 ?_
 refine sCd rfl (λh1=>?_) λh1=>?_
 ·have hk:k<c:=by omega
  refine aU7 ?_
  refine o_p (QmP rfl rfl rfl om om) rfl (o_p (Q5 rfl rfl YN QeC) rfl (Qn (show _=bv (by8 m)from(Qcf _).trans (by rw[QpB (show m%256%256=m%256 by omega)])) (o_h (Qg (cs:=[_]) rfl rfl QN Qao rfl rfl rfl) rfl (λb2 _=>o_h (QZ _ rfl rfl rfl QN Tryz.underlying226 Qao rfl aPk (Xx aPk) rfl (by intro u hu;simp only[List.mem_cons,List.mem_nil_iff,or_false]at hu;subst hu;rfl) om (by simp only[maxLen];omega)) rfl (λb3 _=>aU4 ?_)))))
  refine o_p (Qhj rfl rfl rfl om om om) rfl (aT6 ?_)
  refine aU2 ?_
  exact Qv (k+1,m/256,p++[by8 m],b3.1,b3.2) (by(try simp only[]);omega) ⟨by(try simp only[]);omega,by simp[hpl],by(try simp only[]);omega,by simp only[];rw[hst,show c-k=(c-(k+1))+1 by omega,Q7,List.append_assoc];rfl⟩ (by dsimp only;rw[List.length_append];exact aSx) (λw h=>by dsimp only;rw[List.length_append,List.map_append];exact h.ent aEt)
 obtain rfl:k=c:=om
 rw[Nat.sub_self,Q7,List.append_nil]at hst
 refine Qh rfl ?_
 refine aU3 ?_
 refine o_q (Zk rfl rfl Tryz.underlying226 Tryz.underlying9 Tryz.underlying5 aPk (Zn _)) rfl (aU2 ?_)
 exact rV (h:=by rw[Yo,hst];rfl)
theorem c105(w:World)(s:List UInt8)(at' c:Nat)(hm:s.length<=1000000000)(hc:c<=7)(hac:at'+c<=s.length):CR 105 #[.string (bs s),.int .i64 (at':Int),.int .i64 (c:Int)] w (.int .i64 (Q9 s at' c)):=by
 refine eN3 Tryz.func105 Tryz.ntmps105 ?_
 refine aT13 ?_
 refine aU3 ?_
 refine Qs (α:=Nat) [7,8,11,12,13,14,15,16,17,18,19,20,21,22,23] (λj=>[(8,.int .i64 ((j:Int)-1)),(7,.int .i64 (Q9 s (at'+j) (c-j)))]) (λ_=>_) (λj=>j<=c) (λj=>j) c (Nat.le_refl _) (by rw[Nat.sub_self];exact aSx) (λw h=>h) (λj hj=>?_)
 refine aU6 ?_
 refine sCd rfl (λh1=>?_) λh1=>?_
 ·obtain⟨i,rfl⟩:∃i,j=i+1:=⟨j-1,om⟩
  have hst:Q9 s (at'+i) (c-i)=at1 s (at'+i)+256*Q9 s (at'+(i+1)) (c-(i+1)):=by rw[show c-i=(c-(i+1))+1 by omega,Q9];rfl
  have hb1:=Qip s (at'+i)
  have hn6:=Qk6 s (at'+(i+1)) (k:=c-(i+1)) om
  have hb9:=(s.getD (at'+i) 0).toNat_lt
  refine aT6 ?_
  refine aT4 ?_
  refine Qn (show _=Value.int .i64 ((at'+i:Nat):Int)from by congr 1;omega) (o_p (QD rfl rfl rfl Tryz.underlying9 (at'+i) om om) rfl ?_)
  refine o_p (Q5 rfl rfl QeC YN) rfl ?_
  try refine oWr ?_
  refine aT ?_
  refine Qn (show _=Value.int .i64 (Q9 s (at'+i) (c-i))from by rw[hst];congr 1;show _*256+at1 s (at'+i)=_;omega) (aT6 ?_)
  refine aU2 ?_
  exact Qv i om om (by rw[show((i:Int)-1)=((i+1:Nat):Int)-1-1 from om];exact aSx) (λw h=>h)
 obtain rfl:j=0:=om
 rw[Nat.add_zero,Nat.sub_zero]
 refine Qh rfl ?_
 refine aU5 ?_
 exact rV
theorem c104(w:World)(s:List UInt8)(hl:6<=s.length)(hm:s.length<=1000000):CR 104 #[.string (bs s)] w (.agg #[.int .i64 (Q9 s 0 4),.int .i64 (Q9 s 4 2)]):=by
 refine eN1 Tryz.func104 Tryz.ntmps104 ?_
 refine aU2 ?_
 refine oAl (λb1 _=>?_) Qi9
 refine aU4 ?_
 refine oCq rfl (λw1 h1=>c105 w1 s 0 4 om om om) (aU ?_)
 refine oCq rfl (λw1 h1=>c105 w1 s 4 2 om om om) (o_p (XP (cs:=[_,_]) rfl rfl QoS Qi9 rfl) rfl (aU2 ?_))
 exact Qj (rs:=[.cell 2 26]) rfl (.cell rfl QmZ aPk rfl (.nil)) (λw' h'=>⟨by rfl,h'.below⟩)
theorem c47(w:World)(l:DLnk)(hnm:l.nm.length<=1000000):CR 47 #[.agg #[.int .i64 l.re,.int .i64 l.sq,.int .i64 l.sp,.string (bs l.nm)]] w (.int .i64 (Qbz l)):=by
 refine eN1 Tryz.func47 Tryz.ntmps47 ?_
 refine aU2 ?_
 refine oBx λb1 _=>?_
 refine aU7 ?_
 refine oCq rfl (λw1 h1=>c35 w1 _ _) (aU7 ?_)
 refine sCd rfl (λh2=>?_) λh2=>?_
 ·have h1:¬QfD l.re l.sq=0:=by have hq:=h2;exact hq
  refine aU5 ?_
  exact rV (h:=by rw[Qbz,QqJ h1];rfl)
 have h1:QfD l.re l.sq=0:=by have hq:=h2;simpa using hq
 refine aU6 ?_
 refine oCq rfl (λw1 h1=>c27 w1 _ _ _) (aU2 ?_)
 refine sCd rfl (λh3=>?_) λh3=>?_
 ·have h2:Qgd l.sp=2:=by have hq:=h3;simp only[Qgd,okE];grind
  refine aU4 ?_
  exact rV (h:=by rw[Qbz,QhN h1,h2];rfl)
 have h2:Qgd l.sp=0:=by have hq:=h3;simp only[Qgd,okE];grind
 refine aU5 ?_
 refine oCq rfl (λw1 hh=>c16 w1 l.nm om) (aU2 ?_)
 exact rV (h:=by rw[Qbz,QhN h1,QhN h2];rfl)
theorem c44(w:World)(s:List UInt8)(hv:s.length<=1000000):CR 44 #[.string (bs s)] w (.tuple #[.agg #[.int .i64 (dlD s).re,.int .i64 (dlD s).sq,.int .i64 (dlD s).sp,.string (bs (dlD s).nm)],.int .i64 (dlE s)]):=by
 have hb7:=(s.getD 7 0).toNat_lt
 have hd8:(s.drop 8).length=s.length-8:=List.length_drop
 have e7:Q9 s 7 1=((s.getD 7 0).toNat:Int):=(QgY s 7).symm
 refine eN1 Tryz.func44 Tryz.ntmps44 ?_
 refine aU2 ?_
 refine oAl (λb1 _=>?_) Ze
 refine aU6 ?_
 refine o_p (Qi rfl rfl Tryz.underlying9) rfl (aU2 ?_)
 refine oOr 8 9 17 rfl
  (λhg2 _=>by
   refine aU3 ?_
   refine o_p (Qi rfl rfl Tryz.underlying9) rfl (aU3 ?_)
   refine o_p (QD rfl rfl rfl Tryz.underlying9 (7) om om) rfl ?_
   refine aU ?_
   refine o_p (Q5 rfl rfl QeC YN) rfl ?_
   try refine oWr ?_
   refine aT2 ?_
   refine aU2 ?_
   exact oJf 8 17)
  (λhg4 _=>by
   refine aU7 ?_
   exact oJt 8 17) ?_
 refine aU ?_
 refine sCd rfl (λh6=>?_) λh6=>?_
 ·have hE:dlE s=3:=by have hq:=h6;unfold dlE QC okE;rw[e7];grind
  have hD:dlD s=noL:=if_neg (by rw[hE];decide)
  refine aU2 ?_
  refine o_p (XP (cs:=[_,_,_,_]) rfl rfl QeR Ze rfl) rfl (aU3 ?_)
  exact Qj (rs:=[.cell 2 82,.tmp 3]) rfl (.cell rfl Qcb aPk rfl (.tmp rfl (.nil))) (λw' h'=>⟨by rw[hD,hE];rfl,h'.below⟩)
 have hl8:¬s.length<8:=by have hq:=h6;grind
 have hE:dlE s=Qbz (YS s):=by have hq:=h6;unfold dlE;rw[e7,if_neg hl8,QC,okE];grind
 refine aU2 ?_
 refine QA [9] mixed ?_
 refine dP 0 ?_
 refine dQ 1 [[]] rfl (Qd rfl QqQ rfl (λw1 h1=>c104 w1 s om hv)) (dP 2 ?_)
 refine dV 3 rfl (QD rfl rfl rfl Tryz.underlying9 (6) om om) ?_
 refine dV 4 rfl (Q5 rfl rfl QeC YN) ?_
 try refine dWr ?_
 refine Qu (show _=Value.int .i64 (Q9 s 6 1)from Qrz _ _) (dP 5 ?_)
 refine dV 6 rfl (X1 8 rfl rfl rfl Tryz.underlying9 rfl om) (dV 7 rfl (XP (cs:=[_,_,_,_]) rfl rfl QeR Ze rfl) (dH 8 rfl (Qdx rfl Ze) (λb7 _=>dBa ?_)))
 refine dSt 9 ?_ (hl:=(by simp only[Qf,List.length_set,List.length_cons,List.length_nil,List.length_map];omega))
 refine dTu [] ?_
 refine dNi ?_
 refine aU4 ?_
 refine Qn (show _=.agg #[.int .i64 (YS s).re,.int .i64 (YS s).sq,.int .i64 (YS s).sp,.string (bs (YS s).nm)]from rfl) (oCq rfl (λw1 h1=>c47 w1 (YS s) (by show(s.drop 8).length<=_;rw[List.length_drop];omega)) (aU7 ?_))
 refine sCd rfl (λh8=>?_) λh8=>?_
 ·have hz:¬Qbz (YS s)=0:=by have hq:=h8;exact hq
  have hD:dlD s=noL:=if_neg (by rw[hE];exact hz)
  refine aU2 ?_
  refine o_p (XP (cs:=[_,_,_,_]) rfl rfl QeR Ze rfl) rfl (aU4 ?_)
  exact Qj (rs:=[.cell 2 82,.tmp 3]) rfl (.cell rfl Qcb aPk rfl (.tmp rfl (.nil))) (λw' h'=>⟨by rw[hD,hE];rfl,h'.below⟩)
 have hz:Qbz (YS s)=0:=by have hq:=h8;simpa using hq
 have hD:dlD s=YS s:=if_pos (by rw[hE];exact hz)
 refine aU4 ?_
 refine Qn (show _=.agg #[.int .i64 (YS s).re,.int .i64 (YS s).sq,.int .i64 (YS s).sp,.string (bs (YS s).nm)]from rfl) (aU3 ?_)
 exact Qj (rs:=[.cell 2 82,.tmp 3]) rfl (.cell rfl Qcb aPk rfl (.tmp rfl (.nil))) (λw' h'=>⟨by rw[hD,hE,hz];rfl,h'.below⟩)
end Go.Proofs
namespace Gx
namespace Ev
open Go Go.RowKit
structure Rho where
 f:Nat->Option (Nat×Nat)
 ex:List HA
instance:CoeFun Rho (λ_=>Nat->Option (Nat×Nat)):=⟨Rho.f⟩
def Rho.le(ρ ρ':Rho):Prop:=(∀n x,ρ n=some x->ρ' n=some x)/\ρ'.ex=ρ.ex
theorem Rho.le_refl(ρ:Rho):ρ.le ρ:=⟨λ_ _ h=>h,rfl⟩
theorem Rho.le_trans{a b c:Rho}(h1:a.le b)(h2:b.le c):a.le c:=⟨λn x h=>h2.1 n x (h1.1 n x h),h2.2.trans h1.2⟩
def Xn(ρ:Rho):Value->Option Value
 | .pointer (some ⟨n,i,none⟩)=>match ρ n with
  | some x=>some (.pointer (some ⟨x.1,i,none⟩))
  | none=>none
 | .pointer (some ⟨n,i,some q⟩)=>match ρ n with
  | some x=>some (.slice (some ⟨x.1,if x.2=0 then i else i+q,none⟩) 0 x.2)
  | none=>none
 | .pointer none=>some (.pointer none)
 | .slice (some ⟨n,i,none⟩) l c=>match ρ n with
  | some x=>some (.slice (some ⟨x.1,i,none⟩) l (c+x.2))
  | none=>none
 | .slice (some ⟨n,i,some _⟩) l c=>match ρ n with
  | some x=>some (.slice (some ⟨x.1,i,none⟩) l c)
  | none=>none
 | .slice none l c=>some (.slice none l c)
 | .map (some r)=>match ρ r with
  | some x=>some (.map (some x.1))
  | none=>none
 | .map none=>some (.map none)
 | .int k n=>some (.int k n)
 | .bool b=>some (.bool b)
 | .string s=>some (.string s)
 | .nilFunc=>some .nilFunc
 | _=>none
def Qq{α β:Type}(f:α->Option β):List α->Option (List β)
 | []=>some []
 | a::l=>match f a,Qq f l with
  | some b,some m=>some (b::m)
  | _,_=>none
def QbL(ρ:Rho):Fn->Option Fn
 | .func f=>some (.func f)
 | .yield n=>match ρ n with
  | some x=>some (.yield x.1)
  | none=>none
 | _=>none
def QE(ρ:Rho):Value->Option Value
 | .func f a b=>match QbL ρ f,Qq (Xn ρ) a.toList,Qq (Xn ρ) b.toList with
  | some f',some a',some b'=>some (.func f' a'.toArray b'.toArray)
  | _,_,_=>none
 | v=>Xn ρ v
def Q0(ρ:Rho):Value->Option Value
 | .agg cs=>match Qq (QE ρ) cs.toList with
  | some l=>some (.agg l.toArray)
  | none=>none
 | v=>QE ρ v
def den(ρ:Rho):Value->Option Value
 | .tuple vs=>match Qq (Q0 ρ) vs.toList with
  | some l=>some (.tuple l.toArray)
  | none=>none
 | v=>Q0 ρ v
section
variable{α β:Type}
theorem Q3{f g:α->Option β}(h:∀a b,f a=some b->g a=some b):∀{l:List α}{m:List β},Qq f l=some m->Qq g l=some m
 | [],m,e=>e
 | a::l,m,e=>by
  simp only[Qq]at e ⊢;split at e
  ·rename_i b m' h1 h2;rw[h a b h1,Q3 h h2];exact e
  ·cases e
theorem QP{f:α->Option β}:∀{l:List α}{m:List β},Qq f l=some m->m.length=l.length
 | [],m,e=>by cases e;rfl
 | a::l,m,e=>by
  simp only[Qq]at e;split at e
  ·rename_i b m' h1 h2;injection e with e
   subst e;simp[QP h2]
  ·cases e
theorem Qaa{f:α->Option β}:∀{l:List α}{m:List β}{i:Nat}{a:α},Qq f l=some m->l[i]?=some a->∃b,m[i]?=some b/\f a=some b
 | [],m,i,a,e,h=>by simp at h
 | x::l,m,i,a,e,h=>by
  simp only[Qq]at e;split at e
  ·rename_i b m' h1 h2;injection e with e
   subst e;cases i with
   | zero=>simp at h;subst h;exact⟨b,rfl,h1⟩
   | succ i=>simpa using Qaa h2 (by simpa using h)
  ·cases e
theorem Ym{f:α->Option β}:∀{l l2:List α}{m m2:List β},Qq f l=some m->Qq f l2=some m2->Qq f (l++l2)=some (m++m2)
 | [],l2,m,m2,e,e2=>by cases e;exact e2
 | a::l,l2,m,m2,e,e2=>by
  simp only[Qq]at e;split at e
  ·rename_i b m' h1 h2;injection e with e
   subst e
   simp_all[Qq,Ym]
  ·cases e
theorem Xb{f:α->Option β}:∀{l:List α}{m:List β}(k:Nat),Qq f l=some m->Qq f (l.take k)=some (m.take k)
 | [],m,k,e=>by cases e;simp[Qq]
 | a::l,m,0,e=>by simp[Qq]
 | a::l,m,k+1,e=>by
  simp only[Qq]at e;split at e
  ·rename_i b m' h1 h2;injection e with e
   subst e
   simp_all[Qq,Xb]
  ·cases e
theorem X2{f:α->Option β}:∀{l:List α}{m:List β}(k:Nat),Qq f l=some m->Qq f (l.drop k)=some (m.drop k)
 | [],m,k,e=>by cases e;simp[Qq]
 | a::l,m,0,e=>by simpa using e
 | a::l,m,k+1,e=>by
  simp only[Qq]at e;split at e
  ·rename_i b m' h1 h2;injection e with e
   subst e
   simpa using X2 k h2
  ·cases e
theorem Qg4{f:α->Option β}:∀{l:List α}{m:List β}(i:Nat){a:α}{b:β},Qq f l=some m->f a=some b->Qq f (l.set i a)=some (m.set i b)
 | [],m,i,a,b,e,h=>by cases e;simp[Qq]
 | x::l,m,i,a,b,e,h=>by
  simp only[Qq]at e;split at e
  ·rename_i y m' h1 h2;injection e with e
   subst e;cases i with
   | zero=>simp only[List.set_cons_zero,Qq,h,h2]
   | succ i=>simp only[List.set_cons_succ,Qq,h1,Qg4 i h2 h]
  ·cases e
theorem Qge{f:α->Option β}:∀{l:List α}{m:List β}{b:β},Qq f l=some m->b∈m->∃a∈l,f a=some b
 | [],m,b,e,h=>by cases e;cases h
 | x::l,m,b,e,h=>by
  simp only[Qq]at e;split at e
  ·rename_i y m' h1 h2;injection e with e
   subst e;rcases List.mem_cons.1 h with rfl|h
   ·grind
   ·obtain⟨a,ha,e⟩:=Qge h2 h
    grind
  ·cases e
end
theorem Qkb{ρ ρ':Rho}(h:ρ.le ρ')(v u:Value)(e:Xn ρ v=some u):Xn ρ' v=some u:=by
  unfold Xn at e ⊢
  split at e<;>first
    | exact e
    | (split at e
       · rename_i x hx;rw[h.1 _ _ hx];exact e
       · cases e)
    | cases e
theorem Qik{ρ ρ':Rho}(h:ρ.le ρ')(f g:Fn)(e:QbL ρ f=some g):QbL ρ' f=some g:=by
  unfold QbL at e ⊢
  split at e<;>first
    | exact e
    | (split at e
       · rename_i x hx;rw[h.1 _ _ hx];exact e
       · cases e)
    | cases e
theorem QcK{ρ ρ':Rho}(h:ρ.le ρ')(v u:Value)(e:QE ρ v=some u):QE ρ' v=some u:=by
 unfold QE at e ⊢
 grind[Qik,Q3,Qkb]
theorem QjW{ρ ρ':Rho}(h:ρ.le ρ')(v u:Value)(e:Q0 ρ v=some u):Q0 ρ' v=some u:=by
 unfold Q0 at e ⊢
 grind[Q3,QcK]
theorem Z2{ρ ρ':Rho}(h:ρ.le ρ')(v u:Value)(e:den ρ v=some u):den ρ' v=some u:=by
 unfold den at e ⊢
 grind[Q3,QjW]
abbrev Env:=Nat->Option Value
def SR(ρ:Rho)(L:Env)(L':Qa):Prop:=∀t v,L t=some v->∃u,Qa.get L' t=some u/\den ρ v=some u
theorem SR.mono{ρ ρ':Rho}(h:ρ.le ρ'){L:Env}{L':Qa}(e:SR ρ L L'):SR ρ' L L':=λt v hv=>by
 obtain⟨u,h1,h2⟩:=e t v hv
 grind[Z2]
theorem SR.get{ρ:Rho}{L:Env}{L':Qa}{t:Nat}{v:Value}(e:SR ρ L L')(h:L t=some v):∃u,Qa.get L' t=some u/\den ρ v=some u:=e t v h
theorem SR.put{ρ:Rho}{L L2:Env}{L':Qa}{d:Nat}{v u:Value}(e:SR ρ L L')(hu:den ρ v=some u)(h:∀t x,L2 t=some x->(t=d/\x=v)\/(t≠d/\L t=some x)):SR ρ L2 ((d,u)::L'):=λt x hx=>by
 simp only[Qa.get];rcases h t x hx with⟨rfl,rfl⟩|⟨h1,h2⟩
 ·simp_all
 ·have hb:Nat.beq d t=false:=by cases hb:Nat.beq d t<;>simp_all
  rw[hb];exact e t x h2
def YV:Value->Bool
 | .int _ _| .bool _| .string _| .nilFunc| .pointer none| .slice none _ _| .map none=>true
 | _=>false
theorem ZB{v:Value}(h:YV v=true)(ρ:Rho):den ρ v=some v:=by
 unfold YV at h;split at h<;>first|rfl|cases h
def opd(L:Env):Operand->Option Value
 | .tmp t=>L t
 | .const v=>bif YV v then some v else none
 | .func f=>some (.func (.func f) #[] #[])
 | _=>none
theorem Yx{ρ:Rho}{L:Env}{L':Qa}{x:Operand}{v:Value}(hs:SR ρ L L')(h:opd L x=some v):∃u,ev L' x=some u/\den ρ v=some u:=by
 unfold opd at h;split at h
 ·exact hs.get h
 ·rename_i c;cases hf:YV c with
  | true=>
   rw[hf]at h;injection h with h
   subst h;exact⟨_,rfl,ZB hf ρ⟩
  | false=>rw[hf]at h;cases h
 ·injection h with h
  subst h;exact⟨_,rfl,rfl⟩
 ·cases h
def QbY(L:Env):List Operand->Option (List Value)
 | []=>some []
 | x::l=>match opd L x,QbY L l with
  | some v,some vs=>some (v::vs)
  | _,_=>none
theorem QcW{ρ:Rho}{L:Env}{L':Qa}(hs:SR ρ L L'):∀{l:List Operand}{vs:List Value},QbY L l=some vs->∃us,evs L' l=some us/\Qq (den ρ) vs=some us
 | [],vs,h=>by cases h;exact⟨[],rfl,rfl⟩
 | x::l,vs,h=>by
  simp only[QbY]at h;split at h
  ·rename_i v vs' h1 h2;injection h with h
   subst h;obtain⟨u,e1,e2⟩:=Yx hs h1;obtain⟨us,e3,e4⟩:=QcW hs h2
   grind[evs,Qq]
  ·cases h
section
variable{ρ:Rho}{L:Env}{L':Qa}{x:Operand}
theorem Qe{v:Value}(hs:SR ρ L L')(h:opd L x=some v)(hf:YV v=true):ev L' x=some v:=by grind[Yx,ZB]
theorem Qcd{n i:Nat}(hs:SR ρ L L')(h:opd L x=some (.pointer (some ⟨n,i,none⟩))):∃b d,ρ n=some (b,d)/\ev L' x=some (.pointer (some ⟨b,i,none⟩)):=by grind[Yx,den,Q0,QE,Xn]
theorem XA{n i l c:Nat}(hs:SR ρ L L')(h:opd L x=some (.slice (some ⟨n,i,none⟩) l c)):∃b d,ρ n=some (b,d)/\ev L' x=some (.slice (some ⟨b,i,none⟩) l (c+d)):=by grind[Yx,den,Q0,QE,Xn]
theorem XW{n i l c q:Nat}(hs:SR ρ L L')(h:opd L x=some (.slice (some ⟨n,i,some q⟩) l c)):∃b d,ρ n=some (b,d)/\ev L' x=some (.slice (some ⟨b,i,none⟩) l c):=by grind[Yx,den,Q0,QE,Xn]
theorem Qez{n i q:Nat}(hs:SR ρ L L')(h:opd L x=some (.pointer (some ⟨n,i,some q⟩))):∃b d j,ρ n=some (b,d)/\ev L' x=some (.slice (some ⟨b,j,none⟩) 0 d):=by grind[Yx,den,Q0,QE,Xn]
theorem Qbv{cs:Array Value}(hs:SR ρ L L')(h:opd L x=some (.agg cs)):∃l,Qq (QE ρ) cs.toList=some l/\ev L' x=some (.agg l.toArray):=by grind[Yx,den,Q0]
theorem Qks{vs:Array Value}(hs:SR ρ L L')(h:opd L x=some (.tuple vs)):∃l,Qq (Q0 ρ) vs.toList=some l/\ev L' x=some (.tuple l.toArray):=by grind[Yx,den]
end
end Ev
end Gx
namespace Gx
open Go Go.RowKit
section
variable{P:Program}{o:Oper}{L:Qa}{w0:World}{M:List Nat}{As As':List HA}
def Qnw(P:Program)(t te:TypeId):Prop:=P.underlying t=some (.pointer te)/\∃j,P.info? te=some j/\j.size≠0
theorem QnC{t te:TypeId}{n:Nat}{b:Bool}(h:P.underlying t=some (.pointer te))(h2:tsz P te=some (n,b))(hn:n≠0):Qnw P t te:=by
 refine⟨h,?_⟩
 grind[tsz,hi]
theorem ptee{t te:TypeId}(h:P.underlying t=some (.pointer te)):P.underlying t=some (.pointer (P.pointee t)):=by
 rw[h];simp[Program.pointee,h]
theorem Qfh{t t' te:TypeId}{x y:Operand}{p:Option Addr}(ho:o.op=.binOp .eql t x y t')(hx:ev L x=some (.pointer p))(hy:ev L y=some (.pointer none))(ht:Qnw P t te):OpP P o L (.bool p.isNone):=by
 intro ρ w hρ;have hg:(eqGuard .eql t x y (.pointer p) (.pointer none)).run P w=.ok () w:=by unfold eqGuard;simp
 simp only[execOp,ho,hρ _ _ hx,hρ _ _ hy,Sem.run_bind,hg,run_eql_pointer_nil w t p (ptee ht.1),Result.andThen_ok,Sem.run_pure]
theorem Qgj{t t' te:TypeId}{x y:Operand}{p:Option Addr}(ho:o.op=.binOp .neq t x y t')(hx:ev L x=some (.pointer p))(hy:ev L y=some (.pointer none))(ht:Qnw P t te):OpP P o L (.bool p.isSome):=by
 intro ρ w hρ;have hg:(eqGuard .neq t x y (.pointer p) (.pointer none)).run P w=.ok () w:=by unfold eqGuard;simp
 have h:=run_neq_pointer_nil w t p (ptee ht.1);simp only[execOp,ho,hρ _ _ hx,hρ _ _ hy,Sem.run_bind,hg,h,Result.andThen_ok,Sem.run_pure];cases p<;>rfl
end
end Gx
namespace Gx
namespace Ev
open Go Go.RowKit
def vN:Option Value->Option Nat
 | some (.int _ (.ofNat n))=>some n
 | _=>none
theorem Yy{v:Option Value}{n:Nat}(h:vN v=some n):∃k,v=some (.int k (n:Int)):=by
 unfold vN at h;split at h<;>simp_all
def QT(P:Program)(t:TypeId):Bool:=match P.underlying t with|some .string=>true|_=>false
def Qbe(P:Program)(t:TypeId):Bool:=match P.underlying t with|some .bool=>true|_=>false
def QV(P:Program)(t:TypeId):Bool:=match P.underlying t with|some (.slice _)=>true|_=>false
theorem XM{P:Program}{t:TypeId}(h:QT P t=true):P.underlying t=some .string:=by grind[QT]
theorem QdL{P:Program}{t:TypeId}(h:Qbe P t=true):P.underlying t=some .bool:=by grind[Qbe]
theorem Xo{P:Program}{t:TypeId}(h:QV P t=true):∃e,P.underlying t=some (.slice e):=by grind[QV]
def QbF(P:Program)(t:TypeId):Bool:=match P.underlying t with
 | some (.pointer te)=>(match tsz P te with
  | some (n,_)=>!Nat.beq n 0
  | none=>false)
 | _=>false
theorem Qcg{P:Program}{t:TypeId}(h:QbF P t=true):∃te,Qnw P t te:=by
 unfold QbF at h;split at h
 ·rename_i te h1;split at h
  ·rename_i n b h2;exact⟨te,QnC h1 h2 λe=>by subst e;cases h⟩
  ·cases h
 ·cases h
def Qku:List Nat->List Nat->Bool
 | [],[]=>true
 | a::l,b::m=>Nat.beq a b&&Qku l m
 | _,_=>false
theorem QiY:∀{l m:List Nat},Qku l m=true->l=m
 | [],[],_=>rfl
 | a::l,b::m,h=>by
  simp only[Qku,Bool.and_eq_true]at h;rw[Nat.eq_of_beq_eq_true h.1,QiY h.2]
 | [],_::_,h=>by cases h
 | _::_,[],h=>by cases h
def Qol(P:Program)(t:TypeId)(xs ys:List Value):Option Bool:=match Qij P t with
 | some ks=>bif (Qku (xs.map Xs) ks&&Qku (ys.map Xs) ks)&&(xs.all YV&&ys.all YV)then eqC xs ys else none
 | none=>none
def YZ(P:Program)(op:BinOp)(t:TypeId)(a b:Value):Option Value:=match QU op a b with
 | some v=>some v
 | none=>match op,a,b with
  | .eql,.bool x,.bool y=>bif Qbe P t then some (.bool (x==y))else none
  | .neq,.bool x,.bool y=>bif Qbe P t then some (.bool (!(x==y)))else none
  | .eql,.slice p _ _,.slice none _ _=>bif QV P t then some (.bool p.isNone)else none
  | .neq,.slice p _ _,.slice none _ _=>bif QV P t then some (.bool (!p.isNone))else none
  | .eql,.agg ⟨xs⟩,.agg ⟨ys⟩=>(match Qol P t xs ys with
   | some b=>some (.bool b)
   | none=>none)
  | .neq,.agg ⟨xs⟩,.agg ⟨ys⟩=>(match Qol P t xs ys with
   | some b=>some (.bool (!b))
   | none=>none)
  | .eql,.pointer none,.pointer none=>bif QbF P t then some (.bool true)else none
  | .eql,.pointer (some ⟨_,_,none⟩),.pointer none=>bif QbF P t then some (.bool false)else none
  | .neq,.pointer none,.pointer none=>bif QbF P t then some (.bool false)else none
  | .neq,.pointer (some ⟨_,_,none⟩),.pointer none=>bif QbF P t then some (.bool true)else none
  | .quo,.int k x,.int k' y=>bif kEq k k'&& !decide (y=0)then some (.int k (k.wrap (x.tdiv y)))else none
  | .rem,.int k x,.int k' y=>bif kEq k k'&& !decide (y=0)then some (.int k (x.tmod y))else none
  | .shl,.int k x,.int _ (.ofNat y)=>some (.int k (k.wrap (x*2^(min y k.bits))))
  | .shr,.int k x,.int _ (.ofNat y)=>some (.int k (x/2^(min y k.bits)))
  | .add,.string ⟨⟨x⟩⟩,.string ⟨⟨y⟩⟩=>bif Nat.ble (x.length+y.length) 9223372036854775807 then some (.string (bs (x++y)))else none
  | _,_,_=>none
theorem Qff{P:Program}{t:TypeId}{xs ys:List Value}{b:Bool}(h:Qol P t xs ys=some b):∃ks,Qij P t=some ks/\xs.map Xs=ks/\ys.map Xs=ks/\xs.all YV=true/\ys.all YV=true/\eqC xs ys=some b:=by grind[Qol,ks,Qku,Xs,YV,QiY]
theorem Qkw{ρ:Rho}{v:Value}(h:YV v=true):QE ρ v=some v:=by
 unfold YV at h;split at h<;>first|rfl|cases h
theorem QaS{ρ:Rho}:∀{l:List Value},l.all YV=true->Qq (QE ρ) l=some l
 | [],_=>rfl
 | v::l,h=>by simp_all[Qq,Qkw,QaS]
section
variable{P:Program}{o:Oper}{ρ:Rho}{L:Env}{L':Qa}
theorem Qfj{op:BinOp}{a b v:Value}(h:QU op a b=some v):YV a=true/\YV b=true/\YV v=true:=by
 unfold QU at h;split at h
 ·rename_i k x k' y;refine⟨rfl,rfl,?_⟩;cases hk:kEq k k' with
  | false=>rw[hk]at h;cases h
  | true=>
   rw[hk]at h;simp only[cond_true]at h;cases op<;>simp only[Xm,Option.some.injEq,reduceCtorEq]at h<;>first|(subst h;rfl)|cases h
 ·refine⟨rfl,rfl,?_⟩;cases op<;>simp only[QcE,Option.some.injEq,reduceCtorEq]at h<;>first|(subst h;rfl)|cases h
 ·cases h
theorem Qrh{op:BinOp}{t t':TypeId}{x y:Operand}{a b v:Value}(ho:o.op=.binOp op t x y t')(hs:SR ρ L L')(hx:opd L x=some a)(hy:opd L y=some b)(h:YZ P op t a b=some v):∃u,OpP P o L' u/\den ρ v=some u:=by
 unfold YZ at h;split at h
 ·grind[Qfj,Zx,Qar,Qe,ZB]
 ·split at h
  ·rename_i x' y' _;cases ht:Qbe P t with
   | false=>rw[ht]at h;cases h
   | true=>
    rw[ht]at h;injection h with h
    subst h;exact⟨_,Qb2 ho (Qe hs hx rfl) (Qe hs hy rfl) (QdL ht),rfl⟩
  ·rename_i x' y' _;cases ht:Qbe P t with
   | false=>rw[ht]at h;cases h
   | true=>
    rw[ht]at h;injection h with h
    subst h;exact⟨_,QhW ho (Qe hs hx rfl) (Qe hs hy rfl) (QdL ht),rfl⟩
  ·rename_i p l1 c1 l2 c2 _;cases ht:QV P t with
   | false=>rw[ht]at h;cases h
   | true=>
    rw[ht]at h;injection h with h
    subst h;obtain⟨e,he⟩:=Xo ht;have hy':=Qe hs hy rfl;rcases p with _|⟨n,i,_|q⟩
    ·exact⟨_,Zc ho (Qe hs hx rfl) hy' he,rfl⟩
    ·obtain⟨b9,d9,_,hx'⟩:=XA hs hx;exact⟨_,Zc ho hx' hy' he,rfl⟩
    ·obtain⟨b9,d9,_,hx'⟩:=XW hs hx;exact⟨_,Zc ho hx' hy' he,rfl⟩
  ·rename_i p l1 c1 l2 c2 _;cases ht:QV P t with
   | false=>rw[ht]at h;cases h
   | true=>
    rw[ht]at h;injection h with h
    subst h;obtain⟨e,he⟩:=Xo ht;have hy':=Qe hs hy rfl;rcases p with _|⟨n,i,_|q⟩
    ·exact⟨_,YY ho (Qe hs hx rfl) hy' he,rfl⟩
    ·obtain⟨b9,d9,_,hx'⟩:=XA hs hx;exact⟨_,YY ho hx' hy' he,rfl⟩
    ·obtain⟨b9,d9,_,hx'⟩:=XW hs hx;exact⟨_,YY ho hx' hy' he,rfl⟩
  ·rename_i xs ys _;split at h
   ·rename_i b hb;injection h with h
    subst h;obtain⟨ks,k1,k2,k3,k4,k5,k6⟩:=Qff hb;obtain⟨l1,m1,n1⟩:=Qbv hs hx;obtain⟨l2,m2,n2⟩:=Qbv hs hy;rw[QaS k4]at m1;rw[QaS k5]at m2;injection m1 with m1
    injection m2 with m2
    subst m1 m2;exact⟨_,QcU ho n1 n2 k1 k2 k3 k6,rfl⟩
   ·cases h
  ·rename_i xs ys _;split at h
   ·rename_i b hb;injection h with h
    subst h;obtain⟨ks,k1,k2,k3,k4,k5,k6⟩:=Qff hb;obtain⟨l1,m1,n1⟩:=Qbv hs hx;obtain⟨l2,m2,n2⟩:=Qbv hs hy;rw[QaS k4]at m1;rw[QaS k5]at m2;injection m1 with m1
    injection m2 with m2
    subst m1 m2;exact⟨_,Qj6 ho n1 n2 k1 k2 k3 k6,rfl⟩
   ·cases h
  ·cases hk:QbF P t with
   | false=>rw[hk]at h;cases h
   | true=>
    rw[hk]at h;injection h with h
    subst h;obtain⟨te,ht⟩:=Qcg hk;exact⟨_,Qfh ho (Qe hs hx rfl) (Qe hs hy rfl) ht,rfl⟩
  ·cases hk:QbF P t with
   | false=>rw[hk]at h;cases h
   | true=>
    rw[hk]at h;injection h with h
    subst h;obtain⟨te,ht⟩:=Qcg hk;obtain⟨b9,d9,_,hx'⟩:=Qcd hs hx;exact⟨_,Qfh ho hx' (Qe hs hy rfl) ht,rfl⟩
  ·cases hk:QbF P t with
   | false=>rw[hk]at h;cases h
   | true=>
    rw[hk]at h;injection h with h
    subst h;obtain⟨te,ht⟩:=Qcg hk;exact⟨_,Qgj ho (Qe hs hx rfl) (Qe hs hy rfl) ht,rfl⟩
  ·cases hk:QbF P t with
   | false=>rw[hk]at h;cases h
   | true=>
    rw[hk]at h;injection h with h
    subst h;obtain⟨te,ht⟩:=Qcg hk;obtain⟨b9,d9,_,hx'⟩:=Qcd hs hx;exact⟨_,Qgj ho hx' (Qe hs hy rfl) ht,rfl⟩
  ·rename_i k x' k' y' _;cases hk:kEq k k'&& !decide (y'=0)with
   | false=>rw[hk]at h;cases h
   | true=>
    rw[hk]at h;injection h with h
    subst h;simp only[Bool.and_eq_true,Bool.not_eq_true',decide_eq_false_iff_not]at hk;obtain rfl:=Qa7 hk.1;exact⟨_,QkO ho (Qe hs hx rfl) (Qe hs hy rfl) hk.2,rfl⟩
  ·rename_i k x' k' y' _;cases hk:kEq k k'&& !decide (y'=0)with
   | false=>rw[hk]at h;cases h
   | true=>
    rw[hk]at h;injection h with h
    subst h;simp only[Bool.and_eq_true,Bool.not_eq_true',decide_eq_false_iff_not]at hk;obtain rfl:=Qa7 hk.1;exact⟨_,Qji ho (Qe hs hx rfl) (Qe hs hy rfl) hk.2,rfl⟩
  ·injection h with h
   subst h;exact⟨_,QhF ho (Qe hs hx rfl) (Qe hs hy rfl) (Int.natCast_nonneg _) _ rfl,rfl⟩
  ·injection h with h
   subst h;exact⟨_,QiS ho (Qe hs hx rfl) (Qe hs hy rfl) (Int.natCast_nonneg _) _ rfl,rfl⟩
  ·rename_i x' y' _;cases hk:Nat.ble (x'.length+y'.length) 9223372036854775807 with
   | false=>rw[hk]at h;cases h
   | true=>
    rw[hk]at h;injection h with h
    subst h;exact⟨_,Qk ho (Qe hs hx rfl) (Qe hs hy rfl) (Nat.le_of_ble_eq_true hk),rfl⟩
  ·cases h
end
end Ev
namespace Ev
open Go Go.RowKit
section
variable{ρ:Rho}
theorem QlD{v u:Value}(h:Xn ρ v=some u):QE ρ v=some u:=by
 cases v<;>first|exact h|(simp[Xn]at h)
theorem Qb4{v u:Value}(h:QE ρ v=some u):Q0 ρ v=some u:=by
 cases v<;>first|exact h|(simp[QE,Xn]at h)
theorem Qde{v u:Value}(h:Q0 ρ v=some u):den ρ v=some u:=by
 cases v<;>first|exact h|(simp[Q0,QE,Xn]at h)
def Qh6:Value->Bool
 | .agg _| .tuple _| .func _ _ _=>false
 | _=>true
theorem Qmb{v u:Value}(h:Qh6 v=true)(e:den ρ v=some u):Xn ρ v=some u:=by
 cases v<;>first|exact e|(simp[Qh6]at h)
def lone:Value->Bool
 | .agg _| .tuple _=>false
 | _=>true
theorem Qlf{v u:Value}(h:lone v=true)(e:den ρ v=some u):QE ρ v=some u:=by
 cases v<;>first|exact e|(simp[lone]at h)
theorem Qet:∀{vs us:List Value},vs.all Qh6=true->Qq (den ρ) vs=some us->Qq (Xn ρ) vs=some us
 | [],us,_,e=>by cases e;rfl
 | v::vs,us,h,e=>by
  simp only[List.all_cons,Bool.and_eq_true]at h;simp only[Qq]at e ⊢;split at e
  ·simp_all[Qmb,Qet]
  ·cases e
def Zd:Value->Bool
 | .tuple _=>false
 | _=>true
theorem Qfm{v u:Value}(h:Zd v=true)(e:den ρ v=some u):Qq (QE ρ) v.cells.toList=some u.cells.toList:=by
 have one:∀{v u:Value},v.cells= #[v]->QE ρ v=some u->u.cells= #[u]->Qq (QE ρ) v.cells.toList=some u.cells.toList:=λh1 h2 h3=>by
  rw[h1,h3];simp[Qq,h2]
 cases v with
 | tuple vs=>simp[Zd]at h
 | agg cs=>
  simp only[den,Q0]at e;split at e
  ·rename_i l hl;injection e with e
   subst e
   simpa[Value.cells]using hl
  ·cases e
 | _=>
  refine one rfl e ?_;simp only[den,Q0,QE,Xn]at e
  first
   | (injection e with e;subst e;rfl)
   | (repeat' split at e)<;>first|(injection e with e;subst e;rfl)|cases e
end
section
variable{P:Program}{o:Oper}{ρ:Rho}{L:Env}{L':Qa}
def QaK(P:Program)(src dst:TypeId):Value->Option Value
 | .int k0 n=>match tki P src,tki P dst with
  | some k1,some k=>bif kEq k0 k1 then some (.int k (k.wrap n))else none
  | _,_=>none
 | .string s=>bif QT P src&&QT P dst then some (.string s)else none
 | _=>none
theorem QqH{src dst:TypeId}{x:Operand}{a v:Value}(ho:o.op=.convert src dst x)(hs:SR ρ L L')(hx:opd L x=some a)(h:QaK P src dst a=some v):∃u,OpP P o L' u/\den ρ v=some u:=by
 unfold QaK at h;split at h
 ·rename_i k0 n;split at h
  ·rename_i k1 k h1 h2;cases hk:kEq k0 k1 with
   | false=>rw[hk]at h;cases h
   | true=>
    rw[hk]at h;injection h with h
    subst h;obtain rfl:=Qa7 hk;exact⟨_,Q5 ho (Qe hs hx rfl) h1 h2,rfl⟩
  ·cases h
 ·cases hk:QT P src&&QT P dst with
  | false=>rw[hk]at h;cases h
  | true=>
   rw[hk]at h;injection h with h
   subst h;simp only[Bool.and_eq_true]at hk;exact⟨_,Qic ho (Qe hs hx rfl) (XM hk.1) (XM hk.2),rfl⟩
 ·cases h
theorem Qj7{x:Operand}{i:Nat}{vs:Array Value}{v:Value}(ho:o.op=.extract x i)(hs:SR ρ L L')(hx:opd L x=some (.tuple vs))(h:vs.toList[i]?=some v):∃u,OpP P o L' u/\den ρ v=some u:=by
 obtain⟨l,h1,h2⟩:=Qks hs hx;obtain⟨u,h3,h4⟩:=Qaa h1 h
 grind[Zx,Qar,Qde]
theorem Qii{f:FuncId}{first cap:Array Operand}{a b:List Value}(ho:o.op=.makeFunc (.func f) first cap)(hs:SR ρ L L')(h1:QbY L first.toList=some a)(h2:QbY L cap.toList=some b)(ha:a.all Qh6=true)(hb:b.all Qh6=true) :
  ∃u,OpP P o L' u/\den ρ (.func (.func f) a.toArray b.toArray)=some u:=by
 obtain⟨a',e1,e2⟩:=QcW hs h1;obtain⟨b',e3,e4⟩:=QcW hs h2;refine⟨.func (.func f) a'.toArray b'.toArray,Zx (by rw[ho];simp only[Qar,e1,e3]),?_⟩
 simp_all[den,Q0,QE,QbL,Qet,ha]
theorem Qqs{c a b:Operand}{t:Bool}{x y:Value}(ho:o.op=.pick c a b)(hs:SR ρ L L')(hc:opd L c=some (.bool t))(ha:opd L a=some x)(hb:opd L b=some y):∃u,OpP P o L' u/\den ρ (if t then x else y)=some u:=by
 obtain⟨x',e1,e2⟩:=Yx hs ha;obtain⟨y',e3,e4⟩:=Yx hs hb;refine⟨if t then x' else y',Zx (by rw[ho];simp only[Qar,Qe hs hc rfl,e1,e3,Qgm]),?_⟩
 grind
theorem QmT{x:Operand}{v:Value}(ho:o.op=.move x\/o.op=.assign x)(hs:SR ρ L L')(hx:opd L x=some v):∃u,OpP P o L' u/\den ρ v=some u:=by
 obtain⟨u,h1,h2⟩:=Yx hs hx;refine⟨u,Zx ?_,h2⟩;rcases ho with ho|ho<;>rw[ho]<;>exact h1
theorem un_R{op:UnOp}{t:TypeId}{x:Operand}{a v:Value}(ho:o.op=.unOp op t x)(hs:SR ρ L L')(hx:opd L x=some a)(h:QcJ op a=some v):∃u,OpP P o L' u/\den ρ v=some u:=by
 have hf:YV a=true/\YV v=true:=by
  unfold QcJ at h;split at h<;>first|(injection h with h;subst h;exact⟨rfl,rfl⟩)|cases h
 grind[Zx,Qar,Qe,ZB]
theorem Qh4{x:Operand}{n i:Nat}(ho:o.op=.nilCheck x)(hs:SR ρ L L')(hx:opd L x=some (.pointer (some ⟨n,i,none⟩))):∃u,OpP P o L' u/\den ρ (.pointer (some ⟨n,i,none⟩))=some u:=by
 obtain⟨b,d,h1,h2⟩:=Qcd hs hx
 grind[Zx,Qar,den,Q0,QE,Xn]
theorem Qgr{x:Operand}{f:FuncId}{a b:Array Value}(ho:o.op=.nilCheck x)(hs:SR ρ L L')(hx:opd L x=some (.func (.func f) a b)):∃u,OpP P o L' u/\den ρ (.func (.func f) a b)=some u:=by
 obtain⟨u,h1,h2⟩:=Yx hs hx
 grind[den,Q0,QE,QbL,Zx,Qar]
theorem QnR{st f off ft n:Nat}{x:Operand}{cs:Array Value}{v:Value}{ag:Bool}(ho:o.op=.field st x f)(hs:SR ρ L L')(hx:opd L x=some (.agg cs))(hf:tfd P st f=some (off,ft))(hz:tsz P ft=some (n,ag))
  (h:(if ag then some (.agg (cut cs.toList off n).toArray)else cs.toList[off]?)=some v):∃u,OpP P o L' u/\den ρ v=some u:=by
 obtain⟨l,h1,h2⟩:=Qbv hs hx;cases ag with
 | true=>
  simp only[if_true,Option.some.injEq]at h;subst h;refine⟨_,Ql2 ho h2 hf hz,?_⟩
  grind[den,Q0,cut,Xb,X2]
 | false=>
  have h':cs.toList[off]?=some v:=by simpa using h
  obtain⟨u,e1,e2⟩:=Qaa h1 h'
  grind[Qm0,Qde,Qb4]
theorem QnA{t e sz len n:Nat}{x y:Operand}{cs:Array Value}{j:Nat}{v:Value}{ag:Bool}(ho:o.op=.index t x y)(hs:SR ρ L L')(hx:opd L x=some (.agg cs))(hy:vN (opd L y)=some j)(ht:tar P t=some (len,e,sz))(hz:tsz P e=some (n,ag))(hlt:j<len)
  (h:(if ag then some (.agg (cut cs.toList (j*sz) n).toArray)else cs.toList[j*sz]?)=some v):∃u,OpP P o L' u/\den ρ v=some u:=by
 obtain⟨l,h1,h2⟩:=Qbv hs hx;obtain⟨k,hk⟩:=Yy hy;have hy':=Qe hs hk rfl;cases ag with
 | true=>
  simp only[if_true,Option.some.injEq]at h;subst h;refine⟨_,Qma ho h2 hy' ht hz j rfl hlt,?_⟩
  grind[den,Q0,cut,Xb,X2]
 | false=>
  have h':cs.toList[j*sz]?=some v:=by simpa using h
  obtain⟨u,e1,e2⟩:=Qaa h1 h'
  grind[Ql4,Qde,Qb4]
theorem Qmc{t:TypeId}{x y:Operand}{l:List UInt8}{j:Nat}(ho:o.op=.index t x y)(hs:SR ρ L L')(hx:opd L x=some (.string ⟨⟨l⟩⟩))(hy:vN (opd L y)=some j)(h:QT P t=true)(hlt:j<l.length):∃u,OpP P o L' u/\den ρ (.int .u8 ((l.getD j 0).toNat:Int))=some u:=by
 obtain⟨k,hk⟩:=Yy hy;exact⟨_,QD ho (Qe hs hx rfl) (Qe hs hk rfl) (XM h) j rfl hlt,rfl⟩
def loN(L:Env):Option Operand->Option Nat
 | none=>some 0
 | some y=>vN (opd L y)
def hiN(L:Env)(n:Nat):Option Operand->Option Nat
 | none=>some n
 | some y=>vN (opd L y)
theorem Qc7{lo:Option Operand}{a:Nat}(hs:SR ρ L L')(h:loN L lo=some a):QkP L' lo a:=by
 cases lo with
 | none=>injection h with h;exact h.symm
 | some y=>
  obtain⟨k,hk⟩:=Yy h;exact⟨k,_,Qe hs hk rfl,rfl⟩
theorem Qg5{hi:Option Operand}{n b:Nat}(hs:SR ρ L L')(h:hiN L n hi=some b):Qng L' hi n b:=by
 cases hi with
 | none=>injection h with h;exact h.symm
 | some y=>
  obtain⟨k,hk⟩:=Yy h;exact⟨k,_,Qe hs hk rfl,rfl⟩
theorem Qlb{t:TypeId}{x:Operand}{l:List UInt8}{lo hi:Option Operand}{a b:Nat}(ho:o.op=.slice t x lo hi none)(hs:SR ρ L L')(hx:opd L x=some (.string ⟨⟨l⟩⟩))(h:QT P t=true)(hlo:loN L lo=some a)(hhi:hiN L l.length hi=some b)(hab:a<=b)(hbl:b<=l.length) :
  ∃u,OpP P o L' u/\den ρ (.string (bs ((l.take b).drop a)))=some u:=
 ⟨_,QaT lo hi a b ho (Qe hs hx rfl) (XM h) (Qc7 hs hlo) (Qg5 hs hhi) hab hbl,rfl⟩
theorem Qfw{b o cap i sz:Nat}(h:i<cap):YA (some ⟨b,o,none⟩) cap i sz=some ⟨b,o+i*sz,none⟩:=by
 unfold YA;rw[if_neg om];simp only[Option.map_some,Addr.add]
 grind
theorem Qql{b o cap sz:Nat}:YA (some ⟨b,o,none⟩) cap 0 sz=some ⟨b,o,none⟩:=by
 unfold YA;split
 ·rfl
 ·simp[Addr.add]
theorem QoI{t e sz by' n of l c:Nat}{x:Operand}{lo hi:Option Operand}{i j:Nat}(ho:o.op=.slice t x lo hi none)(hs:SR ρ L L')(hx:opd L x=some (.slice (some ⟨n,of,none⟩) l c))(ht:tsl P t=some (e,sz,by'))(hlo:loN L lo=some i)(hhi:hiN L l hi=some j)(hij:i<=j)(hj:j<=c)(h:i=0\/i<c) :
  ∃u,OpP P o L' u/\den ρ (.slice (some ⟨n,of+i*sz,none⟩) (j-i) (c-i))=some u:=by
 obtain⟨b,d,h1,h2⟩:=XA hs hx;have hp:=QG lo hi i j ho h2 ht (Qc7 hs hlo) (Qg5 hs hhi) hij om;have e:YA (some ⟨b,of,none⟩) (c+d) i sz=some ⟨b,of+i*sz,none⟩:=by grind[Qql,Qfw]
 grind[den,Q0,QE,Xn]
theorem Qmd{t e sz by' n of l c:Nat}{x:Operand}{lo hi:Option Operand}(ho:o.op=.slice t x lo hi none)(hs:SR ρ L L')(hx:opd L x=some (.slice (some ⟨n,of,none⟩) l c))(ht:tsl P t=some (e,sz,by'))(hlo:loN L lo=some c)(hhi:hiN L l hi=some c) :
  ∃u,OpP P o L' u/\den ρ (.pointer (some ⟨n,of,some (c*sz)⟩))=some u:=by
 obtain⟨b,d,h1,h2⟩:=XA hs hx;have hp:=QG lo hi c c ho h2 ht (Qc7 hs hlo) (Qg5 hs hhi) (Nat.le_refl _) om
 grind[YA,Qfw,den,Q0,QE,Xn]
theorem QkA{t e sz by' n of l c q:Nat}{x:Operand}{lo hi:Option Operand}{i j:Nat}(ho:o.op=.slice t x lo hi none)(hs:SR ρ L L')(hx:opd L x=some (.slice (some ⟨n,of,some q⟩) l c))(ht:tsl P t=some (e,sz,by'))(hlo:loN L lo=some i)(hhi:hiN L l hi=some j)(hij:i<=j)(hj:j<=c) :
  ∃u,OpP P o L' u/\den ρ (.slice (some ⟨n,(if c=i then of else of+i*sz),some q⟩) (j-i) (c-i))=some u:=by
 obtain⟨b,d,h1,h2⟩:=XW hs hx;have hp:=QG lo hi i j ho h2 ht (Qc7 hs hlo) (Qg5 hs hhi) hij hj
 grind[YA,Qfw,den,Q0,QE,Xn]
theorem QlY{t e sz by' l c:Nat}{x:Operand}{lo hi:Option Operand}{i j:Nat}(ho:o.op=.slice t x lo hi none)(hs:SR ρ L L')(hx:opd L x=some (.slice none l c))(ht:tsl P t=some (e,sz,by'))(hlo:loN L lo=some i)(hhi:hiN L l hi=some j)(hij:i<=j)(hj:j<=c) :
  ∃u,OpP P o L' u/\den ρ (.slice none (j-i) (c-i))=some u:=by
 have hp:=QG lo hi i j ho (Qe hs hx rfl) ht (Qc7 hs hlo) (Qg5 hs hhi) hij hj;have e:YA none c i sz=none:=by unfold YA;split<;>rfl
 rw[e]at hp;exact⟨_,hp,rfl⟩
theorem QdB{t e sz by':Nat}{x hi mx:Operand}{a:Option Addr}{n cap:Nat}(lo:Option Operand){L:Qa}{k2 k3:IntKind}(i j m:Nat)(ho:o.op=.slice t x lo (some hi) (some mx))(hx:ev L x=some (.slice a n cap))(hl:QkP L lo i)(hh:ev L hi=some (.int k2 (j:Int)))(hm:ev L mx=some (.int k3 (m:Int)))(ht:tsl P t=some (e,sz,by'))(hij:i<=j)(hjm:j<=m)(hmc:m<=cap) :
  OpP P o L (.slice (YA a m i sz) (j-i) (m-i)):=by
 cases lo with
 | some lo=>
  obtain⟨k1,i1,h1,h2⟩:=hl
  grind[Qm5]
 | none=>
  have hi0:i=0:=hl;subst hi0;intro ρ w hρ;obtain⟨hu,inf,h1,h2,_⟩:=QO ht;simp[execOp,ho,hρ _ _ hx,hρ _ _ hh,hρ _ _ hm,Instr.sliceAt,Instr.slice,Instr.sliceBounds,Instr.sliceBound,asIntOf,run_underlying hu,hjm,hmc,Go.sizeOf,typeInfo,h1,h2,YA]
theorem Qk5{b of m i sz:Nat}:YA (some ⟨b,of,none⟩) m i sz=some ⟨b,(if m=i then of else of+i*sz),none⟩:=by
 by_cases h:m=i
 ·grind[YA]
 ·rw[if_neg h];unfold YA;rw[if_neg h];simp only[Option.map_some,Addr.add]
  grind
theorem QkZ{t e sz by' n of l c:Nat}{q:Option Nat}{x hi mx:Operand}{lo:Option Operand}{i j m:Nat}(ho:o.op=.slice t x lo (some hi) (some mx))(hs:SR ρ L L')(hx:opd L x=some (.slice (some ⟨n,of,q⟩) l c))(ht:tsl P t=some (e,sz,by'))(hlo:loN L lo=some i)(hhi:vN (opd L hi)=some j)(hmx:vN (opd L mx)=some m)(hij:i<=j)(hjm:j<=m)(hmc:m<=c) :
  ∃u,OpP P o L' u/\den ρ (.slice (some ⟨n,(if m=i then of else of+i*sz),some 0⟩) (j-i) (m-i))=some u:=by
 obtain⟨k2,hk2⟩:=Yy hhi;obtain⟨k3,hk3⟩:=Yy hmx;have g2:=Qe hs hk2 rfl;have g3:=Qe hs hk3 rfl;cases q with
 | none=>
  obtain⟨b,d,h1,h2⟩:=XA hs hx;have hp:=QdB lo i j m ho h2 (Qc7 hs hlo) g2 g3 ht hij hjm om
  grind[Qk5,den,Q0,QE,Xn]
 | some q=>
  obtain⟨b,d,h1,h2⟩:=XW hs hx;have hp:=QdB lo i j m ho h2 (Qc7 hs hlo) g2 g3 ht hij hjm hmc
  grind[Qk5,den,Q0,QE,Xn]
theorem Qkd{t e sz by' l c:Nat}{x hi mx:Operand}{lo:Option Operand}{i j m:Nat}(ho:o.op=.slice t x lo (some hi) (some mx))(hs:SR ρ L L')(hx:opd L x=some (.slice none l c))(ht:tsl P t=some (e,sz,by'))(hlo:loN L lo=some i)(hhi:vN (opd L hi)=some j)(hmx:vN (opd L mx)=some m)(hij:i<=j)(hjm:j<=m)(hmc:m<=c) :
  ∃u,OpP P o L' u/\den ρ (.slice none (j-i) (m-i))=some u:=by
 obtain⟨k2,hk2⟩:=Yy hhi;obtain⟨k3,hk3⟩:=Yy hmx;have hp:=QdB lo i j m ho (Qe hs hx rfl) (Qc7 hs hlo) (Qe hs hk2 rfl) (Qe hs hk3 rfl) ht hij hjm hmc;have e:YA none m i sz=none:=by unfold YA;split<;>rfl
 rw[e]at hp;exact⟨_,hp,rfl⟩
theorem Qgx{st f off ft sz:Nat}{x:Operand}{n i:Nat}{ag:Bool}(ho:o.op=.fieldAddr st x f)(hs:SR ρ L L')(hx:opd L x=some (.pointer (some ⟨n,i,none⟩)))(hf:tfd P st f=some (off,ft))(hz:tsz P ft=some (sz,ag))(h0:Nat.blt 0 sz=true) :
  ∃u,OpP P o L' u/\den ρ (.pointer (some ⟨n,i+off,none⟩))=some u:=by
 obtain⟨b,d,h1,h2⟩:=Qcd hs hx;exact⟨_,ZT ho h2 hf hz h0,by simp only[den,Q0,QE,Xn,h1]⟩
theorem QhE{t e sz by' n of l c j:Nat}{x y:Operand}(ho:o.op=.indexAddr t x y)(hs:SR ρ L L')(hx:opd L x=some (.slice (some ⟨n,of,none⟩) l c))(hy:vN (opd L y)=some j)(ht:tsl P t=some (e,sz,by'))(hlt:j<l) :
  ∃u,OpP P o L' u/\den ρ (.pointer (some ⟨n,of+j*sz,none⟩))=some u:=by
 obtain⟨b,d,h1,h2⟩:=XA hs hx;obtain⟨k,hk⟩:=Yy hy;exact⟨_,Qb ho h2 (Qe hs hk rfl) ht j rfl hlt rfl,by simp only[den,Q0,QE,Xn,h1]⟩
theorem QfY{t e sz by' n of l c j q:Nat}{x y:Operand}(ho:o.op=.indexAddr t x y)(hs:SR ρ L L')(hx:opd L x=some (.slice (some ⟨n,of,some q⟩) l c))(hy:vN (opd L y)=some j)(ht:tsl P t=some (e,sz,by'))(hlt:j<l) :
  ∃u,OpP P o L' u/\den ρ (.pointer (some ⟨n,of+j*sz,none⟩))=some u:=by
 obtain⟨b,d,h1,h2⟩:=XW hs hx;obtain⟨k,hk⟩:=Yy hy;exact⟨_,Qb ho h2 (Qe hs hk rfl) ht j rfl hlt rfl,by simp only[den,Q0,QE,Xn,h1]⟩
theorem Qfu{t e sz len n i j:Nat}{x y:Operand}(ho:o.op=.indexAddr t x y)(hs:SR ρ L L')(hx:opd L x=some (.pointer (some ⟨n,i,none⟩)))(hy:vN (opd L y)=some j)(ht:tar P t=some (len,e,sz))(hlt:j<len) :
  ∃u,OpP P o L' u/\den ρ (.pointer (some ⟨n,i+j*sz,none⟩))=some u:=by
 obtain⟨b,d,h1,h2⟩:=Qcd hs hx;obtain⟨k,hk⟩:=Yy hy;exact⟨_,YX ho h2 (Qe hs hk rfl) ht j rfl hlt,by simp only[den,Q0,QE,Xn,h1]⟩
def Qcv(L:Env):List (Nat×Operand)->Option (List (Nat×Value))
 | []=>some []
 | (i,x)::r=>match opd L x,Qcv L r with
  | some v,some vs=>bif Zd v then some ((i,v)::vs)else none
  | _,_=>none
def PR(ρ:Rho):List (Nat×Value)->List (Nat×Value)->Prop
 | [],[]=>True
 | (i,v)::l,(j,u)::m=>i=j/\Zd v=true/\den ρ v=some u/\PR ρ l m
 | _,_=>False
theorem Qdn(hs:SR ρ L L'):∀{l:List (Nat×Operand)}{vs:List (Nat×Value)},Qcv L l=some vs->∃us,ZJ L' l=some us/\PR ρ vs us
 | [],vs,h=>by cases h;exact⟨[],rfl,trivial⟩
 | (i,x)::r,vs,h=>by
  simp only[Qcv]at h;split at h
  ·rename_i v vs' h1 h2;cases hn:Zd v with
   | false=>rw[hn]at h;cases h
   | true=>
    rw[hn]at h;injection h with h
    subst h;obtain⟨u,e1,e2⟩:=Yx hs h1;obtain⟨us,e3,e4⟩:=Qdn hs h2;exact⟨(i,u)::us,by simp only[ZJ,e1,e3],rfl,hn,e2,e4⟩
  ·cases h
theorem XF:∀{vs us cs ds:List Value}(i:Nat),Qq (QE ρ) cs=some ds->Qq (QE ρ) vs=some us->Qq (QE ρ) (Qc cs i vs)=some (Qc ds i us)
 | [],us,cs,ds,i,h,e=>by cases e;exact h
 | v::vs,us,cs,ds,i,h,e=>by
  simp only[Qq]at e;split at e
  ·rename_i b m h1 h2;injection e with e
   subst e;exact XF (i+1) (Qg4 i h h1) h2
  ·cases e
theorem Qdt{pl:Nat->Option (Nat×Nat)}:∀{vs us:List (Nat×Value)}{cs ds rs:List Value},PR ρ vs us->Qq (QE ρ) cs=some ds->YO pl cs vs=some rs->∃ts,YO pl ds us=some ts/\Qq (QE ρ) rs=some ts
 | [],[],cs,ds,rs,_,h,e=>by cases e;exact⟨ds,rfl,h⟩
 | (i,v)::vs,(j,u)::us,cs,ds,rs,hp,h,e=>by
  obtain⟨rfl,h1,h2,h3⟩:=hp;have hc:=Qfm h1 h2;have hl:=QP hc;have hl2:=QP h;simp only[YO]at e ⊢;split at e
  ·cases e
  ·rename_i off size hpl;cases hb:Nat.beq v.cells.toList.length size&&Nat.ble (off+v.cells.toList.length) cs.length with
   | false=>rw[hb]at e;cases e
   | true=>
    rw[hb]at e;simp only[hl,hl2,hb];exact Qdt h3 (XF off h hc) e
 | [],_::_,_,_,_,hp,_,_=>hp.elim
 | _::_,[],_,_,_,hp,_,_=>hp.elim
def QS(l:List Value):Bool:=l.all YV
theorem Xy:∀{l:List Value},QS l=true->Qq (QE ρ) l=some l
 | [],_=>rfl
 | v::l,h=>by
  simp only[QS,List.all_cons,Bool.and_eq_true]at h
  have hv:QE ρ v=some v:=by
   have:=ZB h.1 ρ
   have hl:lone v=true:=by
    have h1:=h.1;unfold YV at h1
    grind[lone]
   exact Qlf hl this
  simp only[Qq,hv,Xy (l:=l) h.2]
theorem Qoz{t:TypeId}{parts:Array (Nat×Operand)}{vs:List (Nat×Value)}{pl:List (Nat×Nat)}{z cs:List Value}(ho:o.op=.build t parts)(hs:SR ρ L L')(hp:Qcv L parts.toList=some vs)(hpl:Zi P t=some pl)(hz:Qz P t=some z)(hf:QS z=true)
  (hc:YO (λi=>pl[i]?) z vs=some cs):∃u,OpP P o L' u/\den ρ (.agg cs.toArray)=some u:=by
 obtain⟨us,e1,e2⟩:=Qdn hs hp;obtain⟨ts,e3,e4⟩:=Qdt e2 (Xy hf) hc;exact⟨_,XP ho e1 hpl hz e3,by simp only[den,Q0,List.toList_toArray,e4]⟩
theorem QmK{t e sz len:Nat}{parts:Array (Nat×Operand)}{vs:List (Nat×Value)}{z cs:List Value}(ho:o.op=.build t parts)(hs:SR ρ L L')(hp:Qcv L parts.toList=some vs)(ht:tar P t=some (len,e,sz))(hz:Qz P t=some z)(hf:QS z=true)
  (hc:YO (λi=>some (i*sz,sz)) z vs=some cs):∃u,OpP P o L' u/\den ρ (.agg cs.toArray)=some u:=by
 obtain⟨us,e1,e2⟩:=Qdn hs hp;obtain⟨ts,e3,e4⟩:=Qdt e2 (Xy hf) hc;exact⟨_,QgC ho e1 ht hz e3,by simp only[den,Q0,List.toList_toArray,e4]⟩
end
end Ev
namespace Ev
inductive Tr(α:Type) where
 | lf
 | nd (l r:Tr α)
 | vd (l:Tr α) (k:Nat) (v:α) (r:Tr α)
noncomputable def Ql7(f:Nat):Nat->List Bool:=
 Nat.rec (λ_=>[]) (λ_ ih k=>Bool.rec (Nat.beq (Nat.mod k 2) 0::ih (Nat.div (Nat.sub k 1) 2)) [] (Nat.beq k 0)) f
noncomputable def pth(k:Nat):List Bool:=Ql7 k k
def Qqx:List Bool->Nat
 | []=>0
 | b::p=>2*Qqx p+(if b then 2 else 1)
theorem Qe9:∀(f k:Nat),k<=f->Qqx (Ql7 f k)=k
 | 0,k,h=>by
  have:k=0:=by omega
  subst this;rfl
 | f+1,k,h=>by
  have hu:Ql7 (f+1) k=(Bool.rec (Nat.beq (Nat.mod k 2) 0::Ql7 f (Nat.div (Nat.sub k 1) 2)) [] (Nat.beq k 0):List Bool):=rfl;rw[hu];cases hk:Nat.beq k 0 with
  | true=>exact(Nat.eq_of_beq_eq_true hk).symm
  | false=>
   have h0:k≠0:=λe=>by subst e;cases hk
   have ih:=Qe9 f ((k-1)/2) om;show 2*Qqx (Ql7 f ((k-1)/2))+(if Nat.beq (k%2) 0=true then 2 else 1)=k;rw[ih];cases hm:Nat.beq (k%2) 0 with
   | true=>
    have:=Nat.eq_of_beq_eq_true hm;simp;omega
   | false=>
    have:k%2≠0:=λe=>by rw[e]at hm;cases hm
    simp;omega
theorem Qjs{a b:Nat}(h:pth a=pth b):a=b:=by grind[Qe9,pth]
section
variable{α:Type}
noncomputable def Ye(p:List Bool):Nat->Tr α->Option α:=
 List.rec (λt T=>Tr.rec none (λ_ _ _ _=>none) (λ_ k v _ _ _=>Bool.rec none (some v) (Nat.beq k t)) T)
  (λb _ ih t T=>Tr.rec none (λl r _ _=>Bool.rec (ih t l) (ih t r) b) (λl _ _ r _ _=>Bool.rec (ih t l) (ih t r) b) T) p
noncomputable def XI(p:List Bool):Nat->α->Tr α->Tr α:=
 List.rec (λt v T=>Tr.rec (.vd .lf t v .lf) (λl r _ _=>.vd l t v r) (λl _ _ r _ _=>.vd l t v r) T)
  (λb _ ih t v T=>Tr.rec (Bool.rec (.nd (ih t v .lf) .lf) (.nd .lf (ih t v .lf)) b) (λl r _ _=>Bool.rec (.nd (ih t v l) r) (.nd l (ih t v r)) b) (λl k x r _ _=>Bool.rec (.vd (ih t v l) k x r) (.vd l k x (ih t v r)) b) T) p
noncomputable def QeN(p:List Bool):Tr α->Tr α:=
 List.rec (λT=>Tr.rec .lf (λl r _ _=>.nd l r) (λl _ _ r _ _=>.nd l r) T)
  (λb _ ih T=>Tr.rec .lf (λl r _ _=>Bool.rec (.nd (ih l) r) (.nd l (ih r)) b) (λl k x r _ _=>Bool.rec (.vd (ih l) k x r) (.vd l k x (ih r)) b) T) p
theorem Yp{p:List Bool}{t:Nat}:Ye p t (.lf:Tr α)=none:=by cases p<;>rfl
theorem YK(d:Nat)(v:α):∀(p:List Bool)(T:Tr α),Ye p d (XI p d v T)=some v
 | [],T=>by
  have h:∀l r:Tr α,Ye [] d (.vd l d v r)=some v:=λl r=>by
   show(Bool.rec none (some v) (Nat.beq d d):Option α)=some v;rw[Nat.beq_refl]
  cases T<;>exact h _ _
 | b::p,T=>by
  cases T<;>cases b<;>exact YK d v p _
theorem Yv{t d:Nat}{v x:α}(hne:t≠d):∀(p q:List Bool)(T:Tr α),Ye p t (XI q d v T)=some x->Ye p t T=some x
 | [],[],T,h=>by
  have hd:∀l r:Tr α,Ye [] t (.vd l d v r)=none:=λl r=>by
   show(Bool.rec none (some v) (Nat.beq d t):Option α)=none;cases hb:Nat.beq d t with
   | true=>exact absurd (Nat.eq_of_beq_eq_true hb).symm hne
   | false=>rfl
  cases T<;>exact absurd ((hd _ _).symm.trans h) (by simp)
 | [],c::q,T,h=>by cases T<;>cases c<;>first|exact h|cases h
 | b::p,[],T,h=>by
  cases T<;>cases b<;>first
   | exact h
   | (have h':Ye p t (.lf:Tr α)=some x:=h;rw[Yp]at h';cases h')
 | b::p,c::q,T,h=>by
  cases T<;>cases b<;>cases c<;>first
   | exact h
   | (have h':Ye p t (XI q d v .lf)=some x:=h;have h2:=Yv hne p q .lf h';rw[Yp]at h2;cases h2)
   | exact Yv hne p q _ h
   | (have h':Ye p t (.lf:Tr α)=some x:=h;rw[Yp]at h';cases h')
theorem QbN{t d:Nat}{v:α}(hne:t≠d):∀(p q:List Bool)(T:Tr α),p≠q->Ye p t (XI q d v T)=Ye p t T
 | [],[],T,h=>absurd rfl h
 | [],c::q,T,h=>by cases T<;>cases c<;>rfl
 | b::p,[],T,h=>by
  have hl:Ye p t (.lf:Tr α)=none:=Yp;cases T<;>cases b<;>first|rfl|exact hl
 | b::p,c::q,T,h=>by
  have hl:Ye p t (.lf:Tr α)=none:=Yp;have ih:=λT=>QbN (v:=v) hne p q T
  cases T<;>cases b<;>cases c<;>first
   | rfl
   | exact hl
   | exact(ih _ λe=>h (by rw[e]))
   | exact((ih .lf λe=>h (by rw[e])).trans hl)
theorem YI(d:Nat):∀(p:List Bool)(T:Tr α),Ye p d (QeN p T)=none
 | [],T=>by cases T<;>rfl
 | b::p,T=>by cases T<;>cases b<;>first|rfl|exact YI d p _
theorem Qew{t:Nat}{x:α}:∀(p q:List Bool)(T:Tr α),Ye p t (QeN q T)=some x->Ye p t T=some x
 | [],[],T,h=>by cases T<;>first|exact h|cases h
 | [],c::q,T,h=>by cases T<;>cases c<;>first|exact h|cases h
 | b::p,[],T,h=>by cases T<;>cases b<;>first|exact h|cases h
 | b::p,c::q,T,h=>by
  cases T<;>cases b<;>cases c<;>first
   | exact h
   | exact Qew p q _ h
   | cases h
theorem QbI{t:Nat}:∀(p q:List Bool)(T:Tr α),p≠q->Ye p t (QeN q T)=Ye p t T
 | [],[],T,h=>absurd rfl h
 | [],c::q,T,h=>by cases T<;>cases c<;>rfl
 | b::p,[],T,h=>by cases T<;>cases b<;>rfl
 | b::p,c::q,T,h=>by
  have ih:=λT=>QbI (t:=t) p q T
  cases T<;>cases b<;>cases c<;>first
   | rfl
   | exact(ih _ λe=>h (by rw[e]))
end
end Ev
end Gx
