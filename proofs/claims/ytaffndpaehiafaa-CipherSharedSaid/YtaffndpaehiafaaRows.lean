/-
  No cell of these rows narrows 'for every input' (looked for: loops, veiled, ifaces, maps, wideKeys, modest, calm, conditions, laid).
  DERIVED. THE GIVEN ROWS OF THIS SEAT. 9 by the template 'for every input the law returns true; each argument reads behind the call as it read before'; 0 by the template 'total and deterministic' (their statements: YtaffndpaehiafaaTotals.lean).
  GIVEN WITH THE SEED: the statements are not yours to turn. If you find one false, say at which input.
  Laid BY PROGRAM, IN A SANDBOX (cutbox-rows.mjs): the forced cells as the released guide's own fill.sh prints them over the translation 80c848f8c185b104… (all of the seat's roots in one cut). By AI agents, Wed Nov 11 2026. No macro, syntax, notation, axiom, sorry.
-/
import Derived.Test.YtaffndpaehiafaaChecked
import GoSem.Claim
import GoSem.ClaimJoined
import GoSem.ClaimMapViews
import Derived.JoinedTies
import Derived.KernelRfl
namespace Go.Proofs.Ytaffndpaehiafaa
/- THE CELL 'sum', in the pinned program and in every row, IS THE sha256 OF THE DUMP (.gsa) THAT YtaffndpaehiafaaProg.lean LOADS. Nothing in Lean hashes anything: it is a label: what it is worth is what the hold of that sum in a sandbox is worth. -/
noncomputable def Try.pinned : Pinned := { name := "ytaffndpaehiafaa", sum := "80c848f8c185b1048255d2be7531b5d762c4289c59db6689dd736235da9757d3", checked := Try.checked }
namespace Rows
def none {H : Type} : Left H := { results := [], args := [] }

/-- 'depositorylaw07.CipherQuarters': WHATEVER THE INPUT: true; the input reads as it did. -/
def cipherQuartersSpec : ChangeSpec := { name := "cipherQuarters", fn := fun _ => fun
  | [d] => { results := [.lit (.bool true)], args := [d] }
  | _ => none }
def cipherQuartersRow : OpenClaim := { program := "ytaffndpaehiafaa", sum := "80c848f8c185b1048255d2be7531b5d762c4289c59db6689dd736235da9757d3", func := "depository/depositorylaw07.CipherQuarters", spec := "cipherQuarters", inPlace := ["internal/abi.NoEscape", "internal/bytealg.MakeNoZero"], unfollowed := true, recurses := true, apart := false }
def CipherQuartersSaid : Prop := cipherQuartersRow.holds Try.pinned (OpenSpec.ofChange cipherQuartersSpec)

/-- ITS FALSE NEIGHBOUR: 'it returns false'. Refute it at one input. -/
def cipherQuartersWrong : ChangeSpec := { name := "cipherQuarters", fn := fun _ => fun
  | [d] => { results := [.lit (.bool false)], args := [d] }
  | _ => none }
def CipherQuartersWrongFalsely : Prop := cipherQuartersRow.holds Try.pinned (OpenSpec.ofChange cipherQuartersWrong)

/-- 'depositorylaw07.CipherWraps': WHATEVER THE INPUT: true; the input reads as it did. -/
def cipherWrapsSpec : ChangeSpec := { name := "cipherWraps", fn := fun _ => fun
  | [d1, d2, d3] => { results := [.lit (.bool true)], args := [d1, d2, d3] }
  | _ => none }
def cipherWrapsRow : OpenClaim := { program := "ytaffndpaehiafaa", sum := "80c848f8c185b1048255d2be7531b5d762c4289c59db6689dd736235da9757d3", func := "depository/depositorylaw07.CipherWraps", spec := "cipherWraps", inPlace := ["internal/abi.NoEscape", "internal/bytealg.MakeNoZero"], unfollowed := true, recurses := true, apart := false }
def CipherWrapsSaid : Prop := cipherWrapsRow.holds Try.pinned (OpenSpec.ofChange cipherWrapsSpec)

/-- ITS FALSE NEIGHBOUR: 'it returns false'. Refute it at one input. -/
def cipherWrapsWrong : ChangeSpec := { name := "cipherWraps", fn := fun _ => fun
  | [d1, d2, d3] => { results := [.lit (.bool false)], args := [d1, d2, d3] }
  | _ => none }
def CipherWrapsWrongFalsely : Prop := cipherWrapsRow.holds Try.pinned (OpenSpec.ofChange cipherWrapsWrong)

/-- 'depositorylaw07.CipherFiles': WHATEVER THE INPUT: true; the input reads as it did. -/
def cipherFilesSpec : ChangeSpec := { name := "cipherFiles", fn := fun _ => fun
  | [d1, d2, d3] => { results := [.lit (.bool true)], args := [d1, d2, d3] }
  | _ => none }
def cipherFilesRow : OpenClaim := { program := "ytaffndpaehiafaa", sum := "80c848f8c185b1048255d2be7531b5d762c4289c59db6689dd736235da9757d3", func := "depository/depositorylaw07.CipherFiles", spec := "cipherFiles", inPlace := ["internal/abi.NoEscape", "internal/bytealg.MakeNoZero"], unfollowed := true, recurses := true, apart := false }
def CipherFilesSaid : Prop := cipherFilesRow.holds Try.pinned (OpenSpec.ofChange cipherFilesSpec)

/-- ITS FALSE NEIGHBOUR: 'it returns false'. Refute it at one input. -/
def cipherFilesWrong : ChangeSpec := { name := "cipherFiles", fn := fun _ => fun
  | [d1, d2, d3] => { results := [.lit (.bool false)], args := [d1, d2, d3] }
  | _ => none }
def CipherFilesWrongFalsely : Prop := cipherFilesRow.holds Try.pinned (OpenSpec.ofChange cipherFilesWrong)

/-- 'depositorylaw07.CipherTwice': WHATEVER THE INPUT: true; the input reads as it did. -/
def cipherTwiceSpec : ChangeSpec := { name := "cipherTwice", fn := fun _ => fun
  | [d1, d2, d3] => { results := [.lit (.bool true)], args := [d1, d2, d3] }
  | _ => none }
def cipherTwiceRow : OpenClaim := { program := "ytaffndpaehiafaa", sum := "80c848f8c185b1048255d2be7531b5d762c4289c59db6689dd736235da9757d3", func := "depository/depositorylaw07.CipherTwice", spec := "cipherTwice", inPlace := ["internal/abi.NoEscape", "internal/bytealg.MakeNoZero"], unfollowed := true, recurses := true, apart := false }
def CipherTwiceSaid : Prop := cipherTwiceRow.holds Try.pinned (OpenSpec.ofChange cipherTwiceSpec)

/-- ITS FALSE NEIGHBOUR: 'it returns false'. Refute it at one input. -/
def cipherTwiceWrong : ChangeSpec := { name := "cipherTwice", fn := fun _ => fun
  | [d1, d2, d3] => { results := [.lit (.bool false)], args := [d1, d2, d3] }
  | _ => none }
def CipherTwiceWrongFalsely : Prop := cipherTwiceRow.holds Try.pinned (OpenSpec.ofChange cipherTwiceWrong)

/-- 'depositorylaw07.CipherBlocks': WHATEVER THE INPUT: true; the input reads as it did. -/
def cipherBlocksSpec : ChangeSpec := { name := "cipherBlocks", fn := fun _ => fun
  | [d1, d2, d3] => { results := [.lit (.bool true)], args := [d1, d2, d3] }
  | _ => none }
def cipherBlocksRow : OpenClaim := { program := "ytaffndpaehiafaa", sum := "80c848f8c185b1048255d2be7531b5d762c4289c59db6689dd736235da9757d3", func := "depository/depositorylaw07.CipherBlocks", spec := "cipherBlocks", inPlace := ["internal/abi.NoEscape", "internal/bytealg.MakeNoZero"], unfollowed := true, recurses := true, apart := false }
def CipherBlocksSaid : Prop := cipherBlocksRow.holds Try.pinned (OpenSpec.ofChange cipherBlocksSpec)

/-- ITS FALSE NEIGHBOUR: 'it returns false'. Refute it at one input. -/
def cipherBlocksWrong : ChangeSpec := { name := "cipherBlocks", fn := fun _ => fun
  | [d1, d2, d3] => { results := [.lit (.bool false)], args := [d1, d2, d3] }
  | _ => none }
def CipherBlocksWrongFalsely : Prop := cipherBlocksRow.holds Try.pinned (OpenSpec.ofChange cipherBlocksWrong)

/-- 'depositorylaw07.CipherRekeys': WHATEVER THE INPUT: true; the input reads as it did. -/
def cipherRekeysSpec : ChangeSpec := { name := "cipherRekeys", fn := fun _ => fun
  | [d1, d2, d3] => { results := [.lit (.bool true)], args := [d1, d2, d3] }
  | _ => none }
def cipherRekeysRow : OpenClaim := { program := "ytaffndpaehiafaa", sum := "80c848f8c185b1048255d2be7531b5d762c4289c59db6689dd736235da9757d3", func := "depository/depositorylaw07.CipherRekeys", spec := "cipherRekeys", inPlace := ["internal/abi.NoEscape", "internal/bytealg.MakeNoZero"], unfollowed := true, recurses := true, apart := false }
def CipherRekeysSaid : Prop := cipherRekeysRow.holds Try.pinned (OpenSpec.ofChange cipherRekeysSpec)

/-- ITS FALSE NEIGHBOUR: 'it returns false'. Refute it at one input. -/
def cipherRekeysWrong : ChangeSpec := { name := "cipherRekeys", fn := fun _ => fun
  | [d1, d2, d3] => { results := [.lit (.bool false)], args := [d1, d2, d3] }
  | _ => none }
def CipherRekeysWrongFalsely : Prop := cipherRekeysRow.holds Try.pinned (OpenSpec.ofChange cipherRekeysWrong)

/-- 'depositorylaw07.CipherFields': WHATEVER THE INPUT: true; the input reads as it did. -/
def cipherFieldsSpec : ChangeSpec := { name := "cipherFields", fn := fun _ => fun
  | [d1, d2, d3] => { results := [.lit (.bool true)], args := [d1, d2, d3] }
  | _ => none }
def cipherFieldsRow : OpenClaim := { program := "ytaffndpaehiafaa", sum := "80c848f8c185b1048255d2be7531b5d762c4289c59db6689dd736235da9757d3", func := "depository/depositorylaw07.CipherFields", spec := "cipherFields", inPlace := ["internal/abi.NoEscape", "internal/bytealg.MakeNoZero"], unfollowed := true, recurses := true, apart := false }
def CipherFieldsSaid : Prop := cipherFieldsRow.holds Try.pinned (OpenSpec.ofChange cipherFieldsSpec)

/-- ITS FALSE NEIGHBOUR: 'it returns false'. Refute it at one input. -/
def cipherFieldsWrong : ChangeSpec := { name := "cipherFields", fn := fun _ => fun
  | [d1, d2, d3] => { results := [.lit (.bool false)], args := [d1, d2, d3] }
  | _ => none }
def CipherFieldsWrongFalsely : Prop := cipherFieldsRow.holds Try.pinned (OpenSpec.ofChange cipherFieldsWrong)

/-- 'depositorylaw07.CipherAdds': WHATEVER THE INPUT: true; the input reads as it did. -/
def cipherAddsSpec : ChangeSpec := { name := "cipherAdds", fn := fun _ => fun
  | [d1, d2, d3] => { results := [.lit (.bool true)], args := [d1, d2, d3] }
  | _ => none }
def cipherAddsRow : OpenClaim := { program := "ytaffndpaehiafaa", sum := "80c848f8c185b1048255d2be7531b5d762c4289c59db6689dd736235da9757d3", func := "depository/depositorylaw07.CipherAdds", spec := "cipherAdds", inPlace := ["internal/abi.NoEscape", "internal/bytealg.MakeNoZero", "slices.overlaps[depository/api.CipherField]"], unfollowed := true, recurses := true, apart := false }
def CipherAddsSaid : Prop := cipherAddsRow.holds Try.pinned (OpenSpec.ofChange cipherAddsSpec)

/-- ITS FALSE NEIGHBOUR: 'it returns false'. Refute it at one input. -/
def cipherAddsWrong : ChangeSpec := { name := "cipherAdds", fn := fun _ => fun
  | [d1, d2, d3] => { results := [.lit (.bool false)], args := [d1, d2, d3] }
  | _ => none }
def CipherAddsWrongFalsely : Prop := cipherAddsRow.holds Try.pinned (OpenSpec.ofChange cipherAddsWrong)

/-- 'depositorylaw07.CipherShared': WHATEVER THE INPUT: true; the input reads as it did. -/
def cipherSharedSpec : ChangeSpec := { name := "cipherShared", fn := fun _ => fun
  | [d1, d2, d3] => { results := [.lit (.bool true)], args := [d1, d2, d3] }
  | _ => none }
def cipherSharedRow : OpenClaim := { program := "ytaffndpaehiafaa", sum := "80c848f8c185b1048255d2be7531b5d762c4289c59db6689dd736235da9757d3", func := "depository/depositorylaw07.CipherShared", spec := "cipherShared", inPlace := ["internal/abi.NoEscape", "internal/bytealg.MakeNoZero", "slices.overlaps[depository/api.CipherField]"], unfollowed := true, recurses := true, apart := false }
def CipherSharedSaid : Prop := cipherSharedRow.holds Try.pinned (OpenSpec.ofChange cipherSharedSpec)

/-- ITS FALSE NEIGHBOUR: 'it returns false'. Refute it at one input. -/
def cipherSharedWrong : ChangeSpec := { name := "cipherShared", fn := fun _ => fun
  | [d1, d2, d3] => { results := [.lit (.bool false)], args := [d1, d2, d3] }
  | _ => none }
def CipherSharedWrongFalsely : Prop := cipherSharedRow.holds Try.pinned (OpenSpec.ofChange cipherSharedWrong)

/- THE SECOND FORM. 'bulk': how many values and letters a reading holds, each counted each time it is reached (what is shared counts as often as it is met; a slice's spare places count too). A statement '..UptoSaid' is the law's where the arguments, and the package variables that the reading takes, are together of bulk at most 1048576: NARROWER than '..Said'. Prove '..Said' where nothing that the law and all that it calls make is longer than what came in: it says more and counts as full. Else prove '..UptoSaid'. A law counts once. -/
mutual
def uptoBulk {H : Type} : DataW H → Nat
  | .lit (.string bytes) => bytes.length + 1
  | .lit _ => 1
  | .nil => 1
  | .ptr d => uptoBulk d + 1
  | .slice elems spare => uptoBulkAll elems + uptoBulkAll spare + 1
  | .agg parts => uptoBulkAll parts + 1
  | .iface _ d => uptoBulk d + 1
  | .map entries => uptoBulkEntries entries + 1
  | .held _ => 1
def uptoBulkAll {H : Type} : List (DataW H) → Nat
  | [] => 0
  | d :: r => uptoBulk d + uptoBulkAll r
def uptoBulkEntries {H : Type} : List (Lit × DataW H) → Nat
  | [] => 0
  | x :: r => uptoBulkEntry x + uptoBulkEntries r
def uptoBulkEntry {H : Type} : Lit × DataW H → Nat
  | (.string bytes, d) => bytes.length + uptoBulk d + 1
  | (_, d) => uptoBulk d + 1
 end
def uptoSmall : (H : Type) → List (DataW H) → Bool := fun _ ds => decide (uptoBulkAll ds ≤ 1048576)
def OpenSpec.upto (s : _root_.Go.ChangeSpec) : _root_.Go.OpenSpec := { _root_.Go.OpenSpec.ofChange s with cond := some uptoSmall }

/-- 'depositorylaw07.CipherQuarters', WHERE WHAT IT READS IS OF BULK AT MOST 1048576: true; the input reads as it did. -/
def cipherQuartersUptoRow : OpenClaim := { program := "ytaffndpaehiafaa", sum := "80c848f8c185b1048255d2be7531b5d762c4289c59db6689dd736235da9757d3", func := "depository/depositorylaw07.CipherQuarters", spec := "cipherQuarters", inPlace := ["internal/abi.NoEscape", "internal/bytealg.MakeNoZero"], unfollowed := true, recurses := true, apart := false, narrowed := true }
def CipherQuartersUptoSaid : Prop := cipherQuartersUptoRow.holds Try.pinned (OpenSpec.upto cipherQuartersSpec)

/-- 'depositorylaw07.CipherWraps', WHERE WHAT IT READS IS OF BULK AT MOST 1048576: true; the input reads as it did. -/
def cipherWrapsUptoRow : OpenClaim := { program := "ytaffndpaehiafaa", sum := "80c848f8c185b1048255d2be7531b5d762c4289c59db6689dd736235da9757d3", func := "depository/depositorylaw07.CipherWraps", spec := "cipherWraps", inPlace := ["internal/abi.NoEscape", "internal/bytealg.MakeNoZero"], unfollowed := true, recurses := true, apart := false, narrowed := true }
def CipherWrapsUptoSaid : Prop := cipherWrapsUptoRow.holds Try.pinned (OpenSpec.upto cipherWrapsSpec)

/-- 'depositorylaw07.CipherFiles', WHERE WHAT IT READS IS OF BULK AT MOST 1048576: true; the input reads as it did. -/
def cipherFilesUptoRow : OpenClaim := { program := "ytaffndpaehiafaa", sum := "80c848f8c185b1048255d2be7531b5d762c4289c59db6689dd736235da9757d3", func := "depository/depositorylaw07.CipherFiles", spec := "cipherFiles", inPlace := ["internal/abi.NoEscape", "internal/bytealg.MakeNoZero"], unfollowed := true, recurses := true, apart := false, narrowed := true }
def CipherFilesUptoSaid : Prop := cipherFilesUptoRow.holds Try.pinned (OpenSpec.upto cipherFilesSpec)

/-- 'depositorylaw07.CipherTwice', WHERE WHAT IT READS IS OF BULK AT MOST 1048576: true; the input reads as it did. -/
def cipherTwiceUptoRow : OpenClaim := { program := "ytaffndpaehiafaa", sum := "80c848f8c185b1048255d2be7531b5d762c4289c59db6689dd736235da9757d3", func := "depository/depositorylaw07.CipherTwice", spec := "cipherTwice", inPlace := ["internal/abi.NoEscape", "internal/bytealg.MakeNoZero"], unfollowed := true, recurses := true, apart := false, narrowed := true }
def CipherTwiceUptoSaid : Prop := cipherTwiceUptoRow.holds Try.pinned (OpenSpec.upto cipherTwiceSpec)

/-- 'depositorylaw07.CipherBlocks', WHERE WHAT IT READS IS OF BULK AT MOST 1048576: true; the input reads as it did. -/
def cipherBlocksUptoRow : OpenClaim := { program := "ytaffndpaehiafaa", sum := "80c848f8c185b1048255d2be7531b5d762c4289c59db6689dd736235da9757d3", func := "depository/depositorylaw07.CipherBlocks", spec := "cipherBlocks", inPlace := ["internal/abi.NoEscape", "internal/bytealg.MakeNoZero"], unfollowed := true, recurses := true, apart := false, narrowed := true }
def CipherBlocksUptoSaid : Prop := cipherBlocksUptoRow.holds Try.pinned (OpenSpec.upto cipherBlocksSpec)

/-- 'depositorylaw07.CipherRekeys', WHERE WHAT IT READS IS OF BULK AT MOST 1048576: true; the input reads as it did. -/
def cipherRekeysUptoRow : OpenClaim := { program := "ytaffndpaehiafaa", sum := "80c848f8c185b1048255d2be7531b5d762c4289c59db6689dd736235da9757d3", func := "depository/depositorylaw07.CipherRekeys", spec := "cipherRekeys", inPlace := ["internal/abi.NoEscape", "internal/bytealg.MakeNoZero"], unfollowed := true, recurses := true, apart := false, narrowed := true }
def CipherRekeysUptoSaid : Prop := cipherRekeysUptoRow.holds Try.pinned (OpenSpec.upto cipherRekeysSpec)

/-- 'depositorylaw07.CipherFields', WHERE WHAT IT READS IS OF BULK AT MOST 1048576: true; the input reads as it did. -/
def cipherFieldsUptoRow : OpenClaim := { program := "ytaffndpaehiafaa", sum := "80c848f8c185b1048255d2be7531b5d762c4289c59db6689dd736235da9757d3", func := "depository/depositorylaw07.CipherFields", spec := "cipherFields", inPlace := ["internal/abi.NoEscape", "internal/bytealg.MakeNoZero"], unfollowed := true, recurses := true, apart := false, narrowed := true }
def CipherFieldsUptoSaid : Prop := cipherFieldsUptoRow.holds Try.pinned (OpenSpec.upto cipherFieldsSpec)

/-- 'depositorylaw07.CipherAdds', WHERE WHAT IT READS IS OF BULK AT MOST 1048576: true; the input reads as it did. -/
def cipherAddsUptoRow : OpenClaim := { program := "ytaffndpaehiafaa", sum := "80c848f8c185b1048255d2be7531b5d762c4289c59db6689dd736235da9757d3", func := "depository/depositorylaw07.CipherAdds", spec := "cipherAdds", inPlace := ["internal/abi.NoEscape", "internal/bytealg.MakeNoZero", "slices.overlaps[depository/api.CipherField]"], unfollowed := true, recurses := true, apart := false, narrowed := true }
def CipherAddsUptoSaid : Prop := cipherAddsUptoRow.holds Try.pinned (OpenSpec.upto cipherAddsSpec)

/-- 'depositorylaw07.CipherShared', WHERE WHAT IT READS IS OF BULK AT MOST 1048576: true; the input reads as it did. -/
def cipherSharedUptoRow : OpenClaim := { program := "ytaffndpaehiafaa", sum := "80c848f8c185b1048255d2be7531b5d762c4289c59db6689dd736235da9757d3", func := "depository/depositorylaw07.CipherShared", spec := "cipherShared", inPlace := ["internal/abi.NoEscape", "internal/bytealg.MakeNoZero", "slices.overlaps[depository/api.CipherField]"], unfollowed := true, recurses := true, apart := false, narrowed := true }
def CipherSharedUptoSaid : Prop := cipherSharedUptoRow.holds Try.pinned (OpenSpec.upto cipherSharedSpec)

end Rows
end Go.Proofs.Ytaffndpaehiafaa
