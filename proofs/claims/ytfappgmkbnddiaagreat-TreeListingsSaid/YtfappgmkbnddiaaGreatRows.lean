/-
  No cell of these rows narrows 'for every input' (looked for: loops, veiled, ifaces, maps, wideKeys, modest, calm, conditions, laid).
  DERIVED. THE GIVEN ROWS OF THIS SEAT. 10 by the template 'for every input the law returns true; each argument reads behind the call as it read before'; 0 by the template 'total and deterministic' (their statements: YtfappgmkbnddiaaGreatTotals.lean).
  GIVEN WITH THE SEED: the statements are not yours to turn. If you find one false, say at which input.
  Laid BY PROGRAM, IN A SANDBOX (cutbox-rows.mjs): the forced cells as the released guide's own fill.sh prints them over the translation acd6302f4adf69d9… (all of the seat's roots in one cut). By AI agents, Wed Nov 11 2026. No macro, syntax, notation, axiom, sorry.
-/
import Derived.Test.YtfappgmkbnddiaaGreatChecked
import GoSem.Claim
import GoSem.ClaimJoined
import GoSem.ClaimMapViews
import Derived.JoinedTies
import Derived.KernelRfl
namespace Go.Proofs.YtfappgmkbnddiaaGreat
/- THE CELL 'sum', in the pinned program and in every row, IS THE sha256 OF THE DUMP (.gsa) THAT YtfappgmkbnddiaaGreatProg.lean LOADS. Nothing in Lean hashes anything: it is a label: what it is worth is what the hold of that sum in a sandbox is worth. -/
noncomputable def Tryz.pinned : Pinned := { name := "ytfappgmkbnddiaagreat", sum := "acd6302f4adf69d904f025ff9d2cbac18a4d0ccbc2fdb3e72dadaeafdb74f64e", checked := Tryz.checked }
namespace Rows
def none {H : Type} : Left H := { results := [], args := [] }

/-- 'depositorylaw12.TreeInserts': WHATEVER THE INPUT: true; the input reads as it did. -/
def treeInsertsSpec : ChangeSpec := { name := "treeInserts", fn := fun _ => fun
  | [d1, d2] => { results := [.lit (.bool true)], args := [d1, d2] }
  | _ => none }
def treeInsertsRow : OpenClaim := { program := "ytfappgmkbnddiaagreat", sum := "acd6302f4adf69d904f025ff9d2cbac18a4d0ccbc2fdb3e72dadaeafdb74f64e", func := "depository/depositorylaw12.TreeInserts", spec := "treeInserts", inPlace := ["internal/bytealg.abigen_runtime_cmpstring", "slices.overlaps[depository/api.TreeEntry]", "slices.overlaps[int]"], unfollowed := true, recurses := true, apart := false }
def TreeInsertsSaid : Prop := treeInsertsRow.holds Tryz.pinned (OpenSpec.ofChange treeInsertsSpec)

/-- ITS FALSE NEIGHBOUR: 'it returns false'. Refute it at one input. -/
def treeInsertsWrong : ChangeSpec := { name := "treeInserts", fn := fun _ => fun
  | [d1, d2] => { results := [.lit (.bool false)], args := [d1, d2] }
  | _ => none }
def TreeInsertsWrongFalsely : Prop := treeInsertsRow.holds Tryz.pinned (OpenSpec.ofChange treeInsertsWrong)

/-- 'depositorylaw12.TreeRemoves': WHATEVER THE INPUT: true; the input reads as it did. -/
def treeRemovesSpec : ChangeSpec := { name := "treeRemoves", fn := fun _ => fun
  | [d1, d2] => { results := [.lit (.bool true)], args := [d1, d2] }
  | _ => none }
def treeRemovesRow : OpenClaim := { program := "ytfappgmkbnddiaagreat", sum := "acd6302f4adf69d904f025ff9d2cbac18a4d0ccbc2fdb3e72dadaeafdb74f64e", func := "depository/depositorylaw12.TreeRemoves", spec := "treeRemoves", inPlace := ["internal/bytealg.abigen_runtime_cmpstring", "slices.overlaps[depository/api.TreeEntry]", "slices.overlaps[int]"], unfollowed := true, recurses := true, apart := false }
def TreeRemovesSaid : Prop := treeRemovesRow.holds Tryz.pinned (OpenSpec.ofChange treeRemovesSpec)

/-- ITS FALSE NEIGHBOUR: 'it returns false'. Refute it at one input. -/
def treeRemovesWrong : ChangeSpec := { name := "treeRemoves", fn := fun _ => fun
  | [d1, d2] => { results := [.lit (.bool false)], args := [d1, d2] }
  | _ => none }
def TreeRemovesWrongFalsely : Prop := treeRemovesRow.holds Tryz.pinned (OpenSpec.ofChange treeRemovesWrong)

/-- 'depositorylaw12.TreeCompares': WHATEVER THE INPUT: true; the input reads as it did. -/
def treeComparesSpec : ChangeSpec := { name := "treeCompares", fn := fun _ => fun
  | [d1, d2, d3] => { results := [.lit (.bool true)], args := [d1, d2, d3] }
  | _ => none }
def treeComparesRow : OpenClaim := { program := "ytfappgmkbnddiaagreat", sum := "acd6302f4adf69d904f025ff9d2cbac18a4d0ccbc2fdb3e72dadaeafdb74f64e", func := "depository/depositorylaw12.TreeCompares", spec := "treeCompares", inPlace := ["internal/bytealg.abigen_runtime_cmpstring", "slices.overlaps[depository/api.TreeEntry]", "slices.overlaps[int]"], unfollowed := true, recurses := true, apart := false }
def TreeComparesSaid : Prop := treeComparesRow.holds Tryz.pinned (OpenSpec.ofChange treeComparesSpec)

/-- ITS FALSE NEIGHBOUR: 'it returns false'. Refute it at one input. -/
def treeComparesWrong : ChangeSpec := { name := "treeCompares", fn := fun _ => fun
  | [d1, d2, d3] => { results := [.lit (.bool false)], args := [d1, d2, d3] }
  | _ => none }
def TreeComparesWrongFalsely : Prop := treeComparesRow.holds Tryz.pinned (OpenSpec.ofChange treeComparesWrong)

/-- 'depositorylaw12.TreeFinds': WHATEVER THE INPUT: true; the input reads as it did. -/
def treeFindsSpec : ChangeSpec := { name := "treeFinds", fn := fun _ => fun
  | [d1, d2] => { results := [.lit (.bool true)], args := [d1, d2] }
  | _ => none }
def treeFindsRow : OpenClaim := { program := "ytfappgmkbnddiaagreat", sum := "acd6302f4adf69d904f025ff9d2cbac18a4d0ccbc2fdb3e72dadaeafdb74f64e", func := "depository/depositorylaw12.TreeFinds", spec := "treeFinds", inPlace := ["internal/bytealg.abigen_runtime_cmpstring", "slices.overlaps[depository/api.TreeEntry]", "slices.overlaps[int]"], unfollowed := true, recurses := true, apart := false }
def TreeFindsSaid : Prop := treeFindsRow.holds Tryz.pinned (OpenSpec.ofChange treeFindsSpec)

/-- ITS FALSE NEIGHBOUR: 'it returns false'. Refute it at one input. -/
def treeFindsWrong : ChangeSpec := { name := "treeFinds", fn := fun _ => fun
  | [d1, d2] => { results := [.lit (.bool false)], args := [d1, d2] }
  | _ => none }
def TreeFindsWrongFalsely : Prop := treeFindsRow.holds Tryz.pinned (OpenSpec.ofChange treeFindsWrong)

/-- 'depositorylaw12.TreeReplaces': WHATEVER THE INPUT: true; the input reads as it did. -/
def treeReplacesSpec : ChangeSpec := { name := "treeReplaces", fn := fun _ => fun
  | [d1, d2] => { results := [.lit (.bool true)], args := [d1, d2] }
  | _ => none }
def treeReplacesRow : OpenClaim := { program := "ytfappgmkbnddiaagreat", sum := "acd6302f4adf69d904f025ff9d2cbac18a4d0ccbc2fdb3e72dadaeafdb74f64e", func := "depository/depositorylaw12.TreeReplaces", spec := "treeReplaces", inPlace := ["internal/bytealg.abigen_runtime_cmpstring", "slices.overlaps[depository/api.TreeEntry]", "slices.overlaps[int]"], unfollowed := true, recurses := true, apart := false }
def TreeReplacesSaid : Prop := treeReplacesRow.holds Tryz.pinned (OpenSpec.ofChange treeReplacesSpec)

/-- ITS FALSE NEIGHBOUR: 'it returns false'. Refute it at one input. -/
def treeReplacesWrong : ChangeSpec := { name := "treeReplaces", fn := fun _ => fun
  | [d1, d2] => { results := [.lit (.bool false)], args := [d1, d2] }
  | _ => none }
def TreeReplacesWrongFalsely : Prop := treeReplacesRow.holds Tryz.pinned (OpenSpec.ofChange treeReplacesWrong)

/-- 'depositorylaw12.TreeChecks': WHATEVER THE INPUT: true; the input reads as it did. -/
def treeChecksSpec : ChangeSpec := { name := "treeChecks", fn := fun _ => fun
  | [d] => { results := [.lit (.bool true)], args := [d] }
  | _ => none }
def treeChecksRow : OpenClaim := { program := "ytfappgmkbnddiaagreat", sum := "acd6302f4adf69d904f025ff9d2cbac18a4d0ccbc2fdb3e72dadaeafdb74f64e", func := "depository/depositorylaw12.TreeChecks", spec := "treeChecks", inPlace := ["internal/bytealg.abigen_runtime_cmpstring", "slices.overlaps[depository/api.TreeEntry]", "slices.overlaps[int]"], unfollowed := true, recurses := true, apart := false }
def TreeChecksSaid : Prop := treeChecksRow.holds Tryz.pinned (OpenSpec.ofChange treeChecksSpec)

/-- ITS FALSE NEIGHBOUR: 'it returns false'. Refute it at one input. -/
def treeChecksWrong : ChangeSpec := { name := "treeChecks", fn := fun _ => fun
  | [d] => { results := [.lit (.bool false)], args := [d] }
  | _ => none }
def TreeChecksWrongFalsely : Prop := treeChecksRow.holds Tryz.pinned (OpenSpec.ofChange treeChecksWrong)

/-- 'depositorylaw12.TreeBuilds': WHATEVER THE INPUT: true; the input reads as it did. -/
def treeBuildsSpec : ChangeSpec := { name := "treeBuilds", fn := fun _ => fun
  | [d1, d2, d3] => { results := [.lit (.bool true)], args := [d1, d2, d3] }
  | _ => none }
def treeBuildsRow : OpenClaim := { program := "ytfappgmkbnddiaagreat", sum := "acd6302f4adf69d904f025ff9d2cbac18a4d0ccbc2fdb3e72dadaeafdb74f64e", func := "depository/depositorylaw12.TreeBuilds", spec := "treeBuilds", inPlace := ["internal/bytealg.abigen_runtime_cmpstring", "slices.overlaps[depository/api.TreeEntry]", "slices.overlaps[int]"], unfollowed := true, recurses := true, apart := false }
def TreeBuildsSaid : Prop := treeBuildsRow.holds Tryz.pinned (OpenSpec.ofChange treeBuildsSpec)

/-- ITS FALSE NEIGHBOUR: 'it returns false'. Refute it at one input. -/
def treeBuildsWrong : ChangeSpec := { name := "treeBuilds", fn := fun _ => fun
  | [d1, d2, d3] => { results := [.lit (.bool false)], args := [d1, d2, d3] }
  | _ => none }
def TreeBuildsWrongFalsely : Prop := treeBuildsRow.holds Tryz.pinned (OpenSpec.ofChange treeBuildsWrong)

/-- 'depositorylaw12.TreeListings': WHATEVER THE INPUT: true; the input reads as it did. -/
def treeListingsSpec : ChangeSpec := { name := "treeListings", fn := fun _ => fun
  | [d1, d2, d3] => { results := [.lit (.bool true)], args := [d1, d2, d3] }
  | _ => none }
def treeListingsRow : OpenClaim := { program := "ytfappgmkbnddiaagreat", sum := "acd6302f4adf69d904f025ff9d2cbac18a4d0ccbc2fdb3e72dadaeafdb74f64e", func := "depository/depositorylaw12.TreeListings", spec := "treeListings", inPlace := ["internal/bytealg.abigen_runtime_cmpstring", "slices.overlaps[depository/api.TreeEntry]", "slices.overlaps[int]"], unfollowed := true, recurses := true, apart := false }
def TreeListingsSaid : Prop := treeListingsRow.holds Tryz.pinned (OpenSpec.ofChange treeListingsSpec)

/-- ITS FALSE NEIGHBOUR: 'it returns false'. Refute it at one input. -/
def treeListingsWrong : ChangeSpec := { name := "treeListings", fn := fun _ => fun
  | [d1, d2, d3] => { results := [.lit (.bool false)], args := [d1, d2, d3] }
  | _ => none }
def TreeListingsWrongFalsely : Prop := treeListingsRow.holds Tryz.pinned (OpenSpec.ofChange treeListingsWrong)

/-- 'depositorylaw12.TreeLists': WHATEVER THE INPUT: true; the input reads as it did. -/
def treeListsSpec : ChangeSpec := { name := "treeLists", fn := fun _ => fun
  | [d1, d2, d3] => { results := [.lit (.bool true)], args := [d1, d2, d3] }
  | _ => none }
def treeListsRow : OpenClaim := { program := "ytfappgmkbnddiaagreat", sum := "acd6302f4adf69d904f025ff9d2cbac18a4d0ccbc2fdb3e72dadaeafdb74f64e", func := "depository/depositorylaw12.TreeLists", spec := "treeLists", inPlace := ["internal/bytealg.abigen_runtime_cmpstring", "slices.overlaps[depository/api.TreeEntry]", "slices.overlaps[int]"], unfollowed := true, recurses := true, apart := false }
def TreeListsSaid : Prop := treeListsRow.holds Tryz.pinned (OpenSpec.ofChange treeListsSpec)

/-- ITS FALSE NEIGHBOUR: 'it returns false'. Refute it at one input. -/
def treeListsWrong : ChangeSpec := { name := "treeLists", fn := fun _ => fun
  | [d1, d2, d3] => { results := [.lit (.bool false)], args := [d1, d2, d3] }
  | _ => none }
def TreeListsWrongFalsely : Prop := treeListsRow.holds Tryz.pinned (OpenSpec.ofChange treeListsWrong)

/-- 'depositorylaw12.TreeSorts': WHATEVER THE INPUT: true; the input reads as it did. -/
def treeSortsSpec : ChangeSpec := { name := "treeSorts", fn := fun _ => fun
  | [d1, d2, d3] => { results := [.lit (.bool true)], args := [d1, d2, d3] }
  | _ => none }
def treeSortsRow : OpenClaim := { program := "ytfappgmkbnddiaagreat", sum := "acd6302f4adf69d904f025ff9d2cbac18a4d0ccbc2fdb3e72dadaeafdb74f64e", func := "depository/depositorylaw12.TreeSorts", spec := "treeSorts", inPlace := ["internal/bytealg.abigen_runtime_cmpstring", "slices.overlaps[depository/api.TreeEntry]", "slices.overlaps[int]"], unfollowed := true, recurses := true, apart := false }
def TreeSortsSaid : Prop := treeSortsRow.holds Tryz.pinned (OpenSpec.ofChange treeSortsSpec)

/-- ITS FALSE NEIGHBOUR: 'it returns false'. Refute it at one input. -/
def treeSortsWrong : ChangeSpec := { name := "treeSorts", fn := fun _ => fun
  | [d1, d2, d3] => { results := [.lit (.bool false)], args := [d1, d2, d3] }
  | _ => none }
def TreeSortsWrongFalsely : Prop := treeSortsRow.holds Tryz.pinned (OpenSpec.ofChange treeSortsWrong)

/- THE SECOND FORM. 'bulk': how many values and letters a reading holds, each counted each time it is reached (what is shared counts as often as it is met; a slice's spare places count too). A statement '..UptoSaid' is the law's where the arguments, and the package variables that the reading takes, are together of bulk at most 1048576: NARROWER than '..Said'. Prove '..Said' where nothing that the law and all that it calls make is longer than what came in: it says more and counts as full. Else prove '..UptoSaid'. A law counts once. -/
mutual
def uptoBulk {H : Type} : DataW H → Nat
  | .lit (.string bytes) => bytes.length + 1
  | .lit _ => 1
  | .nil => 1
  | .ptr d => uptoBulk d + 1
  | .slice elems spare => uptoBulkAll elems + uptoBulkAll spare + 1
  | .agg parts => uptoBulkAll parts + 1
  | .iface _ d => uptoBulk d + 1
  | .map entries => uptoBulkEntries entries + 1
  | .held _ => 1
def uptoBulkAll {H : Type} : List (DataW H) → Nat
  | [] => 0
  | d :: r => uptoBulk d + uptoBulkAll r
def uptoBulkEntries {H : Type} : List (Lit × DataW H) → Nat
  | [] => 0
  | x :: r => uptoBulkEntry x + uptoBulkEntries r
def uptoBulkEntry {H : Type} : Lit × DataW H → Nat
  | (.string bytes, d) => bytes.length + uptoBulk d + 1
  | (_, d) => uptoBulk d + 1
 end
def uptoSmall : (H : Type) → List (DataW H) → Bool := fun _ ds => decide (uptoBulkAll ds ≤ 1048576)
def OpenSpec.upto (s : _root_.Go.ChangeSpec) : _root_.Go.OpenSpec := { _root_.Go.OpenSpec.ofChange s with cond := some uptoSmall }

/-- 'depositorylaw12.TreeInserts', WHERE WHAT IT READS IS OF BULK AT MOST 1048576: true; the input reads as it did. -/
def treeInsertsUptoRow : OpenClaim := { program := "ytfappgmkbnddiaagreat", sum := "acd6302f4adf69d904f025ff9d2cbac18a4d0ccbc2fdb3e72dadaeafdb74f64e", func := "depository/depositorylaw12.TreeInserts", spec := "treeInserts", inPlace := ["internal/bytealg.abigen_runtime_cmpstring", "slices.overlaps[depository/api.TreeEntry]", "slices.overlaps[int]"], unfollowed := true, recurses := true, apart := false, narrowed := true }
def TreeInsertsUptoSaid : Prop := treeInsertsUptoRow.holds Tryz.pinned (OpenSpec.upto treeInsertsSpec)

/-- 'depositorylaw12.TreeRemoves', WHERE WHAT IT READS IS OF BULK AT MOST 1048576: true; the input reads as it did. -/
def treeRemovesUptoRow : OpenClaim := { program := "ytfappgmkbnddiaagreat", sum := "acd6302f4adf69d904f025ff9d2cbac18a4d0ccbc2fdb3e72dadaeafdb74f64e", func := "depository/depositorylaw12.TreeRemoves", spec := "treeRemoves", inPlace := ["internal/bytealg.abigen_runtime_cmpstring", "slices.overlaps[depository/api.TreeEntry]", "slices.overlaps[int]"], unfollowed := true, recurses := true, apart := false, narrowed := true }
def TreeRemovesUptoSaid : Prop := treeRemovesUptoRow.holds Tryz.pinned (OpenSpec.upto treeRemovesSpec)

/-- 'depositorylaw12.TreeCompares', WHERE WHAT IT READS IS OF BULK AT MOST 1048576: true; the input reads as it did. -/
def treeComparesUptoRow : OpenClaim := { program := "ytfappgmkbnddiaagreat", sum := "acd6302f4adf69d904f025ff9d2cbac18a4d0ccbc2fdb3e72dadaeafdb74f64e", func := "depository/depositorylaw12.TreeCompares", spec := "treeCompares", inPlace := ["internal/bytealg.abigen_runtime_cmpstring", "slices.overlaps[depository/api.TreeEntry]", "slices.overlaps[int]"], unfollowed := true, recurses := true, apart := false, narrowed := true }
def TreeComparesUptoSaid : Prop := treeComparesUptoRow.holds Tryz.pinned (OpenSpec.upto treeComparesSpec)

/-- 'depositorylaw12.TreeFinds', WHERE WHAT IT READS IS OF BULK AT MOST 1048576: true; the input reads as it did. -/
def treeFindsUptoRow : OpenClaim := { program := "ytfappgmkbnddiaagreat", sum := "acd6302f4adf69d904f025ff9d2cbac18a4d0ccbc2fdb3e72dadaeafdb74f64e", func := "depository/depositorylaw12.TreeFinds", spec := "treeFinds", inPlace := ["internal/bytealg.abigen_runtime_cmpstring", "slices.overlaps[depository/api.TreeEntry]", "slices.overlaps[int]"], unfollowed := true, recurses := true, apart := false, narrowed := true }
def TreeFindsUptoSaid : Prop := treeFindsUptoRow.holds Tryz.pinned (OpenSpec.upto treeFindsSpec)

/-- 'depositorylaw12.TreeReplaces', WHERE WHAT IT READS IS OF BULK AT MOST 1048576: true; the input reads as it did. -/
def treeReplacesUptoRow : OpenClaim := { program := "ytfappgmkbnddiaagreat", sum := "acd6302f4adf69d904f025ff9d2cbac18a4d0ccbc2fdb3e72dadaeafdb74f64e", func := "depository/depositorylaw12.TreeReplaces", spec := "treeReplaces", inPlace := ["internal/bytealg.abigen_runtime_cmpstring", "slices.overlaps[depository/api.TreeEntry]", "slices.overlaps[int]"], unfollowed := true, recurses := true, apart := false, narrowed := true }
def TreeReplacesUptoSaid : Prop := treeReplacesUptoRow.holds Tryz.pinned (OpenSpec.upto treeReplacesSpec)

/-- 'depositorylaw12.TreeChecks', WHERE WHAT IT READS IS OF BULK AT MOST 1048576: true; the input reads as it did. -/
def treeChecksUptoRow : OpenClaim := { program := "ytfappgmkbnddiaagreat", sum := "acd6302f4adf69d904f025ff9d2cbac18a4d0ccbc2fdb3e72dadaeafdb74f64e", func := "depository/depositorylaw12.TreeChecks", spec := "treeChecks", inPlace := ["internal/bytealg.abigen_runtime_cmpstring", "slices.overlaps[depository/api.TreeEntry]", "slices.overlaps[int]"], unfollowed := true, recurses := true, apart := false, narrowed := true }
def TreeChecksUptoSaid : Prop := treeChecksUptoRow.holds Tryz.pinned (OpenSpec.upto treeChecksSpec)

/-- 'depositorylaw12.TreeBuilds', WHERE WHAT IT READS IS OF BULK AT MOST 1048576: true; the input reads as it did. -/
def treeBuildsUptoRow : OpenClaim := { program := "ytfappgmkbnddiaagreat", sum := "acd6302f4adf69d904f025ff9d2cbac18a4d0ccbc2fdb3e72dadaeafdb74f64e", func := "depository/depositorylaw12.TreeBuilds", spec := "treeBuilds", inPlace := ["internal/bytealg.abigen_runtime_cmpstring", "slices.overlaps[depository/api.TreeEntry]", "slices.overlaps[int]"], unfollowed := true, recurses := true, apart := false, narrowed := true }
def TreeBuildsUptoSaid : Prop := treeBuildsUptoRow.holds Tryz.pinned (OpenSpec.upto treeBuildsSpec)

/-- 'depositorylaw12.TreeListings', WHERE WHAT IT READS IS OF BULK AT MOST 1048576: true; the input reads as it did. -/
def treeListingsUptoRow : OpenClaim := { program := "ytfappgmkbnddiaagreat", sum := "acd6302f4adf69d904f025ff9d2cbac18a4d0ccbc2fdb3e72dadaeafdb74f64e", func := "depository/depositorylaw12.TreeListings", spec := "treeListings", inPlace := ["internal/bytealg.abigen_runtime_cmpstring", "slices.overlaps[depository/api.TreeEntry]", "slices.overlaps[int]"], unfollowed := true, recurses := true, apart := false, narrowed := true }
def TreeListingsUptoSaid : Prop := treeListingsUptoRow.holds Tryz.pinned (OpenSpec.upto treeListingsSpec)

/-- 'depositorylaw12.TreeLists', WHERE WHAT IT READS IS OF BULK AT MOST 1048576: true; the input reads as it did. -/
def treeListsUptoRow : OpenClaim := { program := "ytfappgmkbnddiaagreat", sum := "acd6302f4adf69d904f025ff9d2cbac18a4d0ccbc2fdb3e72dadaeafdb74f64e", func := "depository/depositorylaw12.TreeLists", spec := "treeLists", inPlace := ["internal/bytealg.abigen_runtime_cmpstring", "slices.overlaps[depository/api.TreeEntry]", "slices.overlaps[int]"], unfollowed := true, recurses := true, apart := false, narrowed := true }
def TreeListsUptoSaid : Prop := treeListsUptoRow.holds Tryz.pinned (OpenSpec.upto treeListsSpec)

/-- 'depositorylaw12.TreeSorts', WHERE WHAT IT READS IS OF BULK AT MOST 1048576: true; the input reads as it did. -/
def treeSortsUptoRow : OpenClaim := { program := "ytfappgmkbnddiaagreat", sum := "acd6302f4adf69d904f025ff9d2cbac18a4d0ccbc2fdb3e72dadaeafdb74f64e", func := "depository/depositorylaw12.TreeSorts", spec := "treeSorts", inPlace := ["internal/bytealg.abigen_runtime_cmpstring", "slices.overlaps[depository/api.TreeEntry]", "slices.overlaps[int]"], unfollowed := true, recurses := true, apart := false, narrowed := true }
def TreeSortsUptoSaid : Prop := treeSortsUptoRow.holds Tryz.pinned (OpenSpec.upto treeSortsSpec)

end Rows
end Go.Proofs.YtfappgmkbnddiaaGreat
