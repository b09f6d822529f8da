/-
  No cell of these rows narrows 'for every input' (looked for: loops, veiled, ifaces, maps, wideKeys, modest, calm, conditions, laid).
  DERIVED. THE GIVEN ROWS OF THIS SEAT. 8 by the template 'for every input the law returns true; each argument reads behind the call as it read before'; 0 by the template 'total and deterministic' (their statements: YtgdigngojonbhaaTotals.lean).
  GIVEN WITH THE SEED: the statements are not yours to turn. If you find one false, say at which input.
  Laid BY PROGRAM, IN A SANDBOX (cutbox-rows.mjs): the forced cells as the released guide's own fill.sh prints them over the translation 06097a6fffceffe1… (all of the seat's roots in one cut). By AI agents, Wed Nov 11 2026. No macro, syntax, notation, axiom, sorry.
-/
import Derived.Test.YtgdigngojonbhaaChecked
import GoSem.Claim
import GoSem.ClaimJoined
import GoSem.ClaimMapViews
import Derived.JoinedTies
import Derived.KernelRfl
namespace Go.Proofs.Ytgdigngojonbhaa
/- THE CELL 'sum', in the pinned program and in every row, IS THE sha256 OF THE DUMP (.gsa) THAT YtgdigngojonbhaaProg.lean LOADS. Nothing in Lean hashes anything: it is a label: what it is worth is what the hold of that sum in a sandbox is worth. -/
noncomputable def Try.pinned : Pinned := { name := "ytgdigngojonbhaa", sum := "06097a6fffceffe16f068d6e5ed2def066f2a9ca9d6024a40a6291360908f842", checked := Try.checked }
namespace Rows
def none {H : Type} : Left H := { results := [], args := [] }

/-- 'depositorylaw25.HandlesRuns': WHATEVER THE INPUT: true; the input reads as it did. -/
def handlesRunsSpec : ChangeSpec := { name := "handlesRuns", fn := fun _ => fun
  | [d] => { results := [.lit (.bool true)], args := [d] }
  | _ => none }
def handlesRunsRow : OpenClaim := { program := "ytgdigngojonbhaa", sum := "06097a6fffceffe16f068d6e5ed2def066f2a9ca9d6024a40a6291360908f842", func := "depository/depositorylaw25.HandlesRuns", spec := "handlesRuns", inPlace := ["slices.overlaps[depository/api.HandleFile]"], unfollowed := true, recurses := true, apart := false }
def HandlesRunsSaid : Prop := handlesRunsRow.holds Try.pinned (OpenSpec.ofChange handlesRunsSpec)

/-- ITS FALSE NEIGHBOUR: 'it returns false'. Refute it at one input. -/
def handlesRunsWrong : ChangeSpec := { name := "handlesRuns", fn := fun _ => fun
  | [d] => { results := [.lit (.bool false)], args := [d] }
  | _ => none }
def HandlesRunsWrongFalsely : Prop := handlesRunsRow.holds Try.pinned (OpenSpec.ofChange handlesRunsWrong)

/-- 'depositorylaw25.HandlesDeleted': WHATEVER THE INPUT: true; the input reads as it did. -/
def handlesDeletedSpec : ChangeSpec := { name := "handlesDeleted", fn := fun _ => fun
  | [d] => { results := [.lit (.bool true)], args := [d] }
  | _ => none }
def handlesDeletedRow : OpenClaim := { program := "ytgdigngojonbhaa", sum := "06097a6fffceffe16f068d6e5ed2def066f2a9ca9d6024a40a6291360908f842", func := "depository/depositorylaw25.HandlesDeleted", spec := "handlesDeleted", inPlace := ["slices.overlaps[depository/api.HandleFile]"], unfollowed := true, recurses := true, apart := false }
def HandlesDeletedSaid : Prop := handlesDeletedRow.holds Try.pinned (OpenSpec.ofChange handlesDeletedSpec)

/-- ITS FALSE NEIGHBOUR: 'it returns false'. Refute it at one input. -/
def handlesDeletedWrong : ChangeSpec := { name := "handlesDeleted", fn := fun _ => fun
  | [d] => { results := [.lit (.bool false)], args := [d] }
  | _ => none }
def HandlesDeletedWrongFalsely : Prop := handlesDeletedRow.holds Try.pinned (OpenSpec.ofChange handlesDeletedWrong)

/-- 'depositorylaw25.HandlesErrors': WHATEVER THE INPUT: true; the input reads as it did. -/
def handlesErrorsSpec : ChangeSpec := { name := "handlesErrors", fn := fun _ => fun
  | [d1, d2] => { results := [.lit (.bool true)], args := [d1, d2] }
  | _ => none }
def handlesErrorsRow : OpenClaim := { program := "ytgdigngojonbhaa", sum := "06097a6fffceffe16f068d6e5ed2def066f2a9ca9d6024a40a6291360908f842", func := "depository/depositorylaw25.HandlesErrors", spec := "handlesErrors", inPlace := ["slices.overlaps[depository/api.HandleFile]"], unfollowed := true, recurses := true, apart := false }
def HandlesErrorsSaid : Prop := handlesErrorsRow.holds Try.pinned (OpenSpec.ofChange handlesErrorsSpec)

/-- ITS FALSE NEIGHBOUR: 'it returns false'. Refute it at one input. -/
def handlesErrorsWrong : ChangeSpec := { name := "handlesErrors", fn := fun _ => fun
  | [d1, d2] => { results := [.lit (.bool false)], args := [d1, d2] }
  | _ => none }
def HandlesErrorsWrongFalsely : Prop := handlesErrorsRow.holds Try.pinned (OpenSpec.ofChange handlesErrorsWrong)

/-- 'depositorylaw25.HandlesLocks': WHATEVER THE INPUT: true; the input reads as it did. -/
def handlesLocksSpec : ChangeSpec := { name := "handlesLocks", fn := fun _ => fun
  | [d1, d2] => { results := [.lit (.bool true)], args := [d1, d2] }
  | _ => none }
def handlesLocksRow : OpenClaim := { program := "ytgdigngojonbhaa", sum := "06097a6fffceffe16f068d6e5ed2def066f2a9ca9d6024a40a6291360908f842", func := "depository/depositorylaw25.HandlesLocks", spec := "handlesLocks", inPlace := ["slices.overlaps[depository/api.HandleFile]"], unfollowed := true, recurses := true, apart := false }
def HandlesLocksSaid : Prop := handlesLocksRow.holds Try.pinned (OpenSpec.ofChange handlesLocksSpec)

/-- ITS FALSE NEIGHBOUR: 'it returns false'. Refute it at one input. -/
def handlesLocksWrong : ChangeSpec := { name := "handlesLocks", fn := fun _ => fun
  | [d1, d2] => { results := [.lit (.bool false)], args := [d1, d2] }
  | _ => none }
def HandlesLocksWrongFalsely : Prop := handlesLocksRow.holds Try.pinned (OpenSpec.ofChange handlesLocksWrong)

/-- 'depositorylaw25.HandlesApart': WHATEVER THE INPUT: true; the input reads as it did. -/
def handlesApartSpec : ChangeSpec := { name := "handlesApart", fn := fun _ => fun
  | [d] => { results := [.lit (.bool true)], args := [d] }
  | _ => none }
def handlesApartRow : OpenClaim := { program := "ytgdigngojonbhaa", sum := "06097a6fffceffe16f068d6e5ed2def066f2a9ca9d6024a40a6291360908f842", func := "depository/depositorylaw25.HandlesApart", spec := "handlesApart", inPlace := ["slices.overlaps[depository/api.HandleFile]"], unfollowed := true, recurses := true, apart := false }
def HandlesApartSaid : Prop := handlesApartRow.holds Try.pinned (OpenSpec.ofChange handlesApartSpec)

/-- ITS FALSE NEIGHBOUR: 'it returns false'. Refute it at one input. -/
def handlesApartWrong : ChangeSpec := { name := "handlesApart", fn := fun _ => fun
  | [d] => { results := [.lit (.bool false)], args := [d] }
  | _ => none }
def HandlesApartWrongFalsely : Prop := handlesApartRow.holds Try.pinned (OpenSpec.ofChange handlesApartWrong)

/-- 'depositorylaw25.HandlesSymmetric': WHATEVER THE INPUT: true; the input reads as it did. -/
def handlesSymmetricSpec : ChangeSpec := { name := "handlesSymmetric", fn := fun _ => fun
  | [d1, d2, d3] => { results := [.lit (.bool true)], args := [d1, d2, d3] }
  | _ => none }
def handlesSymmetricRow : OpenClaim := { program := "ytgdigngojonbhaa", sum := "06097a6fffceffe16f068d6e5ed2def066f2a9ca9d6024a40a6291360908f842", func := "depository/depositorylaw25.HandlesSymmetric", spec := "handlesSymmetric", inPlace := ["slices.overlaps[depository/api.HandleFile]"], unfollowed := true, recurses := true, apart := false }
def HandlesSymmetricSaid : Prop := handlesSymmetricRow.holds Try.pinned (OpenSpec.ofChange handlesSymmetricSpec)

/-- ITS FALSE NEIGHBOUR: 'it returns false'. Refute it at one input. -/
def handlesSymmetricWrong : ChangeSpec := { name := "handlesSymmetric", fn := fun _ => fun
  | [d1, d2, d3] => { results := [.lit (.bool false)], args := [d1, d2, d3] }
  | _ => none }
def HandlesSymmetricWrongFalsely : Prop := handlesSymmetricRow.holds Try.pinned (OpenSpec.ofChange handlesSymmetricWrong)

/-- 'depositorylaw25.HandlesOpens': WHATEVER THE INPUT: true; the input reads as it did. -/
def handlesOpensSpec : ChangeSpec := { name := "handlesOpens", fn := fun _ => fun
  | [d1, d2] => { results := [.lit (.bool true)], args := [d1, d2] }
  | _ => none }
def handlesOpensRow : OpenClaim := { program := "ytgdigngojonbhaa", sum := "06097a6fffceffe16f068d6e5ed2def066f2a9ca9d6024a40a6291360908f842", func := "depository/depositorylaw25.HandlesOpens", spec := "handlesOpens", inPlace := ["slices.overlaps[depository/api.HandleFile]"], unfollowed := true, recurses := true, apart := false }
def HandlesOpensSaid : Prop := handlesOpensRow.holds Try.pinned (OpenSpec.ofChange handlesOpensSpec)

/-- ITS FALSE NEIGHBOUR: 'it returns false'. Refute it at one input. -/
def handlesOpensWrong : ChangeSpec := { name := "handlesOpens", fn := fun _ => fun
  | [d1, d2] => { results := [.lit (.bool false)], args := [d1, d2] }
  | _ => none }
def HandlesOpensWrongFalsely : Prop := handlesOpensRow.holds Try.pinned (OpenSpec.ofChange handlesOpensWrong)

/-- 'depositorylaw25.HandlesStates': WHATEVER THE INPUT: true; the input reads as it did. -/
def handlesStatesSpec : ChangeSpec := { name := "handlesStates", fn := fun _ => fun
  | [d1, d2] => { results := [.lit (.bool true)], args := [d1, d2] }
  | _ => none }
def handlesStatesRow : OpenClaim := { program := "ytgdigngojonbhaa", sum := "06097a6fffceffe16f068d6e5ed2def066f2a9ca9d6024a40a6291360908f842", func := "depository/depositorylaw25.HandlesStates", spec := "handlesStates", inPlace := ["slices.overlaps[depository/api.HandleFile]"], unfollowed := true, recurses := true, apart := false }
def HandlesStatesSaid : Prop := handlesStatesRow.holds Try.pinned (OpenSpec.ofChange handlesStatesSpec)

/-- ITS FALSE NEIGHBOUR: 'it returns false'. Refute it at one input. -/
def handlesStatesWrong : ChangeSpec := { name := "handlesStates", fn := fun _ => fun
  | [d1, d2] => { results := [.lit (.bool false)], args := [d1, d2] }
  | _ => none }
def HandlesStatesWrongFalsely : Prop := handlesStatesRow.holds Try.pinned (OpenSpec.ofChange handlesStatesWrong)

/- THE SECOND FORM. 'bulk': how many values and letters a reading holds, each counted each time it is reached (what is shared counts as often as it is met; a slice's spare places count too). A statement '..UptoSaid' is the law's where the arguments, and the package variables that the reading takes, are together of bulk at most 1048576: NARROWER than '..Said'. Prove '..Said' where nothing that the law and all that it calls make is longer than what came in: it says more and counts as full. Else prove '..UptoSaid'. A law counts once. -/
mutual
def uptoBulk {H : Type} : DataW H → Nat
  | .lit (.string bytes) => bytes.length + 1
  | .lit _ => 1
  | .nil => 1
  | .ptr d => uptoBulk d + 1
  | .slice elems spare => uptoBulkAll elems + uptoBulkAll spare + 1
  | .agg parts => uptoBulkAll parts + 1
  | .iface _ d => uptoBulk d + 1
  | .map entries => uptoBulkEntries entries + 1
  | .held _ => 1
def uptoBulkAll {H : Type} : List (DataW H) → Nat
  | [] => 0
  | d :: r => uptoBulk d + uptoBulkAll r
def uptoBulkEntries {H : Type} : List (Lit × DataW H) → Nat
  | [] => 0
  | x :: r => uptoBulkEntry x + uptoBulkEntries r
def uptoBulkEntry {H : Type} : Lit × DataW H → Nat
  | (.string bytes, d) => bytes.length + uptoBulk d + 1
  | (_, d) => uptoBulk d + 1
 end
def uptoSmall : (H : Type) → List (DataW H) → Bool := fun _ ds => decide (uptoBulkAll ds ≤ 1048576)
def OpenSpec.upto (s : _root_.Go.ChangeSpec) : _root_.Go.OpenSpec := { _root_.Go.OpenSpec.ofChange s with cond := some uptoSmall }

/-- 'depositorylaw25.HandlesRuns', WHERE WHAT IT READS IS OF BULK AT MOST 1048576: true; the input reads as it did. -/
def handlesRunsUptoRow : OpenClaim := { program := "ytgdigngojonbhaa", sum := "06097a6fffceffe16f068d6e5ed2def066f2a9ca9d6024a40a6291360908f842", func := "depository/depositorylaw25.HandlesRuns", spec := "handlesRuns", inPlace := ["slices.overlaps[depository/api.HandleFile]"], unfollowed := true, recurses := true, apart := false, narrowed := true }
def HandlesRunsUptoSaid : Prop := handlesRunsUptoRow.holds Try.pinned (OpenSpec.upto handlesRunsSpec)

/-- 'depositorylaw25.HandlesDeleted', WHERE WHAT IT READS IS OF BULK AT MOST 1048576: true; the input reads as it did. -/
def handlesDeletedUptoRow : OpenClaim := { program := "ytgdigngojonbhaa", sum := "06097a6fffceffe16f068d6e5ed2def066f2a9ca9d6024a40a6291360908f842", func := "depository/depositorylaw25.HandlesDeleted", spec := "handlesDeleted", inPlace := ["slices.overlaps[depository/api.HandleFile]"], unfollowed := true, recurses := true, apart := false, narrowed := true }
def HandlesDeletedUptoSaid : Prop := handlesDeletedUptoRow.holds Try.pinned (OpenSpec.upto handlesDeletedSpec)

/-- 'depositorylaw25.HandlesErrors', WHERE WHAT IT READS IS OF BULK AT MOST 1048576: true; the input reads as it did. -/
def handlesErrorsUptoRow : OpenClaim := { program := "ytgdigngojonbhaa", sum := "06097a6fffceffe16f068d6e5ed2def066f2a9ca9d6024a40a6291360908f842", func := "depository/depositorylaw25.HandlesErrors", spec := "handlesErrors", inPlace := ["slices.overlaps[depository/api.HandleFile]"], unfollowed := true, recurses := true, apart := false, narrowed := true }
def HandlesErrorsUptoSaid : Prop := handlesErrorsUptoRow.holds Try.pinned (OpenSpec.upto handlesErrorsSpec)

/-- 'depositorylaw25.HandlesLocks', WHERE WHAT IT READS IS OF BULK AT MOST 1048576: true; the input reads as it did. -/
def handlesLocksUptoRow : OpenClaim := { program := "ytgdigngojonbhaa", sum := "06097a6fffceffe16f068d6e5ed2def066f2a9ca9d6024a40a6291360908f842", func := "depository/depositorylaw25.HandlesLocks", spec := "handlesLocks", inPlace := ["slices.overlaps[depository/api.HandleFile]"], unfollowed := true, recurses := true, apart := false, narrowed := true }
def HandlesLocksUptoSaid : Prop := handlesLocksUptoRow.holds Try.pinned (OpenSpec.upto handlesLocksSpec)

/-- 'depositorylaw25.HandlesApart', WHERE WHAT IT READS IS OF BULK AT MOST 1048576: true; the input reads as it did. -/
def handlesApartUptoRow : OpenClaim := { program := "ytgdigngojonbhaa", sum := "06097a6fffceffe16f068d6e5ed2def066f2a9ca9d6024a40a6291360908f842", func := "depository/depositorylaw25.HandlesApart", spec := "handlesApart", inPlace := ["slices.overlaps[depository/api.HandleFile]"], unfollowed := true, recurses := true, apart := false, narrowed := true }
def HandlesApartUptoSaid : Prop := handlesApartUptoRow.holds Try.pinned (OpenSpec.upto handlesApartSpec)

/-- 'depositorylaw25.HandlesSymmetric', WHERE WHAT IT READS IS OF BULK AT MOST 1048576: true; the input reads as it did. -/
def handlesSymmetricUptoRow : OpenClaim := { program := "ytgdigngojonbhaa", sum := "06097a6fffceffe16f068d6e5ed2def066f2a9ca9d6024a40a6291360908f842", func := "depository/depositorylaw25.HandlesSymmetric", spec := "handlesSymmetric", inPlace := ["slices.overlaps[depository/api.HandleFile]"], unfollowed := true, recurses := true, apart := false, narrowed := true }
def HandlesSymmetricUptoSaid : Prop := handlesSymmetricUptoRow.holds Try.pinned (OpenSpec.upto handlesSymmetricSpec)

/-- 'depositorylaw25.HandlesOpens', WHERE WHAT IT READS IS OF BULK AT MOST 1048576: true; the input reads as it did. -/
def handlesOpensUptoRow : OpenClaim := { program := "ytgdigngojonbhaa", sum := "06097a6fffceffe16f068d6e5ed2def066f2a9ca9d6024a40a6291360908f842", func := "depository/depositorylaw25.HandlesOpens", spec := "handlesOpens", inPlace := ["slices.overlaps[depository/api.HandleFile]"], unfollowed := true, recurses := true, apart := false, narrowed := true }
def HandlesOpensUptoSaid : Prop := handlesOpensUptoRow.holds Try.pinned (OpenSpec.upto handlesOpensSpec)

/-- 'depositorylaw25.HandlesStates', WHERE WHAT IT READS IS OF BULK AT MOST 1048576: true; the input reads as it did. -/
def handlesStatesUptoRow : OpenClaim := { program := "ytgdigngojonbhaa", sum := "06097a6fffceffe16f068d6e5ed2def066f2a9ca9d6024a40a6291360908f842", func := "depository/depositorylaw25.HandlesStates", spec := "handlesStates", inPlace := ["slices.overlaps[depository/api.HandleFile]"], unfollowed := true, recurses := true, apart := false, narrowed := true }
def HandlesStatesUptoSaid : Prop := handlesStatesUptoRow.holds Try.pinned (OpenSpec.upto handlesStatesSpec)

end Rows
end Go.Proofs.Ytgdigngojonbhaa
