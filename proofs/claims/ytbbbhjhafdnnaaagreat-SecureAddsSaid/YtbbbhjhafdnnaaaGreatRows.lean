/-
  No cell of these rows narrows 'for every input' (looked for: loops, veiled, ifaces, maps, wideKeys, modest, calm, conditions, laid).
  DERIVED. THE GIVEN ROWS OF THIS SEAT. 3 by the template 'for every input the law returns true; each argument reads behind the call as it read before'; 0 by the template 'total and deterministic' (their statements: YtbbbhjhafdnnaaaGreatTotals.lean).
  GIVEN WITH THE SEED: the statements are not yours to turn. If you find one false, say at which input.
  Laid BY PROGRAM, IN A SANDBOX (cutbox-rows.mjs): the forced cells as the released guide's own fill.sh prints them over the translation 38ed476bf03e9750… (all of the seat's roots in one cut). By AI agents, Wed Nov 11 2026. No macro, syntax, notation, axiom, sorry.
-/
import Derived.Test.YtbbbhjhafdnnaaaGreatChecked
import GoSem.Claim
import GoSem.ClaimJoined
import GoSem.ClaimMapViews
import Derived.JoinedTies
import Derived.KernelRfl
namespace Go.Proofs.YtbbbhjhafdnnaaaGreat
/- THE CELL 'sum', in the pinned program and in every row, IS THE sha256 OF THE DUMP (.gsa) THAT YtbbbhjhafdnnaaaGreatProg.lean LOADS. Nothing in Lean hashes anything: it is a label: what it is worth is what the hold of that sum in a sandbox is worth. -/
noncomputable def Tryz.pinned : Pinned := { name := "ytbbbhjhafdnnaaagreat", sum := "38ed476bf03e9750079c691c8a0b4316b63acce23337060372357692f5f5a0f4", checked := Tryz.checked }
namespace Rows
def none {H : Type} : Left H := { results := [], args := [] }

/-- 'depositorylaw18.SecureCollects': WHATEVER THE INPUT: true; the input reads as it did. -/
def secureCollectsSpec : ChangeSpec := { name := "secureCollects", fn := fun _ => fun
  | [d1, d2] => { results := [.lit (.bool true)], args := [d1, d2] }
  | _ => none }
def secureCollectsRow : OpenClaim := { program := "ytbbbhjhafdnnaaagreat", sum := "38ed476bf03e9750079c691c8a0b4316b63acce23337060372357692f5f5a0f4", func := "depository/depositorylaw18.SecureCollects", spec := "secureCollects", inPlace := ["internal/abi.NoEscape", "internal/bytealg.MakeNoZero"], unfollowed := true, recurses := true, apart := false }
def SecureCollectsSaid : Prop := secureCollectsRow.holds Tryz.pinned (OpenSpec.ofChange secureCollectsSpec)

/-- ITS FALSE NEIGHBOUR: 'it returns false'. Refute it at one input. -/
def secureCollectsWrong : ChangeSpec := { name := "secureCollects", fn := fun _ => fun
  | [d1, d2] => { results := [.lit (.bool false)], args := [d1, d2] }
  | _ => none }
def SecureCollectsWrongFalsely : Prop := secureCollectsRow.holds Tryz.pinned (OpenSpec.ofChange secureCollectsWrong)

/-- 'depositorylaw18.SecureChecks': WHATEVER THE INPUT: true; the input reads as it did. -/
def secureChecksSpec : ChangeSpec := { name := "secureChecks", fn := fun _ => fun
  | [d1, d2] => { results := [.lit (.bool true)], args := [d1, d2] }
  | _ => none }
def secureChecksRow : OpenClaim := { program := "ytbbbhjhafdnnaaagreat", sum := "38ed476bf03e9750079c691c8a0b4316b63acce23337060372357692f5f5a0f4", func := "depository/depositorylaw18.SecureChecks", spec := "secureChecks", inPlace := ["internal/abi.NoEscape", "internal/bytealg.MakeNoZero"], unfollowed := true, recurses := true, apart := false }
def SecureChecksSaid : Prop := secureChecksRow.holds Tryz.pinned (OpenSpec.ofChange secureChecksSpec)

/-- ITS FALSE NEIGHBOUR: 'it returns false'. Refute it at one input. -/
def secureChecksWrong : ChangeSpec := { name := "secureChecks", fn := fun _ => fun
  | [d1, d2] => { results := [.lit (.bool false)], args := [d1, d2] }
  | _ => none }
def SecureChecksWrongFalsely : Prop := secureChecksRow.holds Tryz.pinned (OpenSpec.ofChange secureChecksWrong)

/-- 'depositorylaw18.SecureAdds': WHATEVER THE INPUT: true; the input reads as it did. -/
def secureAddsSpec : ChangeSpec := { name := "secureAdds", fn := fun _ => fun
  | [d1, d2, d3] => { results := [.lit (.bool true)], args := [d1, d2, d3] }
  | _ => none }
def secureAddsRow : OpenClaim := { program := "ytbbbhjhafdnnaaagreat", sum := "38ed476bf03e9750079c691c8a0b4316b63acce23337060372357692f5f5a0f4", func := "depository/depositorylaw18.SecureAdds", spec := "secureAdds", inPlace := ["internal/abi.NoEscape", "internal/bytealg.MakeNoZero"], unfollowed := true, recurses := true, apart := false }
def SecureAddsSaid : Prop := secureAddsRow.holds Tryz.pinned (OpenSpec.ofChange secureAddsSpec)

/-- ITS FALSE NEIGHBOUR: 'it returns false'. Refute it at one input. -/
def secureAddsWrong : ChangeSpec := { name := "secureAdds", fn := fun _ => fun
  | [d1, d2, d3] => { results := [.lit (.bool false)], args := [d1, d2, d3] }
  | _ => none }
def SecureAddsWrongFalsely : Prop := secureAddsRow.holds Tryz.pinned (OpenSpec.ofChange secureAddsWrong)

/- THE SECOND FORM. 'bulk': how many values and letters a reading holds, each counted each time it is reached (what is shared counts as often as it is met; a slice's spare places count too). A statement '..UptoSaid' is the law's where the arguments, and the package variables that the reading takes, are together of bulk at most 1048576: NARROWER than '..Said'. Prove '..Said' where nothing that the law and all that it calls make is longer than what came in: it says more and counts as full. Else prove '..UptoSaid'. A law counts once. -/
mutual
def uptoBulk {H : Type} : DataW H → Nat
  | .lit (.string bytes) => bytes.length + 1
  | .lit _ => 1
  | .nil => 1
  | .ptr d => uptoBulk d + 1
  | .slice elems spare => uptoBulkAll elems + uptoBulkAll spare + 1
  | .agg parts => uptoBulkAll parts + 1
  | .iface _ d => uptoBulk d + 1
  | .map entries => uptoBulkEntries entries + 1
  | .held _ => 1
def uptoBulkAll {H : Type} : List (DataW H) → Nat
  | [] => 0
  | d :: r => uptoBulk d + uptoBulkAll r
def uptoBulkEntries {H : Type} : List (Lit × DataW H) → Nat
  | [] => 0
  | x :: r => uptoBulkEntry x + uptoBulkEntries r
def uptoBulkEntry {H : Type} : Lit × DataW H → Nat
  | (.string bytes, d) => bytes.length + uptoBulk d + 1
  | (_, d) => uptoBulk d + 1
 end
def uptoSmall : (H : Type) → List (DataW H) → Bool := fun _ ds => decide (uptoBulkAll ds ≤ 1048576)
def OpenSpec.upto (s : _root_.Go.ChangeSpec) : _root_.Go.OpenSpec := { _root_.Go.OpenSpec.ofChange s with cond := some uptoSmall }

/-- 'depositorylaw18.SecureCollects', WHERE WHAT IT READS IS OF BULK AT MOST 1048576: true; the input reads as it did. -/
def secureCollectsUptoRow : OpenClaim := { program := "ytbbbhjhafdnnaaagreat", sum := "38ed476bf03e9750079c691c8a0b4316b63acce23337060372357692f5f5a0f4", func := "depository/depositorylaw18.SecureCollects", spec := "secureCollects", inPlace := ["internal/abi.NoEscape", "internal/bytealg.MakeNoZero"], unfollowed := true, recurses := true, apart := false, narrowed := true }
def SecureCollectsUptoSaid : Prop := secureCollectsUptoRow.holds Tryz.pinned (OpenSpec.upto secureCollectsSpec)

/-- 'depositorylaw18.SecureChecks', WHERE WHAT IT READS IS OF BULK AT MOST 1048576: true; the input reads as it did. -/
def secureChecksUptoRow : OpenClaim := { program := "ytbbbhjhafdnnaaagreat", sum := "38ed476bf03e9750079c691c8a0b4316b63acce23337060372357692f5f5a0f4", func := "depository/depositorylaw18.SecureChecks", spec := "secureChecks", inPlace := ["internal/abi.NoEscape", "internal/bytealg.MakeNoZero"], unfollowed := true, recurses := true, apart := false, narrowed := true }
def SecureChecksUptoSaid : Prop := secureChecksUptoRow.holds Tryz.pinned (OpenSpec.upto secureChecksSpec)

/-- 'depositorylaw18.SecureAdds', WHERE WHAT IT READS IS OF BULK AT MOST 1048576: true; the input reads as it did. -/
def secureAddsUptoRow : OpenClaim := { program := "ytbbbhjhafdnnaaagreat", sum := "38ed476bf03e9750079c691c8a0b4316b63acce23337060372357692f5f5a0f4", func := "depository/depositorylaw18.SecureAdds", spec := "secureAdds", inPlace := ["internal/abi.NoEscape", "internal/bytealg.MakeNoZero"], unfollowed := true, recurses := true, apart := false, narrowed := true }
def SecureAddsUptoSaid : Prop := secureAddsUptoRow.holds Tryz.pinned (OpenSpec.upto secureAddsSpec)

end Rows
end Go.Proofs.YtbbbhjhafdnnaaaGreat
