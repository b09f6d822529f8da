/-
  NARROWER THAN 'FOR EVERY INPUT', by the rows' own cells (each row's printed sentence says how): IndexFinds: laid · IndexReads: laid · IndexRoots: laid · IndexChanges: laid · IndexNodes: laid · IndexOperates: laid · IndexSalvages: laid · IndexTears: laid.
  DERIVED. THE GIVEN ROWS OF THIS SEAT. 8 by the template 'for every input the law returns true; each argument reads behind the call as it read before'; 0 by the template 'total and deterministic' (their statements: YtpkhkcchibbhmaaGreatDoorTotals.lean).
  GIVEN WITH THE SEED: the statements are not yours to turn. If you find one false, say at which input.
  Laid BY PROGRAM, IN A SANDBOX (cutbox-rows.mjs): the forced cells as the released guide's own fill.sh prints them over the translation 6a534ff16a763361… (all of the seat's roots in one cut). By AI agents, Wed Nov 11 2026. No macro, syntax, notation, axiom, sorry.
-/
import Derived.Test.YtpkhkcchibbhmaaGreatDoorChecked
import GoSem.PinnedTables
import GoSem.Claim
import GoSem.ClaimJoined
import GoSem.ClaimMapViews
import Derived.JoinedTies
import Derived.KernelRfl
namespace Go.Proofs.YtpkhkcchibbhmaaGreatDoor
/- THE CELL 'sum', in the pinned program and in every row, IS THE sha256 OF THE DUMP (.gsa) THAT YtpkhkcchibbhmaaGreatDoorProg.lean LOADS. Nothing in Lean hashes anything: it is a label: what it is worth is what the hold of that sum in a sandbox is worth. -/
noncomputable def Tryz.pinned : Pinned := { name := "ytpkhkcchibbhmaagreatdoor", sum := "6a534ff16a763361572713581038cf5612cdf02839060bf37ff0ee6394a265b7", checked := Tryz.checked }
namespace Rows
def none {H : Type} : Left H := { results := [], args := [] }

/- WHAT THE LISTED PACKAGE-LEVEL VARIABLES READ AS WHEN THE CALL BEGINS. Each datum BY PROGRAM (the guide's laid-datum.mjs) off the statement by which the dump's own 'gosem.cut.vars' lays the variable. In a bare row this is a premise. The card (YtpkhkcchibbhmaaGreatDoorCards.lean) ties it to the program's text. -/
def laid_unicode_utf8_acceptRanges {H : Type} : DataW H := .agg [.agg [.lit (.int .u8 128), .lit (.int .u8 191)], .agg [.lit (.int .u8 160), .lit (.int .u8 191)], .agg [.lit (.int .u8 128), .lit (.int .u8 159)], .agg [.lit (.int .u8 144), .lit (.int .u8 191)], .agg [.lit (.int .u8 128), .lit (.int .u8 143)], .agg [.lit (.int .u8 0), .lit (.int .u8 0)], .agg [.lit (.int .u8 0), .lit (.int .u8 0)], .agg [.lit (.int .u8 0), .lit (.int .u8 0)], .agg [.lit (.int .u8 0), .lit (.int .u8 0)], .agg [.lit (.int .u8 0), .lit (.int .u8 0)], .agg [.lit (.int .u8 0), .lit (.int .u8 0)], .agg [.lit (.int .u8 0), .lit (.int .u8 0)], .agg [.lit (.int .u8 0), .lit (.int .u8 0)], .agg [.lit (.int .u8 0), .lit (.int .u8 0)], .agg [.lit (.int .u8 0), .lit (.int .u8 0)], .agg [.lit (.int .u8 0), .lit (.int .u8 0)]]
/-- One of Go's own tables, pinned by name: the form's constant. -/
def laid_unicode_utf8_first : DataW Unit := Go.Pinned.utf8First

/-- 'depositorylaw13.IndexFinds': WHATEVER THE INPUT: true; the input reads as it did. -/
def indexFindsSpec : ChangeSpec := { name := "indexFinds", fn := fun _ => fun
  | [d1, d2] => { results := [.lit (.bool true)], args := [d1, d2] }
  | _ => none }
def indexFindsRow : OpenClaim := { program := "ytpkhkcchibbhmaagreatdoor", sum := "6a534ff16a763361572713581038cf5612cdf02839060bf37ff0ee6394a265b7", func := "depository/depositorylaw13.IndexFinds", spec := "indexFinds", inPlace := ["internal/bytealg.abigen_runtime_cmpstring", "internal/bytealg.IndexByteString", "internal/bytealg.IndexString", "slices.overlaps[depository/api.TreeEntry]", "slices.overlaps[int]"], unfollowed := true, recurses := true, named := ["unicode/utf8.first", "unicode/utf8.acceptRanges", "internal/bytealg.MaxLen"], apart := false, laid := [("unicode/utf8.acceptRanges", laid_unicode_utf8_acceptRanges), ("unicode/utf8.first", laid_unicode_utf8_first)] }
def IndexFindsSaid : Prop := indexFindsRow.holds Tryz.pinned (OpenSpec.ofChange indexFindsSpec)

/-- ITS FALSE NEIGHBOUR: 'it returns false'. Refute it at one input. -/
def indexFindsWrong : ChangeSpec := { name := "indexFinds", fn := fun _ => fun
  | [d1, d2] => { results := [.lit (.bool false)], args := [d1, d2] }
  | _ => none }
def IndexFindsWrongFalsely : Prop := indexFindsRow.holds Tryz.pinned (OpenSpec.ofChange indexFindsWrong)

/-- 'depositorylaw13.IndexReads': WHATEVER THE INPUT: true; the input reads as it did. -/
def indexReadsSpec : ChangeSpec := { name := "indexReads", fn := fun _ => fun
  | [d1, d2] => { results := [.lit (.bool true)], args := [d1, d2] }
  | _ => none }
def indexReadsRow : OpenClaim := { program := "ytpkhkcchibbhmaagreatdoor", sum := "6a534ff16a763361572713581038cf5612cdf02839060bf37ff0ee6394a265b7", func := "depository/depositorylaw13.IndexReads", spec := "indexReads", inPlace := ["internal/bytealg.abigen_runtime_cmpstring", "internal/bytealg.IndexByteString", "internal/bytealg.IndexString", "slices.overlaps[depository/api.TreeEntry]", "slices.overlaps[int]"], unfollowed := true, recurses := true, named := ["unicode/utf8.first", "unicode/utf8.acceptRanges", "internal/bytealg.MaxLen"], apart := false, laid := [("unicode/utf8.acceptRanges", laid_unicode_utf8_acceptRanges), ("unicode/utf8.first", laid_unicode_utf8_first)] }
def IndexReadsSaid : Prop := indexReadsRow.holds Tryz.pinned (OpenSpec.ofChange indexReadsSpec)

/-- ITS FALSE NEIGHBOUR: 'it returns false'. Refute it at one input. -/
def indexReadsWrong : ChangeSpec := { name := "indexReads", fn := fun _ => fun
  | [d1, d2] => { results := [.lit (.bool false)], args := [d1, d2] }
  | _ => none }
def IndexReadsWrongFalsely : Prop := indexReadsRow.holds Tryz.pinned (OpenSpec.ofChange indexReadsWrong)

/-- 'depositorylaw13.IndexRoots': WHATEVER THE INPUT: true; the input reads as it did. -/
def indexRootsSpec : ChangeSpec := { name := "indexRoots", fn := fun _ => fun
  | [d1, d2, d3] => { results := [.lit (.bool true)], args := [d1, d2, d3] }
  | _ => none }
def indexRootsRow : OpenClaim := { program := "ytpkhkcchibbhmaagreatdoor", sum := "6a534ff16a763361572713581038cf5612cdf02839060bf37ff0ee6394a265b7", func := "depository/depositorylaw13.IndexRoots", spec := "indexRoots", inPlace := ["internal/bytealg.abigen_runtime_cmpstring", "internal/bytealg.IndexByteString", "internal/bytealg.IndexString", "slices.overlaps[depository/api.TreeEntry]", "slices.overlaps[int]"], unfollowed := true, recurses := true, named := ["unicode/utf8.first", "unicode/utf8.acceptRanges", "internal/bytealg.MaxLen"], apart := false, laid := [("unicode/utf8.acceptRanges", laid_unicode_utf8_acceptRanges), ("unicode/utf8.first", laid_unicode_utf8_first)] }
def IndexRootsSaid : Prop := indexRootsRow.holds Tryz.pinned (OpenSpec.ofChange indexRootsSpec)

/-- ITS FALSE NEIGHBOUR: 'it returns false'. Refute it at one input. -/
def indexRootsWrong : ChangeSpec := { name := "indexRoots", fn := fun _ => fun
  | [d1, d2, d3] => { results := [.lit (.bool false)], args := [d1, d2, d3] }
  | _ => none }
def IndexRootsWrongFalsely : Prop := indexRootsRow.holds Tryz.pinned (OpenSpec.ofChange indexRootsWrong)

/-- 'depositorylaw13.IndexChanges': WHATEVER THE INPUT: true; the input reads as it did. -/
def indexChangesSpec : ChangeSpec := { name := "indexChanges", fn := fun _ => fun
  | [d1, d2, d3] => { results := [.lit (.bool true)], args := [d1, d2, d3] }
  | _ => none }
def indexChangesRow : OpenClaim := { program := "ytpkhkcchibbhmaagreatdoor", sum := "6a534ff16a763361572713581038cf5612cdf02839060bf37ff0ee6394a265b7", func := "depository/depositorylaw13.IndexChanges", spec := "indexChanges", inPlace := ["internal/bytealg.abigen_runtime_cmpstring", "internal/bytealg.IndexByteString", "internal/bytealg.IndexString", "slices.overlaps[depository/api.TreeEntry]", "slices.overlaps[int]"], unfollowed := true, recurses := true, named := ["unicode/utf8.first", "unicode/utf8.acceptRanges", "internal/bytealg.MaxLen"], apart := false, laid := [("unicode/utf8.acceptRanges", laid_unicode_utf8_acceptRanges), ("unicode/utf8.first", laid_unicode_utf8_first)] }
def IndexChangesSaid : Prop := indexChangesRow.holds Tryz.pinned (OpenSpec.ofChange indexChangesSpec)

/-- ITS FALSE NEIGHBOUR: 'it returns false'. Refute it at one input. -/
def indexChangesWrong : ChangeSpec := { name := "indexChanges", fn := fun _ => fun
  | [d1, d2, d3] => { results := [.lit (.bool false)], args := [d1, d2, d3] }
  | _ => none }
def IndexChangesWrongFalsely : Prop := indexChangesRow.holds Tryz.pinned (OpenSpec.ofChange indexChangesWrong)

/-- 'depositorylaw13.IndexNodes': WHATEVER THE INPUT: true; the input reads as it did. -/
def indexNodesSpec : ChangeSpec := { name := "indexNodes", fn := fun _ => fun
  | [d1, d2, d3] => { results := [.lit (.bool true)], args := [d1, d2, d3] }
  | _ => none }
def indexNodesRow : OpenClaim := { program := "ytpkhkcchibbhmaagreatdoor", sum := "6a534ff16a763361572713581038cf5612cdf02839060bf37ff0ee6394a265b7", func := "depository/depositorylaw13.IndexNodes", spec := "indexNodes", inPlace := ["internal/bytealg.abigen_runtime_cmpstring", "internal/bytealg.IndexByteString", "internal/bytealg.IndexString", "slices.overlaps[depository/api.TreeEntry]", "slices.overlaps[int]"], unfollowed := true, recurses := true, named := ["unicode/utf8.first", "unicode/utf8.acceptRanges", "internal/bytealg.MaxLen"], apart := false, laid := [("unicode/utf8.acceptRanges", laid_unicode_utf8_acceptRanges), ("unicode/utf8.first", laid_unicode_utf8_first)] }
def IndexNodesSaid : Prop := indexNodesRow.holds Tryz.pinned (OpenSpec.ofChange indexNodesSpec)

/-- ITS FALSE NEIGHBOUR: 'it returns false'. Refute it at one input. -/
def indexNodesWrong : ChangeSpec := { name := "indexNodes", fn := fun _ => fun
  | [d1, d2, d3] => { results := [.lit (.bool false)], args := [d1, d2, d3] }
  | _ => none }
def IndexNodesWrongFalsely : Prop := indexNodesRow.holds Tryz.pinned (OpenSpec.ofChange indexNodesWrong)

/-- 'depositorylaw13.IndexOperates': WHATEVER THE INPUT: true; the input reads as it did. -/
def indexOperatesSpec : ChangeSpec := { name := "indexOperates", fn := fun _ => fun
  | [d1, d2, d3] => { results := [.lit (.bool true)], args := [d1, d2, d3] }
  | _ => none }
def indexOperatesRow : OpenClaim := { program := "ytpkhkcchibbhmaagreatdoor", sum := "6a534ff16a763361572713581038cf5612cdf02839060bf37ff0ee6394a265b7", func := "depository/depositorylaw13.IndexOperates", spec := "indexOperates", inPlace := ["internal/bytealg.abigen_runtime_cmpstring", "internal/bytealg.IndexByteString", "internal/bytealg.IndexString", "slices.overlaps[depository/api.TreeEntry]", "slices.overlaps[int]"], unfollowed := true, recurses := true, named := ["unicode/utf8.first", "unicode/utf8.acceptRanges", "internal/bytealg.MaxLen"], apart := false, laid := [("unicode/utf8.acceptRanges", laid_unicode_utf8_acceptRanges), ("unicode/utf8.first", laid_unicode_utf8_first)] }
def IndexOperatesSaid : Prop := indexOperatesRow.holds Tryz.pinned (OpenSpec.ofChange indexOperatesSpec)

/-- ITS FALSE NEIGHBOUR: 'it returns false'. Refute it at one input. -/
def indexOperatesWrong : ChangeSpec := { name := "indexOperates", fn := fun _ => fun
  | [d1, d2, d3] => { results := [.lit (.bool false)], args := [d1, d2, d3] }
  | _ => none }
def IndexOperatesWrongFalsely : Prop := indexOperatesRow.holds Tryz.pinned (OpenSpec.ofChange indexOperatesWrong)

/-- 'depositorylaw13.IndexSalvages': WHATEVER THE INPUT: true; the input reads as it did. -/
def indexSalvagesSpec : ChangeSpec := { name := "indexSalvages", fn := fun _ => fun
  | [d] => { results := [.lit (.bool true)], args := [d] }
  | _ => none }
def indexSalvagesRow : OpenClaim := { program := "ytpkhkcchibbhmaagreatdoor", sum := "6a534ff16a763361572713581038cf5612cdf02839060bf37ff0ee6394a265b7", func := "depository/depositorylaw13.IndexSalvages", spec := "indexSalvages", inPlace := ["internal/bytealg.abigen_runtime_cmpstring", "internal/bytealg.IndexByteString", "internal/bytealg.IndexString", "slices.overlaps[depository/api.TreeEntry]", "slices.overlaps[int]"], unfollowed := true, recurses := true, named := ["unicode/utf8.first", "unicode/utf8.acceptRanges", "internal/bytealg.MaxLen"], apart := false, laid := [("unicode/utf8.acceptRanges", laid_unicode_utf8_acceptRanges), ("unicode/utf8.first", laid_unicode_utf8_first)] }
def IndexSalvagesSaid : Prop := indexSalvagesRow.holds Tryz.pinned (OpenSpec.ofChange indexSalvagesSpec)

/-- ITS FALSE NEIGHBOUR: 'it returns false'. Refute it at one input. -/
def indexSalvagesWrong : ChangeSpec := { name := "indexSalvages", fn := fun _ => fun
  | [d] => { results := [.lit (.bool false)], args := [d] }
  | _ => none }
def IndexSalvagesWrongFalsely : Prop := indexSalvagesRow.holds Tryz.pinned (OpenSpec.ofChange indexSalvagesWrong)

/-- 'depositorylaw13.IndexTears': WHATEVER THE INPUT: true; the input reads as it did. -/
def indexTearsSpec : ChangeSpec := { name := "indexTears", fn := fun _ => fun
  | [d1, d2, d3] => { results := [.lit (.bool true)], args := [d1, d2, d3] }
  | _ => none }
def indexTearsRow : OpenClaim := { program := "ytpkhkcchibbhmaagreatdoor", sum := "6a534ff16a763361572713581038cf5612cdf02839060bf37ff0ee6394a265b7", func := "depository/depositorylaw13.IndexTears", spec := "indexTears", inPlace := ["internal/bytealg.abigen_runtime_cmpstring", "internal/bytealg.IndexByteString", "internal/bytealg.IndexString", "slices.overlaps[depository/api.TreeEntry]", "slices.overlaps[int]"], unfollowed := true, recurses := true, named := ["unicode/utf8.first", "unicode/utf8.acceptRanges", "internal/bytealg.MaxLen"], apart := false, laid := [("unicode/utf8.acceptRanges", laid_unicode_utf8_acceptRanges), ("unicode/utf8.first", laid_unicode_utf8_first)] }
def IndexTearsSaid : Prop := indexTearsRow.holds Tryz.pinned (OpenSpec.ofChange indexTearsSpec)

/-- ITS FALSE NEIGHBOUR: 'it returns false'. Refute it at one input. -/
def indexTearsWrong : ChangeSpec := { name := "indexTears", fn := fun _ => fun
  | [d1, d2, d3] => { results := [.lit (.bool false)], args := [d1, d2, d3] }
  | _ => none }
def IndexTearsWrongFalsely : Prop := indexTearsRow.holds Tryz.pinned (OpenSpec.ofChange indexTearsWrong)

/- THE SECOND FORM. 'bulk': how many values and letters a reading holds, each counted each time it is reached (what is shared counts as often as it is met; a slice's spare places count too). A statement '..UptoSaid' is the law's where the arguments, and the package variables that the reading takes, are together of bulk at most 1048576: NARROWER than '..Said'. Prove '..Said' where nothing that the law and all that it calls make is longer than what came in: it says more and counts as full. Else prove '..UptoSaid'. A law counts once. -/
mutual
def uptoBulk {H : Type} : DataW H → Nat
  | .lit (.string bytes) => bytes.length + 1
  | .lit _ => 1
  | .nil => 1
  | .ptr d => uptoBulk d + 1
  | .slice elems spare => uptoBulkAll elems + uptoBulkAll spare + 1
  | .agg parts => uptoBulkAll parts + 1
  | .iface _ d => uptoBulk d + 1
  | .map entries => uptoBulkEntries entries + 1
  | .held _ => 1
def uptoBulkAll {H : Type} : List (DataW H) → Nat
  | [] => 0
  | d :: r => uptoBulk d + uptoBulkAll r
def uptoBulkEntries {H : Type} : List (Lit × DataW H) → Nat
  | [] => 0
  | x :: r => uptoBulkEntry x + uptoBulkEntries r
def uptoBulkEntry {H : Type} : Lit × DataW H → Nat
  | (.string bytes, d) => bytes.length + uptoBulk d + 1
  | (_, d) => uptoBulk d + 1
 end
def uptoSmall : (H : Type) → List (DataW H) → Bool := fun _ ds => decide (uptoBulkAll ds ≤ 1048576)
def OpenSpec.upto (s : _root_.Go.ChangeSpec) : _root_.Go.OpenSpec := { _root_.Go.OpenSpec.ofChange s with cond := some uptoSmall }

/-- 'depositorylaw13.IndexFinds', WHERE WHAT IT READS IS OF BULK AT MOST 1048576: true; the input reads as it did. -/
def indexFindsUptoRow : OpenClaim := { program := "ytpkhkcchibbhmaagreatdoor", sum := "6a534ff16a763361572713581038cf5612cdf02839060bf37ff0ee6394a265b7", func := "depository/depositorylaw13.IndexFinds", spec := "indexFinds", inPlace := ["internal/bytealg.abigen_runtime_cmpstring", "internal/bytealg.IndexByteString", "internal/bytealg.IndexString", "slices.overlaps[depository/api.TreeEntry]", "slices.overlaps[int]"], unfollowed := true, recurses := true, named := ["unicode/utf8.first", "unicode/utf8.acceptRanges", "internal/bytealg.MaxLen"], apart := false, laid := [("unicode/utf8.acceptRanges", laid_unicode_utf8_acceptRanges), ("unicode/utf8.first", laid_unicode_utf8_first)], narrowed := true }
def IndexFindsUptoSaid : Prop := indexFindsUptoRow.holds Tryz.pinned (OpenSpec.upto indexFindsSpec)

/-- 'depositorylaw13.IndexReads', WHERE WHAT IT READS IS OF BULK AT MOST 1048576: true; the input reads as it did. -/
def indexReadsUptoRow : OpenClaim := { program := "ytpkhkcchibbhmaagreatdoor", sum := "6a534ff16a763361572713581038cf5612cdf02839060bf37ff0ee6394a265b7", func := "depository/depositorylaw13.IndexReads", spec := "indexReads", inPlace := ["internal/bytealg.abigen_runtime_cmpstring", "internal/bytealg.IndexByteString", "internal/bytealg.IndexString", "slices.overlaps[depository/api.TreeEntry]", "slices.overlaps[int]"], unfollowed := true, recurses := true, named := ["unicode/utf8.first", "unicode/utf8.acceptRanges", "internal/bytealg.MaxLen"], apart := false, laid := [("unicode/utf8.acceptRanges", laid_unicode_utf8_acceptRanges), ("unicode/utf8.first", laid_unicode_utf8_first)], narrowed := true }
def IndexReadsUptoSaid : Prop := indexReadsUptoRow.holds Tryz.pinned (OpenSpec.upto indexReadsSpec)

/-- 'depositorylaw13.IndexRoots', WHERE WHAT IT READS IS OF BULK AT MOST 1048576: true; the input reads as it did. -/
def indexRootsUptoRow : OpenClaim := { program := "ytpkhkcchibbhmaagreatdoor", sum := "6a534ff16a763361572713581038cf5612cdf02839060bf37ff0ee6394a265b7", func := "depository/depositorylaw13.IndexRoots", spec := "indexRoots", inPlace := ["internal/bytealg.abigen_runtime_cmpstring", "internal/bytealg.IndexByteString", "internal/bytealg.IndexString", "slices.overlaps[depository/api.TreeEntry]", "slices.overlaps[int]"], unfollowed := true, recurses := true, named := ["unicode/utf8.first", "unicode/utf8.acceptRanges", "internal/bytealg.MaxLen"], apart := false, laid := [("unicode/utf8.acceptRanges", laid_unicode_utf8_acceptRanges), ("unicode/utf8.first", laid_unicode_utf8_first)], narrowed := true }
def IndexRootsUptoSaid : Prop := indexRootsUptoRow.holds Tryz.pinned (OpenSpec.upto indexRootsSpec)

/-- 'depositorylaw13.IndexChanges', WHERE WHAT IT READS IS OF BULK AT MOST 1048576: true; the input reads as it did. -/
def indexChangesUptoRow : OpenClaim := { program := "ytpkhkcchibbhmaagreatdoor", sum := "6a534ff16a763361572713581038cf5612cdf02839060bf37ff0ee6394a265b7", func := "depository/depositorylaw13.IndexChanges", spec := "indexChanges", inPlace := ["internal/bytealg.abigen_runtime_cmpstring", "internal/bytealg.IndexByteString", "internal/bytealg.IndexString", "slices.overlaps[depository/api.TreeEntry]", "slices.overlaps[int]"], unfollowed := true, recurses := true, named := ["unicode/utf8.first", "unicode/utf8.acceptRanges", "internal/bytealg.MaxLen"], apart := false, laid := [("unicode/utf8.acceptRanges", laid_unicode_utf8_acceptRanges), ("unicode/utf8.first", laid_unicode_utf8_first)], narrowed := true }
def IndexChangesUptoSaid : Prop := indexChangesUptoRow.holds Tryz.pinned (OpenSpec.upto indexChangesSpec)

/-- 'depositorylaw13.IndexNodes', WHERE WHAT IT READS IS OF BULK AT MOST 1048576: true; the input reads as it did. -/
def indexNodesUptoRow : OpenClaim := { program := "ytpkhkcchibbhmaagreatdoor", sum := "6a534ff16a763361572713581038cf5612cdf02839060bf37ff0ee6394a265b7", func := "depository/depositorylaw13.IndexNodes", spec := "indexNodes", inPlace := ["internal/bytealg.abigen_runtime_cmpstring", "internal/bytealg.IndexByteString", "internal/bytealg.IndexString", "slices.overlaps[depository/api.TreeEntry]", "slices.overlaps[int]"], unfollowed := true, recurses := true, named := ["unicode/utf8.first", "unicode/utf8.acceptRanges", "internal/bytealg.MaxLen"], apart := false, laid := [("unicode/utf8.acceptRanges", laid_unicode_utf8_acceptRanges), ("unicode/utf8.first", laid_unicode_utf8_first)], narrowed := true }
def IndexNodesUptoSaid : Prop := indexNodesUptoRow.holds Tryz.pinned (OpenSpec.upto indexNodesSpec)

/-- 'depositorylaw13.IndexOperates', WHERE WHAT IT READS IS OF BULK AT MOST 1048576: true; the input reads as it did. -/
def indexOperatesUptoRow : OpenClaim := { program := "ytpkhkcchibbhmaagreatdoor", sum := "6a534ff16a763361572713581038cf5612cdf02839060bf37ff0ee6394a265b7", func := "depository/depositorylaw13.IndexOperates", spec := "indexOperates", inPlace := ["internal/bytealg.abigen_runtime_cmpstring", "internal/bytealg.IndexByteString", "internal/bytealg.IndexString", "slices.overlaps[depository/api.TreeEntry]", "slices.overlaps[int]"], unfollowed := true, recurses := true, named := ["unicode/utf8.first", "unicode/utf8.acceptRanges", "internal/bytealg.MaxLen"], apart := false, laid := [("unicode/utf8.acceptRanges", laid_unicode_utf8_acceptRanges), ("unicode/utf8.first", laid_unicode_utf8_first)], narrowed := true }
def IndexOperatesUptoSaid : Prop := indexOperatesUptoRow.holds Tryz.pinned (OpenSpec.upto indexOperatesSpec)

/-- 'depositorylaw13.IndexSalvages', WHERE WHAT IT READS IS OF BULK AT MOST 1048576: true; the input reads as it did. -/
def indexSalvagesUptoRow : OpenClaim := { program := "ytpkhkcchibbhmaagreatdoor", sum := "6a534ff16a763361572713581038cf5612cdf02839060bf37ff0ee6394a265b7", func := "depository/depositorylaw13.IndexSalvages", spec := "indexSalvages", inPlace := ["internal/bytealg.abigen_runtime_cmpstring", "internal/bytealg.IndexByteString", "internal/bytealg.IndexString", "slices.overlaps[depository/api.TreeEntry]", "slices.overlaps[int]"], unfollowed := true, recurses := true, named := ["unicode/utf8.first", "unicode/utf8.acceptRanges", "internal/bytealg.MaxLen"], apart := false, laid := [("unicode/utf8.acceptRanges", laid_unicode_utf8_acceptRanges), ("unicode/utf8.first", laid_unicode_utf8_first)], narrowed := true }
def IndexSalvagesUptoSaid : Prop := indexSalvagesUptoRow.holds Tryz.pinned (OpenSpec.upto indexSalvagesSpec)

/-- 'depositorylaw13.IndexTears', WHERE WHAT IT READS IS OF BULK AT MOST 1048576: true; the input reads as it did. -/
def indexTearsUptoRow : OpenClaim := { program := "ytpkhkcchibbhmaagreatdoor", sum := "6a534ff16a763361572713581038cf5612cdf02839060bf37ff0ee6394a265b7", func := "depository/depositorylaw13.IndexTears", spec := "indexTears", inPlace := ["internal/bytealg.abigen_runtime_cmpstring", "internal/bytealg.IndexByteString", "internal/bytealg.IndexString", "slices.overlaps[depository/api.TreeEntry]", "slices.overlaps[int]"], unfollowed := true, recurses := true, named := ["unicode/utf8.first", "unicode/utf8.acceptRanges", "internal/bytealg.MaxLen"], apart := false, laid := [("unicode/utf8.acceptRanges", laid_unicode_utf8_acceptRanges), ("unicode/utf8.first", laid_unicode_utf8_first)], narrowed := true }
def IndexTearsUptoSaid : Prop := indexTearsUptoRow.holds Tryz.pinned (OpenSpec.upto indexTearsSpec)

end Rows
end Go.Proofs.YtpkhkcchibbhmaaGreatDoor
