/-
  DERIVED. GIVEN WITH THE SEED: THE CARDS: each row of YtpkhkcchibbhmaaGreatDoorRows.lean that lists a variable, with what it lists TIED to the program's text (the seventh form; the later family's looks); each row that meets fmt, with fmt's text TOLD by the authors' own Lean function (tested against real Go, not proved from fmt's source: count such statements apart). THE CARD IS WHAT COUNTS. Prove the row's statement (the work); the ties are given (YtpkhkcchibbhmaaGreatDoorTie.lean); close each card by the builder's one call (the guide's Derived/Test/ToyasCard.lean, 'card_holds'). Laid BY PROGRAM, IN A SANDBOX (cutbox-door.mjs). By AI agents, Wed Nov 11 2026. No macro, syntax, notation, axiom, sorry.
-/
import Derived.Test.YtpkhkcchibbhmaaGreatDoorRows
import GoSem.ClaimSeven
namespace Go.Proofs.YtpkhkcchibbhmaaGreatDoor
namespace Rows

/-- THE TIED CARD OF 'depositorylaw13.IndexFinds'. -/
def indexFindsCard : Claim7 := { stood := { row := indexFindsRow, standIns := [], harness := (true, "c5ebd5e0d9bc2593234677e5ce9251e3e06fa811a55768f9113ba6f330c52f28"), looks := false }, kinds := [], alts := [], laidByText := true, laidKinds := [.data, .pinned], laidTests := true, laidLooks := .later }
def IndexFindsCardSaid : Prop := Claim7.holds Tryz.pinned (.plain (OpenSpec.ofChange indexFindsSpec)) indexFindsCard

/-- THE TIED CARD OF 'depositorylaw13.IndexReads'. -/
def indexReadsCard : Claim7 := { stood := { row := indexReadsRow, standIns := [], harness := (true, "c5ebd5e0d9bc2593234677e5ce9251e3e06fa811a55768f9113ba6f330c52f28"), looks := false }, kinds := [], alts := [], laidByText := true, laidKinds := [.data, .pinned], laidTests := true, laidLooks := .later }
def IndexReadsCardSaid : Prop := Claim7.holds Tryz.pinned (.plain (OpenSpec.ofChange indexReadsSpec)) indexReadsCard

/-- THE TIED CARD OF 'depositorylaw13.IndexRoots'. -/
def indexRootsCard : Claim7 := { stood := { row := indexRootsRow, standIns := [], harness := (true, "c5ebd5e0d9bc2593234677e5ce9251e3e06fa811a55768f9113ba6f330c52f28"), looks := false }, kinds := [], alts := [], laidByText := true, laidKinds := [.data, .pinned], laidTests := true, laidLooks := .later }
def IndexRootsCardSaid : Prop := Claim7.holds Tryz.pinned (.plain (OpenSpec.ofChange indexRootsSpec)) indexRootsCard

/-- THE TIED CARD OF 'depositorylaw13.IndexChanges'. -/
def indexChangesCard : Claim7 := { stood := { row := indexChangesRow, standIns := [], harness := (true, "c5ebd5e0d9bc2593234677e5ce9251e3e06fa811a55768f9113ba6f330c52f28"), looks := false }, kinds := [], alts := [], laidByText := true, laidKinds := [.data, .pinned], laidTests := true, laidLooks := .later }
def IndexChangesCardSaid : Prop := Claim7.holds Tryz.pinned (.plain (OpenSpec.ofChange indexChangesSpec)) indexChangesCard

/-- THE TIED CARD OF 'depositorylaw13.IndexNodes'. -/
def indexNodesCard : Claim7 := { stood := { row := indexNodesRow, standIns := [], harness := (true, "c5ebd5e0d9bc2593234677e5ce9251e3e06fa811a55768f9113ba6f330c52f28"), looks := false }, kinds := [], alts := [], laidByText := true, laidKinds := [.data, .pinned], laidTests := true, laidLooks := .later }
def IndexNodesCardSaid : Prop := Claim7.holds Tryz.pinned (.plain (OpenSpec.ofChange indexNodesSpec)) indexNodesCard

/-- THE TIED CARD OF 'depositorylaw13.IndexOperates'. -/
def indexOperatesCard : Claim7 := { stood := { row := indexOperatesRow, standIns := [], harness := (true, "c5ebd5e0d9bc2593234677e5ce9251e3e06fa811a55768f9113ba6f330c52f28"), looks := false }, kinds := [], alts := [], laidByText := true, laidKinds := [.data, .pinned], laidTests := true, laidLooks := .later }
def IndexOperatesCardSaid : Prop := Claim7.holds Tryz.pinned (.plain (OpenSpec.ofChange indexOperatesSpec)) indexOperatesCard

/-- THE TIED CARD OF 'depositorylaw13.IndexSalvages'. -/
def indexSalvagesCard : Claim7 := { stood := { row := indexSalvagesRow, standIns := [], harness := (true, "c5ebd5e0d9bc2593234677e5ce9251e3e06fa811a55768f9113ba6f330c52f28"), looks := false }, kinds := [], alts := [], laidByText := true, laidKinds := [.data, .pinned], laidTests := true, laidLooks := .later }
def IndexSalvagesCardSaid : Prop := Claim7.holds Tryz.pinned (.plain (OpenSpec.ofChange indexSalvagesSpec)) indexSalvagesCard

/-- THE TIED CARD OF 'depositorylaw13.IndexTears'. -/
def indexTearsCard : Claim7 := { stood := { row := indexTearsRow, standIns := [], harness := (true, "c5ebd5e0d9bc2593234677e5ce9251e3e06fa811a55768f9113ba6f330c52f28"), looks := false }, kinds := [], alts := [], laidByText := true, laidKinds := [.data, .pinned], laidTests := true, laidLooks := .later }
def IndexTearsCardSaid : Prop := Claim7.holds Tryz.pinned (.plain (OpenSpec.ofChange indexTearsSpec)) indexTearsCard

/-- THE SECOND FORM's CARD OF 'depositorylaw13.IndexFinds'. -/
def indexFindsUptoCard : Claim7 := { stood := { row := indexFindsUptoRow, standIns := [], harness := (true, "c5ebd5e0d9bc2593234677e5ce9251e3e06fa811a55768f9113ba6f330c52f28"), looks := false }, kinds := [], alts := [], laidByText := true, laidKinds := [.data, .pinned], laidTests := true, laidLooks := .later }
def IndexFindsUptoCardSaid : Prop := Claim7.holds Tryz.pinned (.plain (OpenSpec.upto indexFindsSpec)) indexFindsUptoCard

/-- THE SECOND FORM's CARD OF 'depositorylaw13.IndexReads'. -/
def indexReadsUptoCard : Claim7 := { stood := { row := indexReadsUptoRow, standIns := [], harness := (true, "c5ebd5e0d9bc2593234677e5ce9251e3e06fa811a55768f9113ba6f330c52f28"), looks := false }, kinds := [], alts := [], laidByText := true, laidKinds := [.data, .pinned], laidTests := true, laidLooks := .later }
def IndexReadsUptoCardSaid : Prop := Claim7.holds Tryz.pinned (.plain (OpenSpec.upto indexReadsSpec)) indexReadsUptoCard

/-- THE SECOND FORM's CARD OF 'depositorylaw13.IndexRoots'. -/
def indexRootsUptoCard : Claim7 := { stood := { row := indexRootsUptoRow, standIns := [], harness := (true, "c5ebd5e0d9bc2593234677e5ce9251e3e06fa811a55768f9113ba6f330c52f28"), looks := false }, kinds := [], alts := [], laidByText := true, laidKinds := [.data, .pinned], laidTests := true, laidLooks := .later }
def IndexRootsUptoCardSaid : Prop := Claim7.holds Tryz.pinned (.plain (OpenSpec.upto indexRootsSpec)) indexRootsUptoCard

/-- THE SECOND FORM's CARD OF 'depositorylaw13.IndexChanges'. -/
def indexChangesUptoCard : Claim7 := { stood := { row := indexChangesUptoRow, standIns := [], harness := (true, "c5ebd5e0d9bc2593234677e5ce9251e3e06fa811a55768f9113ba6f330c52f28"), looks := false }, kinds := [], alts := [], laidByText := true, laidKinds := [.data, .pinned], laidTests := true, laidLooks := .later }
def IndexChangesUptoCardSaid : Prop := Claim7.holds Tryz.pinned (.plain (OpenSpec.upto indexChangesSpec)) indexChangesUptoCard

/-- THE SECOND FORM's CARD OF 'depositorylaw13.IndexNodes'. -/
def indexNodesUptoCard : Claim7 := { stood := { row := indexNodesUptoRow, standIns := [], harness := (true, "c5ebd5e0d9bc2593234677e5ce9251e3e06fa811a55768f9113ba6f330c52f28"), looks := false }, kinds := [], alts := [], laidByText := true, laidKinds := [.data, .pinned], laidTests := true, laidLooks := .later }
def IndexNodesUptoCardSaid : Prop := Claim7.holds Tryz.pinned (.plain (OpenSpec.upto indexNodesSpec)) indexNodesUptoCard

/-- THE SECOND FORM's CARD OF 'depositorylaw13.IndexOperates'. -/
def indexOperatesUptoCard : Claim7 := { stood := { row := indexOperatesUptoRow, standIns := [], harness := (true, "c5ebd5e0d9bc2593234677e5ce9251e3e06fa811a55768f9113ba6f330c52f28"), looks := false }, kinds := [], alts := [], laidByText := true, laidKinds := [.data, .pinned], laidTests := true, laidLooks := .later }
def IndexOperatesUptoCardSaid : Prop := Claim7.holds Tryz.pinned (.plain (OpenSpec.upto indexOperatesSpec)) indexOperatesUptoCard

/-- THE SECOND FORM's CARD OF 'depositorylaw13.IndexSalvages'. -/
def indexSalvagesUptoCard : Claim7 := { stood := { row := indexSalvagesUptoRow, standIns := [], harness := (true, "c5ebd5e0d9bc2593234677e5ce9251e3e06fa811a55768f9113ba6f330c52f28"), looks := false }, kinds := [], alts := [], laidByText := true, laidKinds := [.data, .pinned], laidTests := true, laidLooks := .later }
def IndexSalvagesUptoCardSaid : Prop := Claim7.holds Tryz.pinned (.plain (OpenSpec.upto indexSalvagesSpec)) indexSalvagesUptoCard

/-- THE SECOND FORM's CARD OF 'depositorylaw13.IndexTears'. -/
def indexTearsUptoCard : Claim7 := { stood := { row := indexTearsUptoRow, standIns := [], harness := (true, "c5ebd5e0d9bc2593234677e5ce9251e3e06fa811a55768f9113ba6f330c52f28"), looks := false }, kinds := [], alts := [], laidByText := true, laidKinds := [.data, .pinned], laidTests := true, laidLooks := .later }
def IndexTearsUptoCardSaid : Prop := Claim7.holds Tryz.pinned (.plain (OpenSpec.upto indexTearsSpec)) indexTearsUptoCard
end Rows
end Go.Proofs.YtpkhkcchibbhmaaGreatDoor
