/-
  DERIVED. GIVEN WITH THE SEED: THE CARDS: each row of YtfahilpjifjafaaDoorRows.lean that lists a variable, with what it lists TIED to the program's text (the seventh form; the later family's looks); each row that meets fmt, with fmt's text TOLD by the authors' own Lean function (tested against real Go, not proved from fmt's source: count such statements apart). THE CARD IS WHAT COUNTS. Prove the row's statement (the work); the ties are given (YtfahilpjifjafaaDoorTie.lean); close each card by the builder's one call (the guide's Derived/Test/ToyasCard.lean, 'card_holds'). Laid BY PROGRAM, IN A SANDBOX (cutbox-door.mjs). By AI agents, Wed Nov 11 2026. No macro, syntax, notation, axiom, sorry.
-/
import Derived.Test.YtfahilpjifjafaaDoorRows
import GoSem.ClaimSeven
namespace Go.Proofs.YtfahilpjifjafaaDoor
namespace Rows

/-- THE TIED CARD OF 'depositorylaw05.NamesMatch'. -/
def namesMatchCard : Claim7 := { stood := { row := namesMatchRow, standIns := [], harness := (true, "99100173e73ae0b21e46611e0e1356999b5be77324adfa949410accec3ac6c34"), looks := false }, kinds := [], alts := [], laidByText := true, laidKinds := [.data, .data, .data], laidTests := true, laidLooks := .later }
def NamesMatchCardSaid : Prop := Claim7.holds Tryd.pinned (.plain (OpenSpec.ofChange namesMatchSpec)) namesMatchCard

/-- THE TIED CARD OF 'depositorylaw05.NamesPatterns'. -/
def namesPatternsCard : Claim7 := { stood := { row := namesPatternsRow, standIns := [], harness := (true, "99100173e73ae0b21e46611e0e1356999b5be77324adfa949410accec3ac6c34"), looks := false }, kinds := [], alts := [], laidByText := true, laidKinds := [.data, .data, .data], laidTests := true, laidLooks := .later }
def NamesPatternsCardSaid : Prop := Claim7.holds Tryd.pinned (.plain (OpenSpec.ofChange namesPatternsSpec)) namesPatternsCard

/-- THE TIED CARD OF 'depositorylaw05.NamesShorts'. -/
def namesShortsCard : Claim7 := { stood := { row := namesShortsRow, standIns := [], harness := (true, "99100173e73ae0b21e46611e0e1356999b5be77324adfa949410accec3ac6c34"), looks := false }, kinds := [], alts := [], laidByText := true, laidKinds := [.data, .data, .data], laidTests := true, laidLooks := .later }
def NamesShortsCardSaid : Prop := Claim7.holds Tryd.pinned (.plain (OpenSpec.ofChange namesShortsSpec)) namesShortsCard

/-- THE TIED CARD OF 'depositorylaw05.NamesTables'. -/
def namesTablesCard : Claim7 := { stood := { row := namesTablesRow, standIns := [], harness := (true, "99100173e73ae0b21e46611e0e1356999b5be77324adfa949410accec3ac6c34"), looks := false }, kinds := [], alts := [], laidByText := true, laidKinds := [.data, .data, .data], laidTests := true, laidLooks := .later }
def NamesTablesCardSaid : Prop := Claim7.holds Tryd.pinned (.plain (OpenSpec.ofChange namesTablesSpec)) namesTablesCard

/-- THE TIED CARD OF 'depositorylaw05.NamesUpper'. -/
def namesUpperCard : Claim7 := { stood := { row := namesUpperRow, standIns := [], harness := (true, "99100173e73ae0b21e46611e0e1356999b5be77324adfa949410accec3ac6c34"), looks := false }, kinds := [], alts := [], laidByText := true, laidKinds := [.data, .data, .data], laidTests := true, laidLooks := .later }
def NamesUpperCardSaid : Prop := Claim7.holds Tryd.pinned (.plain (OpenSpec.ofChange namesUpperSpec)) namesUpperCard

/-- THE TIED CARD OF 'depositorylaw05.NamesAlone'. -/
def namesAloneCard : Claim7 := { stood := { row := namesAloneRow, standIns := [], harness := (true, "99100173e73ae0b21e46611e0e1356999b5be77324adfa949410accec3ac6c34"), looks := false }, kinds := [], alts := [], laidByText := true, laidKinds := [.data, .data, .data], laidTests := true, laidLooks := .later }
def NamesAloneCardSaid : Prop := Claim7.holds Tryd.pinned (.plain (OpenSpec.ofChange namesAloneSpec)) namesAloneCard

/-- THE TIED CARD OF 'depositorylaw05.NamesOrder'. -/
def namesOrderCard : Claim7 := { stood := { row := namesOrderRow, standIns := [], harness := (true, "99100173e73ae0b21e46611e0e1356999b5be77324adfa949410accec3ac6c34"), looks := false }, kinds := [], alts := [], laidByText := true, laidKinds := [.data, .data, .data], laidTests := true, laidLooks := .later }
def NamesOrderCardSaid : Prop := Claim7.holds Tryd.pinned (.plain (OpenSpec.ofChange namesOrderSpec)) namesOrderCard

/-- THE SECOND FORM's CARD OF 'depositorylaw05.NamesMatch'. -/
def namesMatchUptoCard : Claim7 := { stood := { row := namesMatchUptoRow, standIns := [], harness := (true, "99100173e73ae0b21e46611e0e1356999b5be77324adfa949410accec3ac6c34"), looks := false }, kinds := [], alts := [], laidByText := true, laidKinds := [.data, .data, .data], laidTests := true, laidLooks := .later }
def NamesMatchUptoCardSaid : Prop := Claim7.holds Tryd.pinned (.plain (OpenSpec.upto namesMatchSpec)) namesMatchUptoCard

/-- THE SECOND FORM's CARD OF 'depositorylaw05.NamesPatterns'. -/
def namesPatternsUptoCard : Claim7 := { stood := { row := namesPatternsUptoRow, standIns := [], harness := (true, "99100173e73ae0b21e46611e0e1356999b5be77324adfa949410accec3ac6c34"), looks := false }, kinds := [], alts := [], laidByText := true, laidKinds := [.data, .data, .data], laidTests := true, laidLooks := .later }
def NamesPatternsUptoCardSaid : Prop := Claim7.holds Tryd.pinned (.plain (OpenSpec.upto namesPatternsSpec)) namesPatternsUptoCard

/-- THE SECOND FORM's CARD OF 'depositorylaw05.NamesShorts'. -/
def namesShortsUptoCard : Claim7 := { stood := { row := namesShortsUptoRow, standIns := [], harness := (true, "99100173e73ae0b21e46611e0e1356999b5be77324adfa949410accec3ac6c34"), looks := false }, kinds := [], alts := [], laidByText := true, laidKinds := [.data, .data, .data], laidTests := true, laidLooks := .later }
def NamesShortsUptoCardSaid : Prop := Claim7.holds Tryd.pinned (.plain (OpenSpec.upto namesShortsSpec)) namesShortsUptoCard

/-- THE SECOND FORM's CARD OF 'depositorylaw05.NamesTables'. -/
def namesTablesUptoCard : Claim7 := { stood := { row := namesTablesUptoRow, standIns := [], harness := (true, "99100173e73ae0b21e46611e0e1356999b5be77324adfa949410accec3ac6c34"), looks := false }, kinds := [], alts := [], laidByText := true, laidKinds := [.data, .data, .data], laidTests := true, laidLooks := .later }
def NamesTablesUptoCardSaid : Prop := Claim7.holds Tryd.pinned (.plain (OpenSpec.upto namesTablesSpec)) namesTablesUptoCard

/-- THE SECOND FORM's CARD OF 'depositorylaw05.NamesUpper'. -/
def namesUpperUptoCard : Claim7 := { stood := { row := namesUpperUptoRow, standIns := [], harness := (true, "99100173e73ae0b21e46611e0e1356999b5be77324adfa949410accec3ac6c34"), looks := false }, kinds := [], alts := [], laidByText := true, laidKinds := [.data, .data, .data], laidTests := true, laidLooks := .later }
def NamesUpperUptoCardSaid : Prop := Claim7.holds Tryd.pinned (.plain (OpenSpec.upto namesUpperSpec)) namesUpperUptoCard

/-- THE SECOND FORM's CARD OF 'depositorylaw05.NamesAlone'. -/
def namesAloneUptoCard : Claim7 := { stood := { row := namesAloneUptoRow, standIns := [], harness := (true, "99100173e73ae0b21e46611e0e1356999b5be77324adfa949410accec3ac6c34"), looks := false }, kinds := [], alts := [], laidByText := true, laidKinds := [.data, .data, .data], laidTests := true, laidLooks := .later }
def NamesAloneUptoCardSaid : Prop := Claim7.holds Tryd.pinned (.plain (OpenSpec.upto namesAloneSpec)) namesAloneUptoCard

/-- THE SECOND FORM's CARD OF 'depositorylaw05.NamesOrder'. -/
def namesOrderUptoCard : Claim7 := { stood := { row := namesOrderUptoRow, standIns := [], harness := (true, "99100173e73ae0b21e46611e0e1356999b5be77324adfa949410accec3ac6c34"), looks := false }, kinds := [], alts := [], laidByText := true, laidKinds := [.data, .data, .data], laidTests := true, laidLooks := .later }
def NamesOrderUptoCardSaid : Prop := Claim7.holds Tryd.pinned (.plain (OpenSpec.upto namesOrderSpec)) namesOrderUptoCard
end Rows
end Go.Proofs.YtfahilpjifjafaaDoor
