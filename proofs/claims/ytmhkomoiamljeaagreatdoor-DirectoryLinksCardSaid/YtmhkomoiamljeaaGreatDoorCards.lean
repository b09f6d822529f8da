/-
  DERIVED. GIVEN WITH THE SEED: THE CARDS: each row of YtmhkomoiamljeaaGreatDoorRows.lean that lists a variable, with what it lists TIED to the program's text (the seventh form; the later family's looks); each row that meets fmt, with fmt's text TOLD by the authors' own Lean function (tested against real Go, not proved from fmt's source: count such statements apart). THE CARD IS WHAT COUNTS. Prove the row's statement (the work); the ties are given (YtmhkomoiamljeaaGreatDoorTie.lean); close each card by the builder's one call (the guide's Derived/Test/ToyasCard.lean, 'card_holds'). Laid BY PROGRAM, IN A SANDBOX (cutbox-door.mjs). By AI agents, Wed Nov 11 2026. No macro, syntax, notation, axiom, sorry.
-/
import Derived.Test.YtmhkomoiamljeaaGreatDoorRows
import GoSem.ClaimSeven
namespace Go.Proofs.YtmhkomoiamljeaaGreatDoor
namespace Rows

/-- THE TIED CARD OF 'depositorylaw14.DirectoryAdds'. -/
def directoryAddsCard : Claim7 := { stood := { row := directoryAddsRow, standIns := [], harness := (true, "5cc332c4325df38212c54ceba92e3dd672ed649e27caa732603f5712b81ac008"), looks := false }, kinds := [], alts := [], laidByText := true, laidKinds := [.data, .data, .data], laidTests := true, laidLooks := .later }
def DirectoryAddsCardSaid : Prop := Claim7.holds Tryz.pinned (.plain (OpenSpec.ofChange directoryAddsSpec)) directoryAddsCard

/-- THE TIED CARD OF 'depositorylaw14.DirectoryRemoves'. -/
def directoryRemovesCard : Claim7 := { stood := { row := directoryRemovesRow, standIns := [], harness := (true, "5cc332c4325df38212c54ceba92e3dd672ed649e27caa732603f5712b81ac008"), looks := false }, kinds := [], alts := [], laidByText := true, laidKinds := [.data, .data, .data], laidTests := true, laidLooks := .later }
def DirectoryRemovesCardSaid : Prop := Claim7.holds Tryz.pinned (.plain (OpenSpec.ofChange directoryRemovesSpec)) directoryRemovesCard

/-- THE TIED CARD OF 'depositorylaw14.DirectoryLists'. -/
def directoryListsCard : Claim7 := { stood := { row := directoryListsRow, standIns := [], harness := (true, "5cc332c4325df38212c54ceba92e3dd672ed649e27caa732603f5712b81ac008"), looks := false }, kinds := [], alts := [], laidByText := true, laidKinds := [.data, .data, .data], laidTests := true, laidLooks := .later }
def DirectoryListsCardSaid : Prop := Claim7.holds Tryz.pinned (.plain (OpenSpec.ofChange directoryListsSpec)) directoryListsCard

/-- THE TIED CARD OF 'depositorylaw14.DirectoryChecks'. -/
def directoryChecksCard : Claim7 := { stood := { row := directoryChecksRow, standIns := [], harness := (true, "5cc332c4325df38212c54ceba92e3dd672ed649e27caa732603f5712b81ac008"), looks := false }, kinds := [], alts := [], laidByText := true, laidKinds := [.data, .data, .data], laidTests := true, laidLooks := .later }
def DirectoryChecksCardSaid : Prop := Claim7.holds Tryz.pinned (.plain (OpenSpec.ofChange directoryChecksSpec)) directoryChecksCard

/-- THE TIED CARD OF 'depositorylaw14.DirectoryKept'. -/
def directoryKeptCard : Claim7 := { stood := { row := directoryKeptRow, standIns := [], harness := (true, "5cc332c4325df38212c54ceba92e3dd672ed649e27caa732603f5712b81ac008"), looks := false }, kinds := [], alts := [], laidByText := true, laidKinds := [.data, .data, .data], laidTests := true, laidLooks := .later }
def DirectoryKeptCardSaid : Prop := Claim7.holds Tryz.pinned (.plain (OpenSpec.ofChange directoryKeptSpec)) directoryKeptCard

/-- THE TIED CARD OF 'depositorylaw14.DirectoryEntries'. -/
def directoryEntriesCard : Claim7 := { stood := { row := directoryEntriesRow, standIns := [], harness := (true, "5cc332c4325df38212c54ceba92e3dd672ed649e27caa732603f5712b81ac008"), looks := false }, kinds := [], alts := [], laidByText := true, laidKinds := [.data, .data, .data], laidTests := true, laidLooks := .later }
def DirectoryEntriesCardSaid : Prop := Claim7.holds Tryz.pinned (.plain (OpenSpec.ofChange directoryEntriesSpec)) directoryEntriesCard

/-- THE TIED CARD OF 'depositorylaw14.DirectoryCopies'. -/
def directoryCopiesCard : Claim7 := { stood := { row := directoryCopiesRow, standIns := [], harness := (true, "5cc332c4325df38212c54ceba92e3dd672ed649e27caa732603f5712b81ac008"), looks := false }, kinds := [], alts := [], laidByText := true, laidKinds := [.data, .data, .data], laidTests := true, laidLooks := .later }
def DirectoryCopiesCardSaid : Prop := Claim7.holds Tryz.pinned (.plain (OpenSpec.ofChange directoryCopiesSpec)) directoryCopiesCard

/-- THE TIED CARD OF 'depositorylaw14.DirectoryLinks'. -/
def directoryLinksCard : Claim7 := { stood := { row := directoryLinksRow, standIns := [], harness := (true, "5cc332c4325df38212c54ceba92e3dd672ed649e27caa732603f5712b81ac008"), looks := false }, kinds := [], alts := [], laidByText := true, laidKinds := [.data, .data, .data], laidTests := true, laidLooks := .later }
def DirectoryLinksCardSaid : Prop := Claim7.holds Tryz.pinned (.plain (OpenSpec.ofChange directoryLinksSpec)) directoryLinksCard

/-- THE SECOND FORM's CARD OF 'depositorylaw14.DirectoryAdds'. -/
def directoryAddsUptoCard : Claim7 := { stood := { row := directoryAddsUptoRow, standIns := [], harness := (true, "5cc332c4325df38212c54ceba92e3dd672ed649e27caa732603f5712b81ac008"), looks := false }, kinds := [], alts := [], laidByText := true, laidKinds := [.data, .data, .data], laidTests := true, laidLooks := .later }
def DirectoryAddsUptoCardSaid : Prop := Claim7.holds Tryz.pinned (.plain (OpenSpec.upto directoryAddsSpec)) directoryAddsUptoCard

/-- THE SECOND FORM's CARD OF 'depositorylaw14.DirectoryRemoves'. -/
def directoryRemovesUptoCard : Claim7 := { stood := { row := directoryRemovesUptoRow, standIns := [], harness := (true, "5cc332c4325df38212c54ceba92e3dd672ed649e27caa732603f5712b81ac008"), looks := false }, kinds := [], alts := [], laidByText := true, laidKinds := [.data, .data, .data], laidTests := true, laidLooks := .later }
def DirectoryRemovesUptoCardSaid : Prop := Claim7.holds Tryz.pinned (.plain (OpenSpec.upto directoryRemovesSpec)) directoryRemovesUptoCard

/-- THE SECOND FORM's CARD OF 'depositorylaw14.DirectoryLists'. -/
def directoryListsUptoCard : Claim7 := { stood := { row := directoryListsUptoRow, standIns := [], harness := (true, "5cc332c4325df38212c54ceba92e3dd672ed649e27caa732603f5712b81ac008"), looks := false }, kinds := [], alts := [], laidByText := true, laidKinds := [.data, .data, .data], laidTests := true, laidLooks := .later }
def DirectoryListsUptoCardSaid : Prop := Claim7.holds Tryz.pinned (.plain (OpenSpec.upto directoryListsSpec)) directoryListsUptoCard

/-- THE SECOND FORM's CARD OF 'depositorylaw14.DirectoryChecks'. -/
def directoryChecksUptoCard : Claim7 := { stood := { row := directoryChecksUptoRow, standIns := [], harness := (true, "5cc332c4325df38212c54ceba92e3dd672ed649e27caa732603f5712b81ac008"), looks := false }, kinds := [], alts := [], laidByText := true, laidKinds := [.data, .data, .data], laidTests := true, laidLooks := .later }
def DirectoryChecksUptoCardSaid : Prop := Claim7.holds Tryz.pinned (.plain (OpenSpec.upto directoryChecksSpec)) directoryChecksUptoCard

/-- THE SECOND FORM's CARD OF 'depositorylaw14.DirectoryKept'. -/
def directoryKeptUptoCard : Claim7 := { stood := { row := directoryKeptUptoRow, standIns := [], harness := (true, "5cc332c4325df38212c54ceba92e3dd672ed649e27caa732603f5712b81ac008"), looks := false }, kinds := [], alts := [], laidByText := true, laidKinds := [.data, .data, .data], laidTests := true, laidLooks := .later }
def DirectoryKeptUptoCardSaid : Prop := Claim7.holds Tryz.pinned (.plain (OpenSpec.upto directoryKeptSpec)) directoryKeptUptoCard

/-- THE SECOND FORM's CARD OF 'depositorylaw14.DirectoryEntries'. -/
def directoryEntriesUptoCard : Claim7 := { stood := { row := directoryEntriesUptoRow, standIns := [], harness := (true, "5cc332c4325df38212c54ceba92e3dd672ed649e27caa732603f5712b81ac008"), looks := false }, kinds := [], alts := [], laidByText := true, laidKinds := [.data, .data, .data], laidTests := true, laidLooks := .later }
def DirectoryEntriesUptoCardSaid : Prop := Claim7.holds Tryz.pinned (.plain (OpenSpec.upto directoryEntriesSpec)) directoryEntriesUptoCard

/-- THE SECOND FORM's CARD OF 'depositorylaw14.DirectoryCopies'. -/
def directoryCopiesUptoCard : Claim7 := { stood := { row := directoryCopiesUptoRow, standIns := [], harness := (true, "5cc332c4325df38212c54ceba92e3dd672ed649e27caa732603f5712b81ac008"), looks := false }, kinds := [], alts := [], laidByText := true, laidKinds := [.data, .data, .data], laidTests := true, laidLooks := .later }
def DirectoryCopiesUptoCardSaid : Prop := Claim7.holds Tryz.pinned (.plain (OpenSpec.upto directoryCopiesSpec)) directoryCopiesUptoCard

/-- THE SECOND FORM's CARD OF 'depositorylaw14.DirectoryLinks'. -/
def directoryLinksUptoCard : Claim7 := { stood := { row := directoryLinksUptoRow, standIns := [], harness := (true, "5cc332c4325df38212c54ceba92e3dd672ed649e27caa732603f5712b81ac008"), looks := false }, kinds := [], alts := [], laidByText := true, laidKinds := [.data, .data, .data], laidTests := true, laidLooks := .later }
def DirectoryLinksUptoCardSaid : Prop := Claim7.holds Tryz.pinned (.plain (OpenSpec.upto directoryLinksSpec)) directoryLinksUptoCard
end Rows
end Go.Proofs.YtmhkomoiamljeaaGreatDoor
