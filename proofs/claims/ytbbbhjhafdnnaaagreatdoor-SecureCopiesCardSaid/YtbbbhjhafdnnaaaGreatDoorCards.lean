/-
  DERIVED. GIVEN WITH THE SEED: THE CARDS: each row of YtbbbhjhafdnnaaaGreatDoorRows.lean that lists a variable, with what it lists TIED to the program's text (the seventh form; the later family's looks); each row that meets fmt, with fmt's text TOLD by the authors' own Lean function (tested against real Go, not proved from fmt's source: count such statements apart). THE CARD IS WHAT COUNTS. Prove the row's statement (the work); the ties are given (YtbbbhjhafdnnaaaGreatDoorTie.lean); close each card by the builder's one call (the guide's Derived/Test/ToyasCard.lean, 'card_holds'). Laid BY PROGRAM, IN A SANDBOX (cutbox-door.mjs). By AI agents, Wed Nov 11 2026. No macro, syntax, notation, axiom, sorry.
-/
import Derived.Test.YtbbbhjhafdnnaaaGreatDoorRows
import GoSem.ClaimSeven
namespace Go.Proofs.YtbbbhjhafdnnaaaGreatDoor
namespace Rows

/-- THE TIED CARD OF 'depositorylaw18.SecureStreams'. -/
def secureStreamsCard : Claim7 := { stood := { row := secureStreamsRow, standIns := [], harness := (true, "aed8b8e7c00f1a6b365cfe69dd16a784a4513f77f9a8d88e660db90275df3448"), looks := false }, kinds := [], alts := [], laidByText := true, laidKinds := [.data, .pinned], laidTests := true, laidLooks := .later }
def SecureStreamsCardSaid : Prop := Claim7.holds Tryz.pinned (.plain (OpenSpec.ofChange secureStreamsSpec)) secureStreamsCard

/-- THE TIED CARD OF 'depositorylaw18.SecureCopies'. -/
def secureCopiesCard : Claim7 := { stood := { row := secureCopiesRow, standIns := [], harness := (true, "aed8b8e7c00f1a6b365cfe69dd16a784a4513f77f9a8d88e660db90275df3448"), looks := false }, kinds := [], alts := [], laidByText := true, laidKinds := [.data, .pinned], laidTests := true, laidLooks := .later }
def SecureCopiesCardSaid : Prop := Claim7.holds Tryz.pinned (.plain (OpenSpec.ofChange secureCopiesSpec)) secureCopiesCard

/-- THE SECOND FORM's CARD OF 'depositorylaw18.SecureStreams'. -/
def secureStreamsUptoCard : Claim7 := { stood := { row := secureStreamsUptoRow, standIns := [], harness := (true, "aed8b8e7c00f1a6b365cfe69dd16a784a4513f77f9a8d88e660db90275df3448"), looks := false }, kinds := [], alts := [], laidByText := true, laidKinds := [.data, .pinned], laidTests := true, laidLooks := .later }
def SecureStreamsUptoCardSaid : Prop := Claim7.holds Tryz.pinned (.plain (OpenSpec.upto secureStreamsSpec)) secureStreamsUptoCard

/-- THE SECOND FORM's CARD OF 'depositorylaw18.SecureCopies'. -/
def secureCopiesUptoCard : Claim7 := { stood := { row := secureCopiesUptoRow, standIns := [], harness := (true, "aed8b8e7c00f1a6b365cfe69dd16a784a4513f77f9a8d88e660db90275df3448"), looks := false }, kinds := [], alts := [], laidByText := true, laidKinds := [.data, .pinned], laidTests := true, laidLooks := .later }
def SecureCopiesUptoCardSaid : Prop := Claim7.holds Tryz.pinned (.plain (OpenSpec.upto secureCopiesSpec)) secureCopiesUptoCard
end Rows
end Go.Proofs.YtbbbhjhafdnnaaaGreatDoor
