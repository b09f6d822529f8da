/-
  DERIVED. GIVEN WITH THE SEED: THE CARDS: each row of YtldegbfcaelpdaaGreatDoorRows.lean that lists a variable, with what it lists TIED to the program's text (the seventh form; the later family's looks); each row that meets fmt, with fmt's text TOLD by the authors' own Lean function (tested against real Go, not proved from fmt's source: count such statements apart). THE CARD IS WHAT COUNTS. Prove the row's statement (the work); the ties are given (YtldegbfcaelpdaaGreatDoorTie.lean); close each card by the builder's one call (the guide's Derived/Test/ToyasCard.lean, 'card_holds'). Laid BY PROGRAM, IN A SANDBOX (cutbox-door.mjs). By AI agents, Wed Nov 11 2026. No macro, syntax, notation, axiom, sorry.
-/
import Derived.Test.YtldegbfcaelpdaaGreatDoorRows
import GoSem.ClaimSeven
namespace Go.Proofs.YtldegbfcaelpdaaGreatDoor
namespace Rows

/-- THE TIED CARD OF 'depositorylaw18.SecureFinds'. -/
def secureFindsCard : Claim7 := { stood := { row := secureFindsRow, standIns := [], harness := (true, "461a242228780dcce8fda16fe2e57637863c65a26d6c3082d14312150005a992"), looks := false }, kinds := [], alts := [], laidByText := true, laidKinds := [.data, .pinned], laidTests := true, laidLooks := .later }
def SecureFindsCardSaid : Prop := Claim7.holds Tryz.pinned (.plain (OpenSpec.ofChange secureFindsSpec)) secureFindsCard

/-- THE TIED CARD OF 'depositorylaw18.SecureOnce'. -/
def secureOnceCard : Claim7 := { stood := { row := secureOnceRow, standIns := [], harness := (true, "461a242228780dcce8fda16fe2e57637863c65a26d6c3082d14312150005a992"), looks := false }, kinds := [], alts := [], laidByText := true, laidKinds := [.data, .pinned], laidTests := true, laidLooks := .later }
def SecureOnceCardSaid : Prop := Claim7.holds Tryz.pinned (.plain (OpenSpec.ofChange secureOnceSpec)) secureOnceCard

/-- THE SECOND FORM's CARD OF 'depositorylaw18.SecureFinds'. -/
def secureFindsUptoCard : Claim7 := { stood := { row := secureFindsUptoRow, standIns := [], harness := (true, "461a242228780dcce8fda16fe2e57637863c65a26d6c3082d14312150005a992"), looks := false }, kinds := [], alts := [], laidByText := true, laidKinds := [.data, .pinned], laidTests := true, laidLooks := .later }
def SecureFindsUptoCardSaid : Prop := Claim7.holds Tryz.pinned (.plain (OpenSpec.upto secureFindsSpec)) secureFindsUptoCard

/-- THE SECOND FORM's CARD OF 'depositorylaw18.SecureOnce'. -/
def secureOnceUptoCard : Claim7 := { stood := { row := secureOnceUptoRow, standIns := [], harness := (true, "461a242228780dcce8fda16fe2e57637863c65a26d6c3082d14312150005a992"), looks := false }, kinds := [], alts := [], laidByText := true, laidKinds := [.data, .pinned], laidTests := true, laidLooks := .later }
def SecureOnceUptoCardSaid : Prop := Claim7.holds Tryz.pinned (.plain (OpenSpec.upto secureOnceSpec)) secureOnceUptoCard
end Rows
end Go.Proofs.YtldegbfcaelpdaaGreatDoor
