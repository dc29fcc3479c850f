/-
  DERIVED. GIVEN WITH THE SEED: THE CARDS: each row of YthmjkaljkgjicaaGreatDoorRows.lean that lists a variable, with what it lists TIED to the program's text (the seventh form; the later family's looks); each row that meets fmt, with fmt's text TOLD by the authors' own Lean function (tested against real Go, not proved from fmt's source: count such statements apart). THE CARD IS WHAT COUNTS. Prove the row's statement (the work); the ties are given (YthmjkaljkgjicaaGreatDoorTie.lean); close each card by the builder's one call (the guide's Derived/Test/ToyasCard.lean, 'card_holds'). Laid BY PROGRAM, IN A SANDBOX (cutbox-door.mjs). By AI agents, Wed Nov 11 2026. No macro, syntax, notation, axiom, sorry.
-/
import Derived.Test.YthmjkaljkgjicaaGreatDoorRows
import GoSem.ClaimSeven
namespace Go.Proofs.YthmjkaljkgjicaaGreatDoor
namespace Rows

/-- THE TIED CARD OF 'skaldlaw39.DriveStays'. -/
def driveStaysCard : Claim7 := { stood := { row := driveStaysRow, standIns := [], harness := (true, "ee8d474d51538ccc6f6c4a06ace7b5ea20cfab9c465cf74ed84022779aa358a8"), looks := true }, kinds := [], alts := [], laidByText := true, laidKinds := [.data, .data, .data, .data, .data, .data, .pinned], laidTests := true, laidLooks := .later }
def DriveStaysCardSaid : Prop := Claim7.holds Tryz.pinned (.plain (OpenSpec.ofChange driveStaysSpec)) driveStaysCard

/-- THE TIED CARD OF 'skaldlaw39.DriveRetries'. -/
def driveRetriesCard : Claim7 := { stood := { row := driveRetriesRow, standIns := [], harness := (true, "ee8d474d51538ccc6f6c4a06ace7b5ea20cfab9c465cf74ed84022779aa358a8"), looks := true }, kinds := [], alts := [], laidByText := true, laidKinds := [.data, .data, .data, .data, .data, .data, .pinned], laidTests := true, laidLooks := .later }
def DriveRetriesCardSaid : Prop := Claim7.holds Tryz.pinned (.plain (OpenSpec.ofChange driveRetriesSpec)) driveRetriesCard

/-- THE SECOND FORM's CARD OF 'skaldlaw39.DriveStays'. -/
def driveStaysUptoCard : Claim7 := { stood := { row := driveStaysUptoRow, standIns := [], harness := (true, "ee8d474d51538ccc6f6c4a06ace7b5ea20cfab9c465cf74ed84022779aa358a8"), looks := true }, kinds := [], alts := [], laidByText := true, laidKinds := [.data, .data, .data, .data, .data, .data, .pinned], laidTests := true, laidLooks := .later }
def DriveStaysUptoCardSaid : Prop := Claim7.holds Tryz.pinned (.plain (OpenSpec.upto driveStaysSpec)) driveStaysUptoCard

/-- THE SECOND FORM's CARD OF 'skaldlaw39.DriveRetries'. -/
def driveRetriesUptoCard : Claim7 := { stood := { row := driveRetriesUptoRow, standIns := [], harness := (true, "ee8d474d51538ccc6f6c4a06ace7b5ea20cfab9c465cf74ed84022779aa358a8"), looks := true }, kinds := [], alts := [], laidByText := true, laidKinds := [.data, .data, .data, .data, .data, .data, .pinned], laidTests := true, laidLooks := .later }
def DriveRetriesUptoCardSaid : Prop := Claim7.holds Tryz.pinned (.plain (OpenSpec.upto driveRetriesSpec)) driveRetriesUptoCard
end Rows
end Go.Proofs.YthmjkaljkgjicaaGreatDoor
