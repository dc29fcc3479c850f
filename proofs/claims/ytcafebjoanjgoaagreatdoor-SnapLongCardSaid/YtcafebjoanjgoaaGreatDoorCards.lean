/-
  DERIVED. GIVEN WITH THE SEED: THE CARDS: each row of YtcafebjoanjgoaaGreatDoorRows.lean that lists a variable, with what it lists TIED to the program's text (the seventh form; the later family's looks); each row that meets fmt, with fmt's text TOLD by the authors' own Lean function (tested against real Go, not proved from fmt's source: count such statements apart). THE CARD IS WHAT COUNTS. Prove the row's statement (the work); the ties are given (YtcafebjoanjgoaaGreatDoorTie.lean); close each card by the builder's one call (the guide's Derived/Test/ToyasCard.lean, 'card_holds'). Laid BY PROGRAM, IN A SANDBOX (cutbox-door.mjs). By AI agents, Wed Nov 11 2026. No macro, syntax, notation, axiom, sorry.
-/
import Derived.Test.YtcafebjoanjgoaaGreatDoorRows
import GoSem.ClaimSeven
namespace Go.Proofs.YtcafebjoanjgoaaGreatDoor
namespace Rows

/-- THE TIED CARD OF 'skaldlaw37.SnapLong'. -/
def snapLongCard : Claim7 := { stood := { row := snapLongRow, standIns := [], harness := (true, "b962a7f3b789f7715252b86a2fed82a50fc899458aab4a702b2fdcc528f88998"), looks := true }, kinds := [], alts := [], laidByText := true, laidKinds := [.data, .data, .pinned], laidTests := true, laidLooks := .later }
def SnapLongCardSaid : Prop := Claim7.holds Tryz.pinned (.plain (OpenSpec.ofChange snapLongSpec)) snapLongCard

/-- THE SECOND FORM's CARD OF 'skaldlaw37.SnapLong'. -/
def snapLongUptoCard : Claim7 := { stood := { row := snapLongUptoRow, standIns := [], harness := (true, "b962a7f3b789f7715252b86a2fed82a50fc899458aab4a702b2fdcc528f88998"), looks := true }, kinds := [], alts := [], laidByText := true, laidKinds := [.data, .data, .pinned], laidTests := true, laidLooks := .later }
def SnapLongUptoCardSaid : Prop := Claim7.holds Tryz.pinned (.plain (OpenSpec.upto snapLongSpec)) snapLongUptoCard
end Rows
end Go.Proofs.YtcafebjoanjgoaaGreatDoor
