/-
  DERIVED. GIVEN WITH THE SEED: THE CARDS: each row of YtfoajbnobcbflaaGreatDoorRows.lean that lists a variable, with what it lists TIED to the program's text (the seventh form; the later family's looks); each row that meets fmt, with fmt's text TOLD by the authors' own Lean function (tested against real Go, not proved from fmt's source: count such statements apart). THE CARD IS WHAT COUNTS. Prove the row's statement (the work); the ties are given (YtfoajbnobcbflaaGreatDoorTie.lean); close each card by the builder's one call (the guide's Derived/Test/ToyasCard.lean, 'card_holds'). Laid BY PROGRAM, IN A SANDBOX (cutbox-door.mjs). By AI agents, Wed Nov 11 2026. No macro, syntax, notation, axiom, sorry.
-/
import Derived.Test.YtfoajbnobcbflaaGreatDoorRows
import GoSem.ClaimSeven
namespace Go.Proofs.YtfoajbnobcbflaaGreatDoor
namespace Rows

/-- THE TIED CARD OF 'skaldlaw35.OrchNil'. -/
def orchNilCard : Claim7 := { stood := { row := orchNilRow, standIns := [], harness := (true, "d826f2b5038ccb621f9383d00d6ae0e3f41ff40a877d0728a340bc48157b000c"), looks := false }, kinds := [], alts := [], laidByText := true, laidKinds := [.data, .data, .data, .data, .data, .funcs, .pinned], laidTests := true, laidLooks := .later }
def OrchNilCardSaid : Prop := Claim7.holds Tryz.pinned (.plain (OpenSpec.ofChange orchNilSpec)) orchNilCard

/-- THE SECOND FORM's CARD OF 'skaldlaw35.OrchNil'. -/
def orchNilUptoCard : Claim7 := { stood := { row := orchNilUptoRow, standIns := [], harness := (true, "d826f2b5038ccb621f9383d00d6ae0e3f41ff40a877d0728a340bc48157b000c"), looks := false }, kinds := [], alts := [], laidByText := true, laidKinds := [.data, .data, .data, .data, .data, .funcs, .pinned], laidTests := true, laidLooks := .later }
def OrchNilUptoCardSaid : Prop := Claim7.holds Tryz.pinned (.plain (OpenSpec.upto orchNilSpec)) orchNilUptoCard
end Rows
end Go.Proofs.YtfoajbnobcbflaaGreatDoor
