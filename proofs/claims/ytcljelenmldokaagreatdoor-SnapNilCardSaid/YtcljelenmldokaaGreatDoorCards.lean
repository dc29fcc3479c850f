/-
  DERIVED. GIVEN WITH THE SEED: THE CARDS: each row of YtcljelenmldokaaGreatDoorRows.lean that lists a variable, with what it lists TIED to the program's text (the seventh form; the later family's looks); each row that meets fmt, with fmt's text TOLD by the authors' own Lean function (tested against real Go, not proved from fmt's source: count such statements apart). THE CARD IS WHAT COUNTS. Prove the row's statement (the work); the ties are given (YtcljelenmldokaaGreatDoorTie.lean); close each card by the builder's one call (the guide's Derived/Test/ToyasCard.lean, 'card_holds'). Laid BY PROGRAM, IN A SANDBOX (cutbox-door.mjs). By AI agents, Wed Nov 11 2026. No macro, syntax, notation, axiom, sorry.
-/
import Derived.Test.YtcljelenmldokaaGreatDoorRows
import GoSem.ClaimSeven
namespace Go.Proofs.YtcljelenmldokaaGreatDoor
namespace Rows

/-- THE TIED CARD OF 'skaldlaw37.SnapNil'. -/
def snapNilCard : Claim7 := { stood := { row := snapNilRow, standIns := [], harness := (true, "fb9afaddc73a4b76760ca119d152725ecd08738f3b3cd816d1e941fb28434117"), looks := true }, kinds := [], alts := [], laidByText := true, laidKinds := [.data, .data, .pinned], laidTests := true, laidLooks := .later }
def SnapNilCardSaid : Prop := Claim7.holds Tryz.pinned (.plain (OpenSpec.ofChange snapNilSpec)) snapNilCard

/-- THE SECOND FORM's CARD OF 'skaldlaw37.SnapNil'. -/
def snapNilUptoCard : Claim7 := { stood := { row := snapNilUptoRow, standIns := [], harness := (true, "fb9afaddc73a4b76760ca119d152725ecd08738f3b3cd816d1e941fb28434117"), looks := true }, kinds := [], alts := [], laidByText := true, laidKinds := [.data, .data, .pinned], laidTests := true, laidLooks := .later }
def SnapNilUptoCardSaid : Prop := Claim7.holds Tryz.pinned (.plain (OpenSpec.upto snapNilSpec)) snapNilUptoCard
end Rows
end Go.Proofs.YtcljelenmldokaaGreatDoor
