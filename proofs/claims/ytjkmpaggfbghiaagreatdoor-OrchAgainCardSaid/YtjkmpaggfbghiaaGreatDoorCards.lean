/-
  DERIVED. GIVEN WITH THE SEED: THE CARDS: each row of YtjkmpaggfbghiaaGreatDoorRows.lean that lists a variable, with what it lists TIED to the program's text (the seventh form; the later family's looks); each row that meets fmt, with fmt's text TOLD by the authors' own Lean function (tested against real Go, not proved from fmt's source: count such statements apart). THE CARD IS WHAT COUNTS. Prove the row's statement (the work); the ties are given (YtjkmpaggfbghiaaGreatDoorTie.lean); close each card by the builder's one call (the guide's Derived/Test/ToyasCard.lean, 'card_holds'). Laid BY PROGRAM, IN A SANDBOX (cutbox-door.mjs). By AI agents, Wed Nov 11 2026. No macro, syntax, notation, axiom, sorry.
-/
import Derived.Test.YtjkmpaggfbghiaaGreatDoorRows
import GoSem.ClaimSeven
namespace Go.Proofs.YtjkmpaggfbghiaaGreatDoor
namespace Rows

/-- THE TIED CARD OF 'skaldlaw35.OrchOnce'. -/
def orchOnceCard : Claim7 := { stood := { row := orchOnceRow, standIns := [], harness := (true, "9b913f27d153c1c32687ce6a5e24e5c255ad27f7609d15d911b65798ad1a6b4c"), looks := false }, kinds := [], alts := [], laidByText := true, laidKinds := [.data, .data, .data, .data, .data, .funcs, .pinned], laidTests := true, laidLooks := .later }
def OrchOnceCardSaid : Prop := Claim7.holds Tryz.pinned (.plain (OpenSpec.ofChange orchOnceSpec)) orchOnceCard

/-- THE TIED CARD OF 'skaldlaw35.OrchTold'. -/
def orchToldCard : Claim7 := { stood := { row := orchToldRow, standIns := [], harness := (true, "9b913f27d153c1c32687ce6a5e24e5c255ad27f7609d15d911b65798ad1a6b4c"), looks := false }, kinds := [], alts := [], laidByText := true, laidKinds := [.data, .data, .data, .data, .data, .funcs, .pinned], laidTests := true, laidLooks := .later }
def OrchToldCardSaid : Prop := Claim7.holds Tryz.pinned (.plain (OpenSpec.ofChange orchToldSpec)) orchToldCard

/-- THE TIED CARD OF 'skaldlaw35.OrchRoutes'. -/
def orchRoutesCard : Claim7 := { stood := { row := orchRoutesRow, standIns := [], harness := (true, "9b913f27d153c1c32687ce6a5e24e5c255ad27f7609d15d911b65798ad1a6b4c"), looks := false }, kinds := [], alts := [], laidByText := true, laidKinds := [.data, .data, .data, .data, .data, .funcs, .pinned], laidTests := true, laidLooks := .later }
def OrchRoutesCardSaid : Prop := Claim7.holds Tryz.pinned (.plain (OpenSpec.ofChange orchRoutesSpec)) orchRoutesCard

/-- THE TIED CARD OF 'skaldlaw35.OrchItems'. -/
def orchItemsCard : Claim7 := { stood := { row := orchItemsRow, standIns := [], harness := (true, "9b913f27d153c1c32687ce6a5e24e5c255ad27f7609d15d911b65798ad1a6b4c"), looks := false }, kinds := [], alts := [], laidByText := true, laidKinds := [.data, .data, .data, .data, .data, .funcs, .pinned], laidTests := true, laidLooks := .later }
def OrchItemsCardSaid : Prop := Claim7.holds Tryz.pinned (.plain (OpenSpec.ofChange orchItemsSpec)) orchItemsCard

/-- THE TIED CARD OF 'skaldlaw35.OrchFull'. -/
def orchFullCard : Claim7 := { stood := { row := orchFullRow, standIns := [], harness := (true, "9b913f27d153c1c32687ce6a5e24e5c255ad27f7609d15d911b65798ad1a6b4c"), looks := false }, kinds := [], alts := [], laidByText := true, laidKinds := [.data, .data, .data, .data, .data, .funcs, .pinned], laidTests := true, laidLooks := .later }
def OrchFullCardSaid : Prop := Claim7.holds Tryz.pinned (.plain (OpenSpec.ofChange orchFullSpec)) orchFullCard

/-- THE TIED CARD OF 'skaldlaw35.OrchEnds'. -/
def orchEndsCard : Claim7 := { stood := { row := orchEndsRow, standIns := [], harness := (true, "9b913f27d153c1c32687ce6a5e24e5c255ad27f7609d15d911b65798ad1a6b4c"), looks := false }, kinds := [], alts := [], laidByText := true, laidKinds := [.data, .data, .data, .data, .data, .funcs, .pinned], laidTests := true, laidLooks := .later }
def OrchEndsCardSaid : Prop := Claim7.holds Tryz.pinned (.plain (OpenSpec.ofChange orchEndsSpec)) orchEndsCard

/-- THE TIED CARD OF 'skaldlaw35.OrchStays'. -/
def orchStaysCard : Claim7 := { stood := { row := orchStaysRow, standIns := [], harness := (true, "9b913f27d153c1c32687ce6a5e24e5c255ad27f7609d15d911b65798ad1a6b4c"), looks := false }, kinds := [], alts := [], laidByText := true, laidKinds := [.data, .data, .data, .data, .data, .funcs, .pinned], laidTests := true, laidLooks := .later }
def OrchStaysCardSaid : Prop := Claim7.holds Tryz.pinned (.plain (OpenSpec.ofChange orchStaysSpec)) orchStaysCard

/-- THE TIED CARD OF 'skaldlaw35.OrchAgain'. -/
def orchAgainCard : Claim7 := { stood := { row := orchAgainRow, standIns := [], harness := (true, "9b913f27d153c1c32687ce6a5e24e5c255ad27f7609d15d911b65798ad1a6b4c"), looks := false }, kinds := [], alts := [], laidByText := true, laidKinds := [.data, .data, .data, .data, .data, .funcs, .pinned], laidTests := true, laidLooks := .later }
def OrchAgainCardSaid : Prop := Claim7.holds Tryz.pinned (.plain (OpenSpec.ofChange orchAgainSpec)) orchAgainCard

/-- THE SECOND FORM's CARD OF 'skaldlaw35.OrchOnce'. -/
def orchOnceUptoCard : Claim7 := { stood := { row := orchOnceUptoRow, standIns := [], harness := (true, "9b913f27d153c1c32687ce6a5e24e5c255ad27f7609d15d911b65798ad1a6b4c"), looks := false }, kinds := [], alts := [], laidByText := true, laidKinds := [.data, .data, .data, .data, .data, .funcs, .pinned], laidTests := true, laidLooks := .later }
def OrchOnceUptoCardSaid : Prop := Claim7.holds Tryz.pinned (.plain (OpenSpec.upto orchOnceSpec)) orchOnceUptoCard

/-- THE SECOND FORM's CARD OF 'skaldlaw35.OrchTold'. -/
def orchToldUptoCard : Claim7 := { stood := { row := orchToldUptoRow, standIns := [], harness := (true, "9b913f27d153c1c32687ce6a5e24e5c255ad27f7609d15d911b65798ad1a6b4c"), looks := false }, kinds := [], alts := [], laidByText := true, laidKinds := [.data, .data, .data, .data, .data, .funcs, .pinned], laidTests := true, laidLooks := .later }
def OrchToldUptoCardSaid : Prop := Claim7.holds Tryz.pinned (.plain (OpenSpec.upto orchToldSpec)) orchToldUptoCard

/-- THE SECOND FORM's CARD OF 'skaldlaw35.OrchRoutes'. -/
def orchRoutesUptoCard : Claim7 := { stood := { row := orchRoutesUptoRow, standIns := [], harness := (true, "9b913f27d153c1c32687ce6a5e24e5c255ad27f7609d15d911b65798ad1a6b4c"), looks := false }, kinds := [], alts := [], laidByText := true, laidKinds := [.data, .data, .data, .data, .data, .funcs, .pinned], laidTests := true, laidLooks := .later }
def OrchRoutesUptoCardSaid : Prop := Claim7.holds Tryz.pinned (.plain (OpenSpec.upto orchRoutesSpec)) orchRoutesUptoCard

/-- THE SECOND FORM's CARD OF 'skaldlaw35.OrchItems'. -/
def orchItemsUptoCard : Claim7 := { stood := { row := orchItemsUptoRow, standIns := [], harness := (true, "9b913f27d153c1c32687ce6a5e24e5c255ad27f7609d15d911b65798ad1a6b4c"), looks := false }, kinds := [], alts := [], laidByText := true, laidKinds := [.data, .data, .data, .data, .data, .funcs, .pinned], laidTests := true, laidLooks := .later }
def OrchItemsUptoCardSaid : Prop := Claim7.holds Tryz.pinned (.plain (OpenSpec.upto orchItemsSpec)) orchItemsUptoCard

/-- THE SECOND FORM's CARD OF 'skaldlaw35.OrchFull'. -/
def orchFullUptoCard : Claim7 := { stood := { row := orchFullUptoRow, standIns := [], harness := (true, "9b913f27d153c1c32687ce6a5e24e5c255ad27f7609d15d911b65798ad1a6b4c"), looks := false }, kinds := [], alts := [], laidByText := true, laidKinds := [.data, .data, .data, .data, .data, .funcs, .pinned], laidTests := true, laidLooks := .later }
def OrchFullUptoCardSaid : Prop := Claim7.holds Tryz.pinned (.plain (OpenSpec.upto orchFullSpec)) orchFullUptoCard

/-- THE SECOND FORM's CARD OF 'skaldlaw35.OrchEnds'. -/
def orchEndsUptoCard : Claim7 := { stood := { row := orchEndsUptoRow, standIns := [], harness := (true, "9b913f27d153c1c32687ce6a5e24e5c255ad27f7609d15d911b65798ad1a6b4c"), looks := false }, kinds := [], alts := [], laidByText := true, laidKinds := [.data, .data, .data, .data, .data, .funcs, .pinned], laidTests := true, laidLooks := .later }
def OrchEndsUptoCardSaid : Prop := Claim7.holds Tryz.pinned (.plain (OpenSpec.upto orchEndsSpec)) orchEndsUptoCard

/-- THE SECOND FORM's CARD OF 'skaldlaw35.OrchStays'. -/
def orchStaysUptoCard : Claim7 := { stood := { row := orchStaysUptoRow, standIns := [], harness := (true, "9b913f27d153c1c32687ce6a5e24e5c255ad27f7609d15d911b65798ad1a6b4c"), looks := false }, kinds := [], alts := [], laidByText := true, laidKinds := [.data, .data, .data, .data, .data, .funcs, .pinned], laidTests := true, laidLooks := .later }
def OrchStaysUptoCardSaid : Prop := Claim7.holds Tryz.pinned (.plain (OpenSpec.upto orchStaysSpec)) orchStaysUptoCard

/-- THE SECOND FORM's CARD OF 'skaldlaw35.OrchAgain'. -/
def orchAgainUptoCard : Claim7 := { stood := { row := orchAgainUptoRow, standIns := [], harness := (true, "9b913f27d153c1c32687ce6a5e24e5c255ad27f7609d15d911b65798ad1a6b4c"), looks := false }, kinds := [], alts := [], laidByText := true, laidKinds := [.data, .data, .data, .data, .data, .funcs, .pinned], laidTests := true, laidLooks := .later }
def OrchAgainUptoCardSaid : Prop := Claim7.holds Tryz.pinned (.plain (OpenSpec.upto orchAgainSpec)) orchAgainUptoCard
end Rows
end Go.Proofs.YtjkmpaggfbghiaaGreatDoor
