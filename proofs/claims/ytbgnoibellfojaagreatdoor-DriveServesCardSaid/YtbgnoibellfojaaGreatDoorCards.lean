/-
  DERIVED. GIVEN WITH THE SEED: THE CARDS: each row of YtbgnoibellfojaaGreatDoorRows.lean that lists a variable, with what it lists TIED to the program's text (the seventh form; the later family's looks); each row that meets fmt, with fmt's text TOLD by the authors' own Lean function (tested against real Go, not proved from fmt's source: count such statements apart). THE CARD IS WHAT COUNTS. Prove the row's statement (the work); the ties are given (YtbgnoibellfojaaGreatDoorTie.lean); close each card by the builder's one call (the guide's Derived/Test/ToyasCard.lean, 'card_holds'). Laid BY PROGRAM, IN A SANDBOX (cutbox-door.mjs). By AI agents, Wed Nov 11 2026. No macro, syntax, notation, axiom, sorry.
-/
import Derived.Test.YtbgnoibellfojaaGreatDoorRows
import GoSem.ClaimSeven
namespace Go.Proofs.YtbgnoibellfojaaGreatDoor
namespace Rows

/-- THE TIED CARD OF 'skaldlaw39.DriveServes'. -/
def driveServesCard : Claim7 := { stood := { row := driveServesRow, standIns := [], harness := (true, "5820bba6ac2d1e49ea98bebd81dc838d94f5da916ecb8974d22cf9e036c82229"), looks := true }, kinds := [], alts := [], laidByText := true, laidKinds := [.data, .data, .data, .data, .data, .data, .pinned], laidTests := true, laidLooks := .later }
def DriveServesCardSaid : Prop := Claim7.holds Tryz.pinned (.plain (OpenSpec.ofChange driveServesSpec)) driveServesCard

/-- THE TIED CARD OF 'skaldlaw39.DriveEnds'. -/
def driveEndsCard : Claim7 := { stood := { row := driveEndsRow, standIns := [], harness := (true, "5820bba6ac2d1e49ea98bebd81dc838d94f5da916ecb8974d22cf9e036c82229"), looks := true }, kinds := [], alts := [], laidByText := true, laidKinds := [.data, .data, .data, .data, .data, .data, .pinned], laidTests := true, laidLooks := .later }
def DriveEndsCardSaid : Prop := Claim7.holds Tryz.pinned (.plain (OpenSpec.ofChange driveEndsSpec)) driveEndsCard

/-- THE TIED CARD OF 'skaldlaw39.DriveTalks'. -/
def driveTalksCard : Claim7 := { stood := { row := driveTalksRow, standIns := [], harness := (true, "5820bba6ac2d1e49ea98bebd81dc838d94f5da916ecb8974d22cf9e036c82229"), looks := true }, kinds := [], alts := [], laidByText := true, laidKinds := [.data, .data, .data, .data, .data, .data, .pinned], laidTests := true, laidLooks := .later }
def DriveTalksCardSaid : Prop := Claim7.holds Tryz.pinned (.plain (OpenSpec.ofChange driveTalksSpec)) driveTalksCard

/-- THE TIED CARD OF 'skaldlaw39.DriveDone'. -/
def driveDoneCard : Claim7 := { stood := { row := driveDoneRow, standIns := [], harness := (true, "5820bba6ac2d1e49ea98bebd81dc838d94f5da916ecb8974d22cf9e036c82229"), looks := true }, kinds := [], alts := [], laidByText := true, laidKinds := [.data, .data, .data, .data, .data, .data, .pinned], laidTests := true, laidLooks := .later }
def DriveDoneCardSaid : Prop := Claim7.holds Tryz.pinned (.plain (OpenSpec.ofChange driveDoneSpec)) driveDoneCard

/-- THE TIED CARD OF 'skaldlaw39.DriveOthers'. -/
def driveOthersCard : Claim7 := { stood := { row := driveOthersRow, standIns := [], harness := (true, "5820bba6ac2d1e49ea98bebd81dc838d94f5da916ecb8974d22cf9e036c82229"), looks := true }, kinds := [], alts := [], laidByText := true, laidKinds := [.data, .data, .data, .data, .data, .data, .pinned], laidTests := true, laidLooks := .later }
def DriveOthersCardSaid : Prop := Claim7.holds Tryz.pinned (.plain (OpenSpec.ofChange driveOthersSpec)) driveOthersCard

/-- THE TIED CARD OF 'skaldlaw39.DriveNil'. -/
def driveNilCard : Claim7 := { stood := { row := driveNilRow, standIns := [], harness := (true, "5820bba6ac2d1e49ea98bebd81dc838d94f5da916ecb8974d22cf9e036c82229"), looks := true }, kinds := [], alts := [], laidByText := true, laidKinds := [.data, .data, .data, .data, .data, .data, .pinned], laidTests := true, laidLooks := .later }
def DriveNilCardSaid : Prop := Claim7.holds Tryz.pinned (.plain (OpenSpec.ofChange driveNilSpec)) driveNilCard

/-- THE SECOND FORM's CARD OF 'skaldlaw39.DriveServes'. -/
def driveServesUptoCard : Claim7 := { stood := { row := driveServesUptoRow, standIns := [], harness := (true, "5820bba6ac2d1e49ea98bebd81dc838d94f5da916ecb8974d22cf9e036c82229"), looks := true }, kinds := [], alts := [], laidByText := true, laidKinds := [.data, .data, .data, .data, .data, .data, .pinned], laidTests := true, laidLooks := .later }
def DriveServesUptoCardSaid : Prop := Claim7.holds Tryz.pinned (.plain (OpenSpec.upto driveServesSpec)) driveServesUptoCard

/-- THE SECOND FORM's CARD OF 'skaldlaw39.DriveEnds'. -/
def driveEndsUptoCard : Claim7 := { stood := { row := driveEndsUptoRow, standIns := [], harness := (true, "5820bba6ac2d1e49ea98bebd81dc838d94f5da916ecb8974d22cf9e036c82229"), looks := true }, kinds := [], alts := [], laidByText := true, laidKinds := [.data, .data, .data, .data, .data, .data, .pinned], laidTests := true, laidLooks := .later }
def DriveEndsUptoCardSaid : Prop := Claim7.holds Tryz.pinned (.plain (OpenSpec.upto driveEndsSpec)) driveEndsUptoCard

/-- THE SECOND FORM's CARD OF 'skaldlaw39.DriveTalks'. -/
def driveTalksUptoCard : Claim7 := { stood := { row := driveTalksUptoRow, standIns := [], harness := (true, "5820bba6ac2d1e49ea98bebd81dc838d94f5da916ecb8974d22cf9e036c82229"), looks := true }, kinds := [], alts := [], laidByText := true, laidKinds := [.data, .data, .data, .data, .data, .data, .pinned], laidTests := true, laidLooks := .later }
def DriveTalksUptoCardSaid : Prop := Claim7.holds Tryz.pinned (.plain (OpenSpec.upto driveTalksSpec)) driveTalksUptoCard

/-- THE SECOND FORM's CARD OF 'skaldlaw39.DriveDone'. -/
def driveDoneUptoCard : Claim7 := { stood := { row := driveDoneUptoRow, standIns := [], harness := (true, "5820bba6ac2d1e49ea98bebd81dc838d94f5da916ecb8974d22cf9e036c82229"), looks := true }, kinds := [], alts := [], laidByText := true, laidKinds := [.data, .data, .data, .data, .data, .data, .pinned], laidTests := true, laidLooks := .later }
def DriveDoneUptoCardSaid : Prop := Claim7.holds Tryz.pinned (.plain (OpenSpec.upto driveDoneSpec)) driveDoneUptoCard

/-- THE SECOND FORM's CARD OF 'skaldlaw39.DriveOthers'. -/
def driveOthersUptoCard : Claim7 := { stood := { row := driveOthersUptoRow, standIns := [], harness := (true, "5820bba6ac2d1e49ea98bebd81dc838d94f5da916ecb8974d22cf9e036c82229"), looks := true }, kinds := [], alts := [], laidByText := true, laidKinds := [.data, .data, .data, .data, .data, .data, .pinned], laidTests := true, laidLooks := .later }
def DriveOthersUptoCardSaid : Prop := Claim7.holds Tryz.pinned (.plain (OpenSpec.upto driveOthersSpec)) driveOthersUptoCard

/-- THE SECOND FORM's CARD OF 'skaldlaw39.DriveNil'. -/
def driveNilUptoCard : Claim7 := { stood := { row := driveNilUptoRow, standIns := [], harness := (true, "5820bba6ac2d1e49ea98bebd81dc838d94f5da916ecb8974d22cf9e036c82229"), looks := true }, kinds := [], alts := [], laidByText := true, laidKinds := [.data, .data, .data, .data, .data, .data, .pinned], laidTests := true, laidLooks := .later }
def DriveNilUptoCardSaid : Prop := Claim7.holds Tryz.pinned (.plain (OpenSpec.upto driveNilSpec)) driveNilUptoCard
end Rows
end Go.Proofs.YtbgnoibellfojaaGreatDoor
