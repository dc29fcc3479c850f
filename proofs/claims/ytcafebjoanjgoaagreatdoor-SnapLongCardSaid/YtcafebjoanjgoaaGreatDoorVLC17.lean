/- Lemmas for the claim (part 17); no condition of its own. -/
import Derived.Test.YtcafebjoanjgoaaGreatDoorVLC09
set_option linter.all false
set_option linter.unusedVariables false
set_option linter.unusedSimpArgs false
set_option linter.unnecessarySimpa false
set_option linter.all false
set_option maxRecDepth 1000000
set_option maxHeartbeats 0
namespace Go.Proofs.YtcafebjoanjgoaaGreatDoor
open Go Go.X Go.Y
theorem pC7 (m : Nat) : okR (evC PG DD 999998 FCC (csb (csb bodyL)) (EB m 7 (.ofNat 3)) [] S0) = true := by kernel_rfl
end Go.Proofs.YtcafebjoanjgoaaGreatDoor
