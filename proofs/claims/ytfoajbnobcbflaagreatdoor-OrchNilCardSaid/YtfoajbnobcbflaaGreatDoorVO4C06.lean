/- Lemmas for the claim (part 6); no condition of its own. -/
import Derived.Test.YtfoajbnobcbflaaGreatDoorVO4C05
set_option linter.all false
set_option linter.unusedVariables false
set_option linter.unusedSimpArgs false
set_option linter.unnecessarySimpa false
set_option linter.all false
set_option maxRecDepth 1000000
set_option maxHeartbeats 0
namespace Go.Proofs.YtfoajbnobcbflaaGreatDoor
open Go Go.X Go.Y
noncomputable def GH : CH := [(1, .glob [.v (.int .i64 0), .v (.int .i64 1), .v (.int .i64 3), .v (.int .i64 2)]), (0, .glob [.v .nilFunc, .fn 342 [] [], .fn 343 [] [], .fn 344 [] []])]
theorem e5 : outV (runC PG [] 1000000 5 [] ⟨[], [GH], 1000, []⟩) = some (.bool true) := by kernel_rfl
end Go.Proofs.YtfoajbnobcbflaaGreatDoor
