/- The statement FlowKnown's closed facts. Conditions: the package-level variables that the row lists hold what the program's text lays (the card ties them). -/
import Derived.Test.YtegkflfbpidipaaGreatDoorCards
import Derived.Test.YtegkflfbpidipaaGreatDoorTie
import Derived.WalkKit
import Derived.ProofKit
import Derived.OpenShut
import Derived.LaidMore
import Derived.Deep.DeepHandedRow
import Derived.Deep.DeepWitnessRowRef
set_option linter.unusedVariables false
set_option linter.unusedSimpArgs false
set_option maxRecDepth 100000
namespace Go.Proofs.YtegkflfbpidipaaGreatDoor
open Go
namespace flowKnown
open Go.ChangeShapes Go.WideShapes Go.ChangeAt Go.RowKit

theorem closed : joinedFacts Tryz.prog 3 Tryz.f3 (OpenSpec.ofChange Rows.flowKnownSpec).bare Rows.flowKnownRow = true := by kernel_rfl
end flowKnown
end Go.Proofs.YtegkflfbpidipaaGreatDoor
