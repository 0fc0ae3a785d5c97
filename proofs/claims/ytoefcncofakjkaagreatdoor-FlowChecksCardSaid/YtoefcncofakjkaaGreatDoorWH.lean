/- A closed fact of the statement FlowChecks' card. Conditions: none. -/
import Derived.Test.YtoefcncofakjkaaGreatDoorCards
import Derived.Test.YtoefcncofakjkaaGreatDoorTie
import Derived.WalkKit
import Derived.ProofKit
import Derived.OpenShut
import Derived.LaidMore
import Derived.Deep.DeepHandedRow
import Derived.Deep.DeepWitnessRowRef
set_option linter.unusedVariables false
set_option linter.unusedSimpArgs false
set_option maxRecDepth 100000
namespace Go.Proofs.YtoefcncofakjkaaGreatDoor
open Go
namespace flowChecks
open Go.ChangeShapes Go.WideShapes Go.ChangeAt Go.RowKit
theorem g2:false=Rows.flowChecksRow.goesBy Tryz.pinned.checked.prog:=by kernel_rfl
end flowChecks
end Go.Proofs.YtoefcncofakjkaaGreatDoor
