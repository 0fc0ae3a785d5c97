/- A closed fact of the statement InferAsks. Conditions: none. -/
import Derived.Test.YtnpoohbeicakkaaGreatDoorCards
import Derived.Test.YtnpoohbeicakkaaGreatDoorTie
import Derived.WalkKit
import Derived.ProofKit
import Derived.OpenShut
import Derived.LaidMore
import Derived.Deep.DeepHandedRow
import Derived.Deep.DeepWitnessRowRef
set_option linter.unusedVariables false
set_option linter.unusedSimpArgs false
set_option maxRecDepth 100000
namespace Go.Proofs.YtnpoohbeicakkaaGreatDoor
open Go
namespace inferAsks
open Go.ChangeShapes Go.WideShapes Go.ChangeAt Go.RowKit
theorem q5:(Tryz.prog.mayEnter)=true:=by kernel_rfl
end inferAsks
end Go.Proofs.YtnpoohbeicakkaaGreatDoor
