/- A closed fact of the statement InferChecks. Conditions: none. -/
import Derived.Test.YtnpoohbeicakkaaGreatDoorCards
import Derived.Test.YtnpoohbeicakkaaGreatDoorTie
import Derived.Test.YtnpoohbeicakkaaGreatDoorWQ
import Derived.Test.YtnpoohbeicakkaaGreatDoorWR
import Derived.Test.YtnpoohbeicakkaaGreatDoorWS
import Derived.Test.YtnpoohbeicakkaaGreatDoorWT
import Derived.Test.YtnpoohbeicakkaaGreatDoorWU
import Derived.Test.YtnpoohbeicakkaaGreatDoorWV
import Derived.WalkKit
import Derived.ProofKit
import Derived.OpenShut
import Derived.LaidMore
import Derived.Deep.DeepHandedRow
import Derived.Deep.DeepWitnessRowRef
set_option linter.unusedVariables false
set_option linter.unusedSimpArgs false
set_option maxRecDepth 100000
namespace Go.Proofs.YtnpoohbeicakkaaGreatDoor
open Go
namespace inferChecks
open Go.ChangeShapes Go.WideShapes Go.ChangeAt Go.RowKit
theorem closed:joinedFacts Tryz.prog 6 Tryz.f6 (OpenSpec.ofChange Rows.inferChecksSpec).bare Rows.inferChecksRow=true:=by
 unfold joinedFacts
 rw [q1,q2,q3,q4,q5,q6]
 kernel_rfl
end inferChecks
end Go.Proofs.YtnpoohbeicakkaaGreatDoor
