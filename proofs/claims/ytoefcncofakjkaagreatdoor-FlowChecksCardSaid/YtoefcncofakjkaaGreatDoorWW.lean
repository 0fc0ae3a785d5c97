/- A closed fact of the statement FlowChecks. Conditions: none. -/
import Derived.Test.YtoefcncofakjkaaGreatDoorCards
import Derived.Test.YtoefcncofakjkaaGreatDoorTie
import Derived.Test.YtoefcncofakjkaaGreatDoorWQ
import Derived.Test.YtoefcncofakjkaaGreatDoorWR
import Derived.Test.YtoefcncofakjkaaGreatDoorWS
import Derived.Test.YtoefcncofakjkaaGreatDoorWT
import Derived.Test.YtoefcncofakjkaaGreatDoorWU
import Derived.Test.YtoefcncofakjkaaGreatDoorWV
import Derived.WalkKit
import Derived.ProofKit
import Derived.OpenShut
import Derived.LaidMore
import Derived.Deep.DeepHandedRow
import Derived.Deep.DeepWitnessRowRef
set_option linter.unusedVariables false
set_option linter.unusedSimpArgs false
set_option maxRecDepth 100000
namespace Go.Proofs.YtoefcncofakjkaaGreatDoor
open Go
namespace flowChecks
open Go.ChangeShapes Go.WideShapes Go.ChangeAt Go.RowKit
theorem closed:joinedFacts Tryz.prog 3 Tryz.f3 (OpenSpec.ofChange Rows.flowChecksSpec).bare Rows.flowChecksRow=true:=by
 unfold joinedFacts
 rw [q1,q2,q3,q4,q5,q6]
 kernel_rfl
end flowChecks
end Go.Proofs.YtoefcncofakjkaaGreatDoor
