/- A closed fact of the statement InferAsks. Conditions: none. -/
import Derived.Test.YtnpoohbeicakkaaGreatDoorZBL
import Derived.Test.YtnpoohbeicakkaaGreatDoorZBM
import Derived.Test.YtnpoohbeicakkaaGreatDoorZBN
import Derived.Test.YtnpoohbeicakkaaGreatDoorZBO
import Derived.Test.YtnpoohbeicakkaaGreatDoorZBP
import Derived.Test.YtnpoohbeicakkaaGreatDoorZBQ
set_option linter.unusedVariables false
set_option linter.unusedSimpArgs false
set_option maxRecDepth 100000
namespace Go.Proofs.YtnpoohbeicakkaaGreatDoor
open Go
namespace inferAsks
open Go.ChangeShapes Go.WideShapes Go.ChangeAt Go.RowKit
theorem closed:joinedFacts Tryz.prog 7 Tryz.f7 (OpenSpec.ofChange Rows.inferAsksSpec).bare Rows.inferAsksRow=true:=by
 unfold joinedFacts;rw[q1,q2,q3,q4,q5,q6];kernel_rfl
end inferAsks
end Go.Proofs.YtnpoohbeicakkaaGreatDoor
