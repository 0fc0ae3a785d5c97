/- A closed fact of the statement InferLooks. Conditions: none. -/
import Derived.Test.YtnpoohbeicakkaaGreatDoorZBL
import Derived.Test.YtnpoohbeicakkaaGreatDoorZBM
import Derived.Test.YtnpoohbeicakkaaGreatDoorZBN
import Derived.Test.YtnpoohbeicakkaaGreatDoorZBO
import Derived.Test.YtnpoohbeicakkaaGreatDoorZBP
import Derived.Test.YtnpoohbeicakkaaGreatDoorZBQ
set_option linter.unusedVariables false
set_option linter.unusedSimpArgs false
set_option maxRecDepth 100000
namespace Go.Proofs.YtnpoohbeicakkaaGreatDoor
open Go
namespace inferLooks
open Go.ChangeShapes Go.WideShapes Go.ChangeAt Go.RowKit
theorem closed:joinedFacts Tryz.prog 3 Tryz.f3 (OpenSpec.ofChange Rows.inferLooksSpec).bare Rows.inferLooksRow=true:=by
 unfold joinedFacts;rw[q1,q2,q3,q4,q5,q6];kernel_rfl
end inferLooks
end Go.Proofs.YtnpoohbeicakkaaGreatDoor
