/- A closed fact of the statement InferGrow. Conditions: none. -/
import Derived.Test.YtnpoohbeicakkaaGreatDoorZBI
import Derived.Test.YtnpoohbeicakkaaGreatDoorZBJ
import Derived.Test.YtnpoohbeicakkaaGreatDoorZBK
import Derived.Test.YtnpoohbeicakkaaGreatDoorZBL
import Derived.Test.YtnpoohbeicakkaaGreatDoorZBM
import Derived.Test.YtnpoohbeicakkaaGreatDoorZBN
set_option linter.unusedVariables false
set_option linter.unusedSimpArgs false
set_option maxRecDepth 100000
namespace Go.Proofs.YtnpoohbeicakkaaGreatDoor
open Go
namespace inferGrow
open Go.ChangeShapes Go.WideShapes Go.ChangeAt Go.RowKit
theorem closed:joinedFacts Tryz.prog 9 Tryz.f9 (OpenSpec.ofChange Rows.inferGrowSpec).bare Rows.inferGrowRow=true:=by
 unfold joinedFacts;rw[q1,q2,q3,q4,q5,q6];kernel_rfl
end inferGrow
end Go.Proofs.YtnpoohbeicakkaaGreatDoor
