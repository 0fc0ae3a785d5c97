/- A closed fact of the statement InferBehind. Conditions: none. -/
import Derived.Test.YtnpoohbeicakkaaGreatDoorZBH
import Derived.Test.YtnpoohbeicakkaaGreatDoorZBI
import Derived.Test.YtnpoohbeicakkaaGreatDoorZBJ
import Derived.Test.YtnpoohbeicakkaaGreatDoorZBK
import Derived.Test.YtnpoohbeicakkaaGreatDoorZBL
import Derived.Test.YtnpoohbeicakkaaGreatDoorZBM
set_option linter.unusedVariables false
set_option linter.unusedSimpArgs false
set_option maxRecDepth 100000
namespace Go.Proofs.YtnpoohbeicakkaaGreatDoor
open Go
namespace inferBehind
open Go.ChangeShapes Go.WideShapes Go.ChangeAt Go.RowKit
theorem closed:joinedFacts Tryz.prog 5 Tryz.f5 (OpenSpec.ofChange Rows.inferBehindSpec).bare Rows.inferBehindRow=true:=by
 unfold joinedFacts;rw[q1,q2,q3,q4,q5,q6];kernel_rfl
end inferBehind
end Go.Proofs.YtnpoohbeicakkaaGreatDoor
