/- The statement InferSites's closed facts. Conditions: the package-level variables that the row lists hold what the program's text lays (the card ties them). -/
import Derived.Test.YtnpoohbeicakkaaGreatDoorCards
import Derived.Test.YtnpoohbeicakkaaGreatDoorTie
import Derived.Test.YtnpoohbeicakkaaGreatDoorQA
import Derived.Test.YtnpoohbeicakkaaGreatDoorQB
import Derived.Test.YtnpoohbeicakkaaGreatDoorQC
import Derived.Test.YtnpoohbeicakkaaGreatDoorQD
import Derived.Test.YtnpoohbeicakkaaGreatDoorQE
import Derived.Test.YtnpoohbeicakkaaGreatDoorQF
import Derived.WalkKit
import Derived.ProofKit
import Derived.OpenShut
import Derived.LaidMore
import Derived.Deep.DeepHandedRow
import Derived.Deep.DeepWitnessRowRef
set_option linter.unusedVariables false
set_option linter.unusedSimpArgs false
set_option maxRecDepth 100000
namespace Go.Proofs.YtnpoohbeicakkaaGreatDoor
open Go
namespace inferSites
open Go.ChangeShapes Go.WideShapes Go.ChangeAt Go.RowKit
theorem closed : joinedFacts Tryz.prog 8 Tryz.f8 (OpenSpec.ofChange Rows.inferSitesSpec).bare Rows.inferSitesRow = true := by
  unfold joinedFacts
  rw [q1, q2, q3, q4, q5, q6]
  kernel_rfl
end inferSites
end Go.Proofs.YtnpoohbeicakkaaGreatDoor
