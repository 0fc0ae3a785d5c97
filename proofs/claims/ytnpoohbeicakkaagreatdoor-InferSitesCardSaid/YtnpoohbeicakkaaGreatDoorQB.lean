/- The statement InferSites's closed facts. Conditions: the package-level variables that the row lists hold what the program's text lays (the card ties them). -/
import Derived.Test.YtnpoohbeicakkaaGreatDoorCards
import Derived.Test.YtnpoohbeicakkaaGreatDoorTie
import Derived.WalkKit
import Derived.ProofKit
import Derived.OpenShut
import Derived.LaidMore
import Derived.Deep.DeepHandedRow
import Derived.Deep.DeepWitnessRowRef
set_option linter.unusedVariables false
set_option linter.unusedSimpArgs false
set_option maxRecDepth 100000
namespace Go.Proofs.YtnpoohbeicakkaaGreatDoor
open Go
namespace inferSites
open Go.ChangeShapes Go.WideShapes Go.ChangeAt Go.RowKit
theorem q2 : (Rows.inferSitesRow.unfollowed == Tryz.prog.unfollowed 8) = true := by kernel_rfl
end inferSites
end Go.Proofs.YtnpoohbeicakkaaGreatDoor
