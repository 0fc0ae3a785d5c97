/- The statement InferLooks, untied: the call returns true. Conditions: the package-level variables that the row lists hold what the program's text lays (the card ties them). -/
import Derived.Test.YtnpoohbeicakkaaGreatDoorZBK
import Derived.Test.YtnpoohbeicakkaaGreatDoorZBR
set_option linter.unusedVariables false
set_option linter.unusedSimpArgs false
set_option maxRecDepth 100000
namespace Go.Proofs.YtnpoohbeicakkaaGreatDoor
open Go Zv
namespace inferLooks
open Go.ChangeShapes Go.WideShapes Go.ChangeAt Go.RowKit
theorem said:Rows.InferLooksSaid:=
 OpenClaim.holds_of_cond 3 Tryz.f3 rfl rfl rfl rfl rfl rfl rfl ⟨rfl,rfl,rfl,rfl,rfl⟩ rfl rfl rfl rfl rfl (by kernel_rfl) hfn3 closed
  (of_decide_eq_true (by kernel_rfl)) (by unfold Func.isWrapper;first|(rw[aS (by decide +kernel)];kernel_rfl)|(rw[aG (by decide +kernel)];exact⟨rfl,rfl⟩))
  (fun os Hf H enc _ F=>by rw[OpenClaim.pre_eq_preRow];exact lifted os Hf H enc F)
end inferLooks
end Go.Proofs.YtnpoohbeicakkaaGreatDoor
