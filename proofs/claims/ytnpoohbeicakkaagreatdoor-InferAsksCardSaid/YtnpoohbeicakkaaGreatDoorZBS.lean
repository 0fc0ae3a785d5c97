/- InferAsks, untied: the call returns true. Conditions: variables az laid. -/
import Derived.Test.YtnpoohbeicakkaaGreatDoorZBK
import Derived.Test.YtnpoohbeicakkaaGreatDoorZBR
set_option linter.unusedVariables false
set_option linter.unusedSimpArgs false
set_option maxRecDepth 100000
namespace Go.Proofs.YtnpoohbeicakkaaGreatDoor
open Go Zv
namespace inferAsks
open Go.ChangeShapes Go.WideShapes Go.ChangeAt Go.RowKit
theorem said:Rows.InferAsksSaid:=
 OpenClaim.holds_of_cond 7 Tryz.f7 rfl rfl rfl rfl rfl rfl rfl ⟨rfl,rfl,rfl,rfl,rfl⟩ rfl rfl rfl rfl rfl (by kernel_rfl) hfn7 closed
  (of_decide_eq_true (by kernel_rfl)) (by unfold Func.isWrapper;first|(rw[aS (by decide +kernel)];kernel_rfl)|(rw[aG (by decide +kernel)];exact⟨rfl,rfl⟩))
  (fun os Hf H enc _ F=>by rw[OpenClaim.pre_eq_preRow];exact lifted os Hf H enc F)
end inferAsks
end Go.Proofs.YtnpoohbeicakkaaGreatDoor
