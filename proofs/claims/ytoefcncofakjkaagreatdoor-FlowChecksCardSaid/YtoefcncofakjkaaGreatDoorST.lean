/- The environment of the calls of closed data. Conditions: none. -/
import Derived.Test.YtoefcncofakjkaaGreatDoorCA
import Derived.Test.YtoefcncofakjkaaGreatDoorTA
import Derived.Test.YtoefcncofakjkaaGreatDoorProg
set_option linter.unusedVariables false
set_option maxRecDepth 100000
namespace Go.Proofs.YtoefcncofakjkaaGreatDoor
open Go Zv Zv.Ab
noncomputable def TE:Env:=⟨Tryz.prog,GG⟩
theorem mixed:TE.P.follows .mixedOrders=true:=by kernel_rfl
end Go.Proofs.YtoefcncofakjkaaGreatDoor
