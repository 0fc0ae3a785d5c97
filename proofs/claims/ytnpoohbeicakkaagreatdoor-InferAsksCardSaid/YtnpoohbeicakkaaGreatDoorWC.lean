/- InferAsks: the call returns true. Conditions: variables az laid. -/
import Derived.Test.YtnpoohbeicakkaaGreatDoorZBS
import Derived.Test.YtnpoohbeicakkaaGreatDoorZBT
set_option linter.unusedVariables false
set_option linter.unusedSimpArgs false
set_option maxRecDepth 100000
namespace Go.Proofs.YtnpoohbeicakkaaGreatDoor
open Go Zv
namespace inferAsks
open Go.ChangeShapes Go.WideShapes Go.ChangeAt Go.RowKit
theorem plain(f:FuncId)(fn:Func)(hf:Tryz.pinned.checked.prog.funcNamed "invigilator/invigilatorlaw22.InferAsks" = some f)(Dz:Tryz.pinned.checked.prog.funcs[f]?=some fn):
  true=Tryz.pinned.checked.prog.looks []∧∀(j:Nat) t,fn.params[j]?=some t→Tryz.pinned.checked.prog.wantsStandIn t=false:=by
 obtain rfl:f=7:=Option.some.inj ((show Tryz.prog.funcNamed "invigilator/invigilatorlaw22.InferAsks" = some 7 by kernel_rfl).symm.trans hf) |>.symm
 obtain rfl:fn=Tryz.f7:=(Option.some.inj (hfn7.symm.trans Dz)).symm;refine⟨by kernel_rfl,fun j t ht=>?_⟩
 have Aa:(Tryz.f7.params.toList.all fun t=>!(Tryz.prog.wantsStandIn t))=true:=by kernel_rfl
 have:=cF.1 Aa t (by rw[Array.mem_toList_iff];exact Array.mem_of_getElem? ht)
 show Tryz.prog.wantsStandIn t=false;simpa using this
theorem card:Rows.InferAsksCardSaid:=
 Claim7.holds_tied_plain_at .later [] _ _ _ _ said (fun _ h=>by cases h) g1 (fun _ h=>by cases h) inferAsks_row_tie rfl ⟨rfl,rfl⟩ (by kernel_rfl) rfl plain g2
#print axioms card
end inferAsks
end Go.Proofs.YtnpoohbeicakkaaGreatDoor
