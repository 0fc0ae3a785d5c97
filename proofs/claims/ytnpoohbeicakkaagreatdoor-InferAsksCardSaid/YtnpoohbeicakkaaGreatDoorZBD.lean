/- What the calls of closed data stand on. Conditions: none. -/
import Derived.Test.YtnpoohbeicakkaaGreatDoorZAO
set_option linter.unusedVariables false
set_option maxRecDepth 100000
namespace Go.Proofs.YtnpoohbeicakkaaGreatDoor
open Go Zv Zv.Ab
noncomputable def TE:Env:=⟨Tryz.prog,GG⟩
theorem mixed:TE.P.follows .mixedOrders=true:=by kernel_rfl
def K(f:Nat)(a:List D)(d:D):Prop:=callable TE.P f=true∧zJ TE f a d∧d.flat=true
theorem kf{f:Nat}{a:List D}{d:D}{kt:List (Nat×List (List D×D))}(hk:lAll (fun f l=>zM TE f l) id kt)(hc:callable TE.P f=true:=by kernel_rfl)(h:runs ⟨TP TE.P,TE.G,mGet [],kGet kt,lget []⟩ 100000 60 f a d=true:=by kernel_rfl)(hf:d.flat=true:=by rfl):K f a d:=pure_of_runs (pok0 (X:=[]) mixed hk trivial) hc h hf
theorem bb:tAll (BodyQ Tryz.prog) Zv.TT id:=tS_ok (by kernel_rfl)
def q0:D:=(.iptr [bF,bF,bF,bF,bF,bF,bF,bF,bF,bF,bF,bF,bF,bF,bF,bF,bF,bF,bF,bF,bF,bF,bF,bF,bF,bF,bF,bF,bF,bF,bF,bF,bF,bF,bF,bF,bF,bF,bF,bF,bF,bF,bF,bF,bF,bT,bF,bF,bT,bT,bT,bT,bT,bT,bT,bT,bT,bT,bF,bF,bF,bF,bF,bF,bF,bF,bF,bF,bF,bF,bF,bF,bF,bF,bF,bF,bF,bF,bF,bF,bF,bF,bF,bF,bF,bF,bF,bF,bF,bF,bF,bF,bF,bF,bF,bF,bF,bT,bT,bT,bT,bT,bT,bT,bT,bT,bT,bT,bT,bT,bT,bT,bT,bT,bT,bT,bT,bT,bT,bT,bT,bT,bT,bF,bF,bF,bF,bF,bF,bF,bF,bF,bF,bF,bF,bF,bF,bF,bF,bF,bF,bF,bF,bF,bF,bF,bF,bF,bF,bF,bF,bF,bF,bF,bF,bF,bF,bF,bF,bF,bF,bF,bF,bF,bF,bF,bF,bF,bF,bF,bF,bF,bF,bF,bF,bF,bF,bF,bF,bF,bF,bF,bF,bF,bF,bF,bF,bF,bF,bF,bF,bF,bF,bF,bF,bF,bF,bF,bF,bF,bF,bF,bF,bF,bF,bF,bF,bF,bF,bF,bF,bF,bF,bF,bF,bF,bF,bF,bF,bF,bF,bF,bF,bF,bF,bF,bF,bF,bF,bF,bF,bF,bF,bF,bF,bF,bF,bF,bF,bF,bF,bF,bF,bF,bF,bF,bF,bF,bF,bF,bF,bF,bF,bF,bF,bF] 0)
def q1:D:=(.agg [(.sl true 3 [(.str [108,111,119]),(.str [115,116,97,102,102]),(.str [104,105,103,104])]),(.sl true 3 [(.int .u8 7),(.int .u8 6),(.int .u8 4)])])
def q2:D:=(.agg [(.sl true 3 [(.str [108,111,119]),(.str [115,116,97,102,102]),(.str [104,105,103,104])]),(.sl true 3 [(.int .u8 7),(.int .u8 6),(.int .u8 4)]),(i 0)])
def q3:D:=(.agg [(i 1),(i 1),(i 1),(i 0),(i 2)])
def q4:D:=(.agg [(i 1),(i 0),(i 0),(i 0),(i 0)])
def q5:D:=(.tup [(i 1),(i 0),bT,bT])
def q6:D:=(.agg [(.sl true 3 [(.str [108,111,119]),(.str [115,116,97,102,102]),(.str [104,105,103,104])]),(.sl true 3 [(.int .u8 7),(.int .u8 6),(.int .u8 4)]),(i 1),(i 1),(i 1),(i 0),(i 2),(i 0),(i 0),(i 0),(i 0),(i 0),(i 0)])
def q7:D:=(.sl false 1 [(i 1),(i 1),(i 1),(i 0),(i 2)])
def q8:D:=(.agg [(i 1),(i 0),(i 0),(i 0),(i 1)])
def q9:D:=(.tup [(i 1),(i 1),bT,bT])
def q10:D:=(.agg [(.sl true 3 [(.str [108,111,119]),(.str [115,116,97,102,102]),(.str [104,105,103,104])]),(.sl true 3 [(.int .u8 7),(.int .u8 6),(.int .u8 4)]),(i 1),(i 1),(i 1),(i 0),(i 2),(i 1),(i 0),(i 0),(i 0),(i 0),(i 0)])
def q11:D:=(.agg [(i 1),(i 0),(i 0),(i 0),(i 2)])
def q12:D:=(.tup [(i 1),(i 1),bT,bF])
def q13:D:=(.agg [(.sl true 3 [(.str [108,111,119]),(.str [115,116,97,102,102]),(.str [104,105,103,104])]),(.sl true 3 [(.int .u8 7),(.int .u8 6),(.int .u8 4)]),(i 1),(i 1),(i 1),(i 0),(i 2),(i 1),(i 1),(i 1),(i 0),(i 2),(i 0)])
end Go.Proofs.YtnpoohbeicakkaaGreatDoor
