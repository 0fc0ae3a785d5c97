/- What the functions come to. -/
import Derived.Test.YtblbgjfkbcdlfaaGreatDoorChecked
import Derived.KernelRfl
import Derived.Test.YtblbgjfkbcdlfaaGreatDoorKJ
set_option linter.unusedVariables false
set_option maxRecDepth 100000
namespace Go.Proofs.YtblbgjfkbcdlfaaGreatDoor
open Go Iv
def g0 : List D := [.sl false 4 [.str [105, 110, 105, 110], .str [105, 48, 105, 110, 105, 110], .str [105, 110, 105, 48, 105, 110], .str [105, 110, 105, 110, 105, 110]]]
def g1 : List D := [.sl false 3 [.str [107, 48, 107, 110, 105, 110], .str [107, 110, 107, 48, 105, 110], .str [107, 110, 107, 110, 105, 110]]]
def g2 : List D := []
def g3 : List D := []
def TryzG : List (Nat × List D) := [(0, g0), (1, g1), (2, g2), (3, g3)]
noncomputable def TryzE : Env := ⟨Tryz.prog, TryzG⟩

def q0 : D → Option (Bool) := Sh.gd .bool
def q1 : D → Option (((Int × Int × Int × Int × Int × Int × Int × Unit) × Int × Unit)) := Sh.gd (.tup [(.agg [(.int .i64), (.int .i64), (.int .i64), (.int .i64), (.int .i64), (.int .i64), (.int .i64)]), (.int .i64)])
def q2 : D → Option ((Int × Int × Int × Int × Int × Unit)) := Sh.gd (.agg [(.int .i64), (.int .i64), (.int .i64), (.int .i64), (.int .i64)])
def q3 : D → Option (((Int × Int × Int × Int × Int × Unit) × Int × Unit)) := Sh.gd (.tup [(.agg [(.int .i64), (.int .i64), (.int .i64), (.int .i64), (.int .i64)]), (.int .i64)])
def q4 : D → Option (Int) := Sh.gd (.int .i64)
def q5 : D → Option ((Int × Int × Int × Unit)) := Sh.gd (.tup [(.int .i64), (.int .i64), (.int .i64)])
def q6 : D → Option ((D × D × Unit)) := Sh.gd (.agg [.fz, .fz])
def q7 : D → Option ((Int × Int × Unit)) := Sh.gd (.tup [(.int .i64), (.int .i64)])
def q8 : D → Option ((D × D × Int × Unit)) := Sh.gd (.agg [.fz, .fz, (.int .i64)])
def q9 : D → Option (((Int × Int × Unit) × Int × Int × Unit)) := Sh.gd (.tup [(.agg [(.int .i64), (.int .i64)]), (.int .i64), (.int .i64)])
def q10 : D → Option ((Int × Int × Int × Int × Int × Int × Int × Unit)) := Sh.gd (.agg [(.int .i64), (.int .i64), (.int .i64), (.int .i64), (.int .i64), (.int .i64), (.int .i64)])
def q11 : D → Option ((Bool × Int × Unit)) := Sh.gd (.tup [.bool, (.int .i64)])
def q12 : D → Option (List UInt8) := Sh.gd .str
def q13 : D → Option (Int) := Sh.gd (.int .u8)
def q14 : D → Option ((Int × Int × Int × Int × Int × Int × Int × Int × Int × Int × Int × Int × Int × Int × Int × Int × Int × Unit)) := Sh.gd (.agg [(.int .i64), (.int .u8), (.int .u8), (.int .u8), (.int .u8), (.int .u8), (.int .u8), (.int .u8), (.int .u8), (.int .u8), (.int .u8), (.int .u8), (.int .u8), (.int .u8), (.int .u8), (.int .u8), (.int .u8)])
def q15 : D → Option ((Int × Int × Int × Int × Int × Int × Int × Int × Unit)) := Sh.gd (.agg [(.int .u8), (.int .u8), (.int .u8), (.int .u8), (.int .u8), (.int .u8), (.int .u8), (.int .u8)])
def q16 : D → Option (((List UInt8 × D × D × D × D × Unit) × Int × Unit)) := Sh.gd (.tup [(.agg [.str, .fz, .fz, .fz, .fz]), (.int .i64)])
def q17 : D → Option ((Int × Int × Bool × Bool × Unit)) := Sh.gd (.tup [(.int .i64), (.int .i64), .bool, .bool])
def q18 : D → Option ((Int × Int × Unit)) := Sh.gd (.agg [(.int .i64), (.int .i64)])
def q19 : D → Option (D) := Sh.gd .fz
def q20 : D → Option ((Bool × Bool × Unit)) := Sh.gd (.tup [.bool, .bool])
def q21 : D → Option ((List UInt8 × D × D × D × D × Unit)) := Sh.gd (.agg [.str, .fz, .fz, .fz, .fz])
def q22 : D → Option ((D × Bool × Unit)) := Sh.gd (.tup [.any, .bool])
def q23 : D → Option ((Int × Int × Int × Int × D × Unit)) := Sh.gd (.agg [(.int .i64), (.int .i64), (.int .i64), (.int .i64), .fz])
def q24 : D → Option (((Int × Int × Int × Int × D × Unit) × Int × Unit)) := Sh.gd (.tup [(.agg [(.int .i64), (.int .i64), (.int .i64), (.int .i64), .fz]), (.int .i64)])
def q25 : D → Option ((D × Int × Unit)) := Sh.gd (.tup [.fz, (.int .i64)])
def q26 : D → Option ((Unit)) := Sh.gd (.tup [])
def q27 : D → Option (((Int × Int × Int × Int × D × Unit) × (Int × Int × Int × Int × D × Unit) × Int × Unit)) := Sh.gd (.tup [(.agg [(.int .i64), (.int .i64), (.int .i64), (.int .i64), .fz]), (.agg [(.int .i64), (.int .i64), (.int .i64), (.int .i64), .fz]), (.int .i64)])
def q28 : D → Option ((Int × Int × Unit)) := Sh.gd (.tup [(.int .i32), (.int .i64)])
def q29 : D → Option ((Int × Bool × Unit)) := Sh.gd (.tup [(.int .i64), .bool])
def q30 : D → Option ((Int × Int × Unit)) := Sh.gd (.agg [(.int .u8), (.int .u8)])
def q31 : D → Option (Int) := Sh.gd (.int .u64)
def q32 : D → Option ((Int × Int × Unit)) := Sh.gd (.tup [(.int .u64), (.int .u64)])
end Go.Proofs.YtblbgjfkbcdlfaaGreatDoor
