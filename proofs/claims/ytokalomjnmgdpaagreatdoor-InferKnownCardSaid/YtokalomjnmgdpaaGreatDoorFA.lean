/- Calls that are known. Conditions: none. -/
import Derived.Test.YtokalomjnmgdpaaGreatDoorTB
set_option linter.unusedVariables false
set_option maxRecDepth 100000
namespace Go.Proofs.YtokalomjnmgdpaaGreatDoor
open Go Zv
def a0 : List D := [(.str [97, 98, 99, 100, 101, 102, 103, 104, 105, 106, 107, 108, 109, 110, 111, 112, 113, 114, 115, 116, 117, 118, 119, 120, 121, 122, 48, 49, 50, 51, 52, 53, 54, 55, 56, 57, 45])]
def d0 : D := (.tup [(.agg [(.bool false), (.bool false), (.bool false), (.bool false), (.bool false), (.bool false), (.bool false), (.bool false), (.bool false), (.bool false), (.bool false), (.bool false), (.bool false), (.bool false), (.bool false), (.bool false), (.bool false), (.bool false), (.bool false), (.bool false), (.bool false), (.bool false), (.bool false), (.bool false), (.bool false), (.bool false), (.bool false), (.bool false), (.bool false), (.bool false), (.bool false), (.bool false), (.bool false), (.bool false), (.bool false), (.bool false), (.bool false), (.bool false), (.bool false), (.bool false), (.bool false), (.bool false), (.bool false), (.bool false), (.bool false), (.bool true), (.bool false), (.bool false), (.bool true), (.bool true), (.bool true), (.bool true), (.bool true), (.bool true), (.bool true), (.bool true), (.bool true), (.bool true), (.bool false), (.bool false), (.bool false), (.bool false), (.bool false), (.bool false), (.bool false), (.bool false), (.bool false), (.bool false), (.bool false), (.bool false), (.bool false), (.bool false), (.bool false), (.bool false), (.bool false), (.bool false), (.bool false), (.bool false), (.bool false), (.bool false), (.bool false), (.bool false), (.bool false), (.bool false), (.bool false), (.bool false), (.bool false), (.bool false), (.bool false), (.bool false), (.bool false), (.bool false), (.bool false), (.bool false), (.bool false), (.bool false), (.bool false), (.bool true), (.bool true), (.bool true), (.bool true), (.bool true), (.bool true), (.bool true), (.bool true), (.bool true), (.bool true), (.bool true), (.bool true), (.bool true), (.bool true), (.bool true), (.bool true), (.bool true), (.bool true), (.bool true), (.bool true), (.bool true), (.bool true), (.bool true), (.bool true), (.bool true), (.bool true), (.bool false), (.bool false), (.bool false), (.bool false), (.bool false), (.bool false), (.bool false), (.bool false), (.bool false), (.bool false), (.bool false), (.bool false), (.bool false), (.bool false), (.bool false), (.bool false), (.bool false), (.bool false), (.bool false), (.bool false), (.bool false), (.bool false), (.bool false), (.bool false), (.bool false), (.bool false), (.bool false), (.bool false), (.bool false), (.bool false), (.bool false), (.bool false), (.bool false), (.bool false), (.bool false), (.bool false), (.bool false), (.bool false), (.bool false), (.bool false), (.bool false), (.bool false), (.bool false), (.bool false), (.bool false), (.bool false), (.bool false), (.bool false), (.bool false), (.bool false), (.bool false), (.bool false), (.bool false), (.bool false), (.bool false), (.bool false), (.bool false), (.bool false), (.bool false), (.bool false), (.bool false), (.bool false), (.bool false), (.bool false), (.bool false), (.bool false), (.bool false), (.bool false), (.bool false), (.bool false), (.bool false), (.bool false), (.bool false), (.bool false), (.bool false), (.bool false), (.bool false), (.bool false), (.bool false), (.bool false), (.bool false), (.bool false), (.bool false), (.bool false), (.bool false), (.bool false), (.bool false), (.bool false), (.bool false), (.bool false), (.bool false), (.bool false), (.bool false), (.bool false), (.bool false), (.bool false), (.bool false), (.bool false), (.bool false), (.bool false), (.bool false), (.bool false), (.bool false), (.bool false), (.bool false), (.bool false), (.bool false), (.bool false), (.bool false), (.bool false), (.bool false), (.bool false), (.bool false), (.bool false), (.bool false), (.bool false), (.bool false), (.bool false), (.bool false), (.bool false), (.bool false), (.bool false), (.bool false), (.bool false), (.bool false), (.bool false), (.bool false), (.bool false), (.bool false), (.bool false), (.bool false), (.bool false), (.bool false)]), (.bool true)])
theorem m0 : callable TE.P 125 = true ∧ PureC TE 125 a0 d0 ∧ d0.flat = true :=
  pure_of_runs (pok (E := TE) (ml := []) (kt := []) tt trivial mixed trivial) t125.1 (k := 100000) (n := 60) (by kernel_rfl) rfl
def a1 : List D := [(.str [108, 111, 119]), q0]
def d1 : D := (.str [])
theorem m1 : callable TE.P 127 = true ∧ PureC TE 127 a1 d1 ∧ d1.flat = true :=
  pure_of_runs (pok (E := TE) (ml := []) (kt := []) tt trivial mixed trivial) t127.1 (k := 100000) (n := 60) (by kernel_rfl) rfl
def a2 : List D := [(.str [115, 116, 97, 102, 102]), q0]
def d2 : D := (.str [])
theorem m2 : callable TE.P 127 = true ∧ PureC TE 127 a2 d2 ∧ d2.flat = true :=
  pure_of_runs (pok (E := TE) (ml := []) (kt := []) tt trivial mixed trivial) t127.1 (k := 100000) (n := 60) (by kernel_rfl) rfl
def a3 : List D := [(.str [104, 105, 103, 104]), q0]
def d3 : D := (.str [])
theorem m3 : callable TE.P 127 = true ∧ PureC TE 127 a3 d3 ∧ d3.flat = true :=
  pure_of_runs (pok (E := TE) (ml := []) (kt := []) tt trivial mixed trivial) t127.1 (k := 100000) (n := 60) (by kernel_rfl) rfl
def a4 : List D := [(.sl true 3 [(.str [108, 111, 119]), (.str [115, 116, 97, 102, 102]), (.str [104, 105, 103, 104])])]
def d4 : D := (.tup [(.int .i64 0), (.int .i64 0)])
theorem m4 : callable TE.P 31 = true ∧ PureC TE 31 a4 d4 ∧ d4.flat = true :=
  pure_of_runs (pok (E := TE) (ml := []) (kt := [(125, [(a0, d0)]), (127, [(a1, d1), (a2, d2), (a3, d3)])]) tt trivial mixed ⟨⟨m0, trivial⟩, ⟨⟨m1, ⟨m2, ⟨m3, trivial⟩⟩⟩, trivial⟩⟩) t31.1 (k := 100000) (n := 60) (by kernel_rfl) rfl
def a5 : List D := [(.iptr [(.sl true 3 [(.str [108, 111, 119]), (.str [115, 116, 97, 102, 102]), (.str [104, 105, 103, 104])]), (.sl true 3 [(.int .u8 7), (.int .u8 6), (.int .u8 4)])] 0)]
def d5 : D := (.agg [(.int .i64 3), (.int .u8 7), (.int .u8 6), (.int .u8 4), (.int .u8 0), (.int .u8 0), (.int .u8 0), (.int .u8 0), (.int .u8 0), (.int .u8 1), (.int .u8 3), (.int .u8 7), (.int .u8 0), (.int .u8 0), (.int .u8 0), (.int .u8 0), (.int .u8 0)])
theorem m5 : callable TE.P 33 = true ∧ PureC TE 33 a5 d5 ∧ d5.flat = true :=
  pure_of_runs (pok (E := TE) (ml := []) (kt := []) tt trivial mixed trivial) t33.1 (k := 100000) (n := 60) (by kernel_rfl) rfl
def a6 : List D := [(.agg [(.int .u8 1), (.int .u8 3), (.int .u8 7), (.int .u8 0), (.int .u8 0), (.int .u8 0), (.int .u8 0), (.int .u8 0)]), (.int .i64 3), (.int .i64 2), (.int .i64 2)]
def d6 : D := (.int .i64 2)
theorem m6 : callable TE.P 35 = true ∧ PureC TE 35 a6 d6 ∧ d6.flat = true :=
  pure_of_runs (pok (E := TE) (ml := []) (kt := []) tt trivial mixed trivial) t35.1 (k := 100000) (n := 60) (by kernel_rfl) rfl
def a7 : List D := [q1]
def d7 : D := (.tup [(.int .i64 0), (.int .i64 0)])
theorem m7 : callable TE.P 17 = true ∧ PureC TE 17 a7 d7 ∧ d7.flat = true :=
  pure_of_runs (pok (E := TE) (ml := []) (kt := [(31, [(a4, d4)]), (33, [(a5, d5)]), (35, [(a6, d6)])]) tt trivial mixed ⟨⟨m4, trivial⟩, ⟨⟨m5, trivial⟩, ⟨⟨m6, trivial⟩, trivial⟩⟩⟩) t17.1 (k := 100000) (n := 60) (by kernel_rfl) rfl
def a8 : List D := [(.str [109, 97, 114, 107, 115])]
def d8 : D := (.tup [(.int .i64 0), (.int .i64 4)])
theorem m8 : callable TE.P 76 = true ∧ PureC TE 76 a8 d8 ∧ d8.flat = true :=
  pure_of_runs (pok (E := TE) (ml := []) (kt := []) tt trivial mixed trivial) t76.1 (k := 100000) (n := 60) (by kernel_rfl) rfl
def a9 : List D := [(.iptr [(.str [109, 97, 114, 107, 115]), (.int .i64 0)] 0), (.int .i64 0)]
def d9 : D := (.int .i64 8)
theorem m9 : callable TE.P 106 = true ∧ PureC TE 106 a9 d9 ∧ d9.flat = true :=
  pure_of_runs (pok (E := TE) (ml := []) (kt := []) tt trivial mixed trivial) t106.1 (k := 100000) (n := 60) (by kernel_rfl) rfl
def a10 : List D := [(.iptr [(.str [109, 97, 114, 107, 115]), (.int .i64 1)] 0), (.int .i64 1)]
def d10 : D := (.int .i64 8)
theorem m10 : callable TE.P 106 = true ∧ PureC TE 106 a10 d10 ∧ d10.flat = true :=
  pure_of_runs (pok (E := TE) (ml := []) (kt := []) tt trivial mixed trivial) t106.1 (k := 100000) (n := 60) (by kernel_rfl) rfl
def a11 : List D := [(.iptr [(.str [109, 97, 114, 107, 115]), (.int .i64 2)] 0), (.int .i64 2)]
def d11 : D := (.int .i64 8)
theorem m11 : callable TE.P 106 = true ∧ PureC TE 106 a11 d11 ∧ d11.flat = true :=
  pure_of_runs (pok (E := TE) (ml := []) (kt := []) tt trivial mixed trivial) t106.1 (k := 100000) (n := 60) (by kernel_rfl) rfl
def a12 : List D := [(.iptr [(.str [109, 97, 114, 107, 115]), (.int .i64 3)] 0), (.int .i64 3)]
def d12 : D := (.int .i64 8)
theorem m12 : callable TE.P 106 = true ∧ PureC TE 106 a12 d12 ∧ d12.flat = true :=
  pure_of_runs (pok (E := TE) (ml := []) (kt := []) tt trivial mixed trivial) t106.1 (k := 100000) (n := 60) (by kernel_rfl) rfl
def a13 : List D := [(.iptr [(.str [109, 97, 114, 107, 115]), (.int .i64 4)] 0), (.int .i64 4)]
def d13 : D := (.int .i64 8)
theorem m13 : callable TE.P 106 = true ∧ PureC TE 106 a13 d13 ∧ d13.flat = true :=
  pure_of_runs (pok (E := TE) (ml := []) (kt := []) tt trivial mixed trivial) t106.1 (k := 100000) (n := 60) (by kernel_rfl) rfl
def a14 : List D := [(.agg [(.int .i64 1), (.int .i64 0), (.int .i64 0), (.int .i64 0), (.str [109, 97, 114, 107, 115])])]
def d14 : D := (.int .i64 0)
theorem m14 : callable TE.P 77 = true ∧ PureC TE 77 a14 d14 ∧ d14.flat = true :=
  pure_of_runs (pok (E := TE) (ml := []) (kt := [(106, [(a9, d9), (a10, d10), (a11, d11), (a12, d12), (a13, d13)])]) tt trivial mixed ⟨⟨m9, ⟨m10, ⟨m11, ⟨m12, ⟨m13, trivial⟩⟩⟩⟩⟩, trivial⟩) t77.1 (k := 100000) (n := 60) (by kernel_rfl) rfl
def a15 : List D := [q2, q3]
def d15 : D := (.int .i64 0)
theorem m15 : callable TE.P 79 = true ∧ PureC TE 79 a15 d15 ∧ d15.flat = true :=
  pure_of_runs (pok (E := TE) (ml := []) (kt := []) tt trivial mixed trivial) t79.1 (k := 100000) (n := 60) (by kernel_rfl) rfl
def a16 : List D := [q1, q3]
def d16 : D := (.int .i64 0)
theorem m16 : callable TE.P 47 = true ∧ PureC TE 47 a16 d16 ∧ d16.flat = true :=
  pure_of_runs (pok (E := TE) (ml := []) (kt := [(33, [(a5, d5)]), (17, [(a7, d7)]), (79, [(a15, d15)])]) tt trivial mixed ⟨⟨m5, trivial⟩, ⟨⟨m7, trivial⟩, ⟨⟨m15, trivial⟩, trivial⟩⟩⟩) t47.1 (k := 100000) (n := 60) (by kernel_rfl) rfl
def a17 : List D := [(.str [108, 105, 109, 105, 116])]
def d17 : D := (.tup [(.int .i64 0), (.int .i64 4)])
theorem m17 : callable TE.P 76 = true ∧ PureC TE 76 a17 d17 ∧ d17.flat = true :=
  pure_of_runs (pok (E := TE) (ml := []) (kt := []) tt trivial mixed trivial) t76.1 (k := 100000) (n := 60) (by kernel_rfl) rfl
end Go.Proofs.YtokalomjnmgdpaaGreatDoor
/- Calls that are known. Conditions: none. -/
set_option linter.unusedVariables false
set_option maxRecDepth 100000
namespace Go.Proofs.YtokalomjnmgdpaaGreatDoor
open Go Zv
def a18 : List D := [(.iptr [(.str [108, 105, 109, 105, 116]), (.int .i64 0)] 0), (.int .i64 0)]
def d18 : D := (.int .i64 8)
theorem m18 : callable TE.P 106 = true ∧ PureC TE 106 a18 d18 ∧ d18.flat = true :=
  pure_of_runs (pok (E := TE) (ml := []) (kt := []) tt trivial mixed trivial) t106.1 (k := 100000) (n := 60) (by kernel_rfl) rfl
def a19 : List D := [(.iptr [(.str [108, 105, 109, 105, 116]), (.int .i64 1)] 0), (.int .i64 1)]
def d19 : D := (.int .i64 8)
theorem m19 : callable TE.P 106 = true ∧ PureC TE 106 a19 d19 ∧ d19.flat = true :=
  pure_of_runs (pok (E := TE) (ml := []) (kt := []) tt trivial mixed trivial) t106.1 (k := 100000) (n := 60) (by kernel_rfl) rfl
def a20 : List D := [(.iptr [(.str [108, 105, 109, 105, 116]), (.int .i64 2)] 0), (.int .i64 2)]
def d20 : D := (.int .i64 8)
theorem m20 : callable TE.P 106 = true ∧ PureC TE 106 a20 d20 ∧ d20.flat = true :=
  pure_of_runs (pok (E := TE) (ml := []) (kt := []) tt trivial mixed trivial) t106.1 (k := 100000) (n := 60) (by kernel_rfl) rfl
def a21 : List D := [(.iptr [(.str [108, 105, 109, 105, 116]), (.int .i64 3)] 0), (.int .i64 3)]
def d21 : D := (.int .i64 8)
theorem m21 : callable TE.P 106 = true ∧ PureC TE 106 a21 d21 ∧ d21.flat = true :=
  pure_of_runs (pok (E := TE) (ml := []) (kt := []) tt trivial mixed trivial) t106.1 (k := 100000) (n := 60) (by kernel_rfl) rfl
def a22 : List D := [(.iptr [(.str [108, 105, 109, 105, 116]), (.int .i64 4)] 0), (.int .i64 4)]
def d22 : D := (.int .i64 8)
theorem m22 : callable TE.P 106 = true ∧ PureC TE 106 a22 d22 ∧ d22.flat = true :=
  pure_of_runs (pok (E := TE) (ml := []) (kt := []) tt trivial mixed trivial) t106.1 (k := 100000) (n := 60) (by kernel_rfl) rfl
def a23 : List D := [(.agg [(.int .i64 1), (.int .i64 0), (.int .i64 0), (.int .i64 0), (.str [108, 105, 109, 105, 116])])]
def d23 : D := (.int .i64 0)
theorem m23 : callable TE.P 77 = true ∧ PureC TE 77 a23 d23 ∧ d23.flat = true :=
  pure_of_runs (pok (E := TE) (ml := []) (kt := [(106, [(a18, d18), (a19, d19), (a20, d20), (a21, d21), (a22, d22)])]) tt trivial mixed ⟨⟨m18, ⟨m19, ⟨m20, ⟨m21, ⟨m22, trivial⟩⟩⟩⟩⟩, trivial⟩) t77.1 (k := 100000) (n := 60) (by kernel_rfl) rfl
def a24 : List D := [q2, q4]
def d24 : D := (.int .i64 0)
theorem m24 : callable TE.P 79 = true ∧ PureC TE 79 a24 d24 ∧ d24.flat = true :=
  pure_of_runs (pok (E := TE) (ml := []) (kt := []) tt trivial mixed trivial) t79.1 (k := 100000) (n := 60) (by kernel_rfl) rfl
def a25 : List D := [q1, q4]
def d25 : D := (.int .i64 0)
theorem m25 : callable TE.P 47 = true ∧ PureC TE 47 a25 d25 ∧ d25.flat = true :=
  pure_of_runs (pok (E := TE) (ml := []) (kt := [(33, [(a5, d5)]), (17, [(a7, d7)]), (79, [(a24, d24)])]) tt trivial mixed ⟨⟨m5, trivial⟩, ⟨⟨m7, trivial⟩, ⟨⟨m24, trivial⟩, trivial⟩⟩⟩) t47.1 (k := 100000) (n := 60) (by kernel_rfl) rfl
def a26 : List D := [(.str [111, 118, 101, 114])]
def d26 : D := (.tup [(.int .i64 0), (.int .i64 4)])
theorem m26 : callable TE.P 76 = true ∧ PureC TE 76 a26 d26 ∧ d26.flat = true :=
  pure_of_runs (pok (E := TE) (ml := []) (kt := []) tt trivial mixed trivial) t76.1 (k := 100000) (n := 60) (by kernel_rfl) rfl
def a27 : List D := [(.iptr [(.str [111, 118, 101, 114]), (.int .i64 0)] 0), (.int .i64 0)]
def d27 : D := (.int .i64 8)
theorem m27 : callable TE.P 106 = true ∧ PureC TE 106 a27 d27 ∧ d27.flat = true :=
  pure_of_runs (pok (E := TE) (ml := []) (kt := []) tt trivial mixed trivial) t106.1 (k := 100000) (n := 60) (by kernel_rfl) rfl
def a28 : List D := [(.iptr [(.str [111, 118, 101, 114]), (.int .i64 1)] 0), (.int .i64 1)]
def d28 : D := (.int .i64 8)
theorem m28 : callable TE.P 106 = true ∧ PureC TE 106 a28 d28 ∧ d28.flat = true :=
  pure_of_runs (pok (E := TE) (ml := []) (kt := []) tt trivial mixed trivial) t106.1 (k := 100000) (n := 60) (by kernel_rfl) rfl
def a29 : List D := [(.iptr [(.str [111, 118, 101, 114]), (.int .i64 2)] 0), (.int .i64 2)]
def d29 : D := (.int .i64 8)
theorem m29 : callable TE.P 106 = true ∧ PureC TE 106 a29 d29 ∧ d29.flat = true :=
  pure_of_runs (pok (E := TE) (ml := []) (kt := []) tt trivial mixed trivial) t106.1 (k := 100000) (n := 60) (by kernel_rfl) rfl
def a30 : List D := [(.iptr [(.str [111, 118, 101, 114]), (.int .i64 3)] 0), (.int .i64 3)]
def d30 : D := (.int .i64 8)
theorem m30 : callable TE.P 106 = true ∧ PureC TE 106 a30 d30 ∧ d30.flat = true :=
  pure_of_runs (pok (E := TE) (ml := []) (kt := []) tt trivial mixed trivial) t106.1 (k := 100000) (n := 60) (by kernel_rfl) rfl
def a31 : List D := [(.agg [(.int .i64 1), (.int .i64 0), (.int .i64 0), (.int .i64 0), (.str [111, 118, 101, 114])])]
def d31 : D := (.int .i64 0)
theorem m31 : callable TE.P 77 = true ∧ PureC TE 77 a31 d31 ∧ d31.flat = true :=
  pure_of_runs (pok (E := TE) (ml := []) (kt := [(106, [(a27, d27), (a28, d28), (a29, d29), (a30, d30)])]) tt trivial mixed ⟨⟨m27, ⟨m28, ⟨m29, ⟨m30, trivial⟩⟩⟩⟩, trivial⟩) t77.1 (k := 100000) (n := 60) (by kernel_rfl) rfl
def a32 : List D := [(.str [120])]
def d32 : D := (.tup [(.int .i64 0), (.int .i64 4)])
theorem m32 : callable TE.P 76 = true ∧ PureC TE 76 a32 d32 ∧ d32.flat = true :=
  pure_of_runs (pok (E := TE) (ml := []) (kt := []) tt trivial mixed trivial) t76.1 (k := 100000) (n := 60) (by kernel_rfl) rfl
def a33 : List D := [(.iptr [(.str [120]), (.int .i64 0)] 0), (.int .i64 0)]
def d33 : D := (.int .i64 8)
theorem m33 : callable TE.P 106 = true ∧ PureC TE 106 a33 d33 ∧ d33.flat = true :=
  pure_of_runs (pok (E := TE) (ml := []) (kt := []) tt trivial mixed trivial) t106.1 (k := 100000) (n := 60) (by kernel_rfl) rfl
def a34 : List D := [(.agg [(.int .i64 1), (.int .i64 0), (.int .i64 0), (.int .i64 0), (.str [120])])]
def d34 : D := (.int .i64 0)
theorem m34 : callable TE.P 77 = true ∧ PureC TE 77 a34 d34 ∧ d34.flat = true :=
  pure_of_runs (pok (E := TE) (ml := []) (kt := [(106, [(a33, d33)])]) tt trivial mixed ⟨⟨m33, trivial⟩, trivial⟩) t77.1 (k := 100000) (n := 60) (by kernel_rfl) rfl
def a35 : List D := [(.str [121])]
def d35 : D := (.tup [(.int .i64 0), (.int .i64 4)])
theorem m35 : callable TE.P 76 = true ∧ PureC TE 76 a35 d35 ∧ d35.flat = true :=
  pure_of_runs (pok (E := TE) (ml := []) (kt := []) tt trivial mixed trivial) t76.1 (k := 100000) (n := 60) (by kernel_rfl) rfl
end Go.Proofs.YtokalomjnmgdpaaGreatDoor
/- Calls that are known. Conditions: none. -/
set_option linter.unusedVariables false
set_option maxRecDepth 100000
namespace Go.Proofs.YtokalomjnmgdpaaGreatDoor
open Go Zv
def a36 : List D := [(.iptr [(.str [121]), (.int .i64 0)] 0), (.int .i64 0)]
def d36 : D := (.int .i64 8)
theorem m36 : callable TE.P 106 = true ∧ PureC TE 106 a36 d36 ∧ d36.flat = true :=
  pure_of_runs (pok (E := TE) (ml := []) (kt := []) tt trivial mixed trivial) t106.1 (k := 100000) (n := 60) (by kernel_rfl) rfl
def a37 : List D := [(.agg [(.int .i64 1), (.int .i64 0), (.int .i64 0), (.int .i64 0), (.str [121])])]
def d37 : D := (.int .i64 0)
theorem m37 : callable TE.P 77 = true ∧ PureC TE 77 a37 d37 ∧ d37.flat = true :=
  pure_of_runs (pok (E := TE) (ml := []) (kt := [(106, [(a36, d36)])]) tt trivial mixed ⟨⟨m36, trivial⟩, trivial⟩) t77.1 (k := 100000) (n := 60) (by kernel_rfl) rfl
def a38 : List D := [(.int .i64 27)]
def d38 : D := (.tup [(.int .i64 2), (.int .i64 0)])
theorem m38 : callable TE.P 113 = true ∧ PureC TE 113 a38 d38 ∧ d38.flat = true :=
  pure_of_runs (pok (E := TE) (ml := []) (kt := []) tt trivial mixed trivial) t113.1 (k := 100000) (n := 60) (by kernel_rfl) rfl
def a39 : List D := [(.agg [(.int .i64 5), (.int .i64 27), (.int .i64 2), (.str []), (.str []), (.int .i64 0), (.int .i64 0)])]
def d39 : D := (.int .i64 0)
theorem m39 : callable TE.P 80 = true ∧ PureC TE 80 a39 d39 ∧ d39.flat = true :=
  pure_of_runs (pok (E := TE) (ml := []) (kt := [(113, [(a38, d38)])]) tt trivial mixed ⟨⟨m38, trivial⟩, trivial⟩) t80.1 (k := 100000) (n := 60) (by kernel_rfl) rfl
def a40 : List D := [(.agg [(.int .i64 4), (.int .i64 0), (.int .i64 0), (.str [120]), (.str []), (.int .i64 0), (.int .i64 0)])]
def d40 : D := (.int .i64 0)
theorem m40 : callable TE.P 80 = true ∧ PureC TE 80 a40 d40 ∧ d40.flat = true :=
  pure_of_runs (pok (E := TE) (ml := []) (kt := [(76, [(a32, d32)]), (77, [(a34, d34)])]) tt trivial mixed ⟨⟨m32, trivial⟩, ⟨⟨m34, trivial⟩, trivial⟩⟩) t80.1 (k := 100000) (n := 60) (by kernel_rfl) rfl
def a41 : List D := [(.agg [(.int .i64 4), (.int .i64 0), (.int .i64 0), (.str [121]), (.str []), (.int .i64 0), (.int .i64 0)])]
def d41 : D := (.int .i64 0)
theorem m41 : callable TE.P 80 = true ∧ PureC TE 80 a41 d41 ∧ d41.flat = true :=
  pure_of_runs (pok (E := TE) (ml := []) (kt := [(76, [(a35, d35)]), (77, [(a37, d37)])]) tt trivial mixed ⟨⟨m35, trivial⟩, ⟨⟨m37, trivial⟩, trivial⟩⟩) t80.1 (k := 100000) (n := 60) (by kernel_rfl) rfl
def a42 : List D := [(.sl true 3 [(.int .i64 5), (.int .i64 27), (.int .i64 2), (.str []), (.str []), (.int .i64 0), (.int .i64 0), (.int .i64 4), (.int .i64 0), (.int .i64 0), (.str [120]), (.str []), (.int .i64 0), (.int .i64 0), (.int .i64 4), (.int .i64 0), (.int .i64 0), (.str [121]), (.str []), (.int .i64 0), (.int .i64 0)])]
def d42 : D := (.tup [(.int .i64 0), (.int .i64 0)])
theorem m42 : callable TE.P 28 = true ∧ PureC TE 28 a42 d42 ∧ d42.flat = true :=
  pure_of_runs (pok (E := TE) (ml := []) (kt := [(80, [(a39, d39), (a40, d40), (a41, d41)])]) tt trivial mixed ⟨⟨m39, ⟨m40, ⟨m41, trivial⟩⟩⟩, trivial⟩) t28.1 (k := 100000) (n := 60) (by kernel_rfl) rfl
def a43 : List D := [(.agg [(.sl true 3 [(.str [108, 111, 119]), (.str [115, 116, 97, 102, 102]), (.str [104, 105, 103, 104])]), (.sl true 3 [(.int .u8 7), (.int .u8 6), (.int .u8 4)]), (.sl true 2 [(.str [109, 97, 114, 107, 115]), (.int .i64 1), (.int .i64 1), (.int .i64 1), (.int .i64 0), (.int .i64 2), (.str [108, 105, 109, 105, 116]), (.int .i64 1), (.int .i64 0), (.int .i64 0), (.int .i64 0), (.int .i64 0)]), (.sl true 1 [(.str [111, 118, 101, 114]), (.sl true 2 [(.str [120]), (.str [121])]), (.sl true 3 [(.int .i64 5), (.int .i64 27), (.int .i64 2), (.str []), (.str []), (.int .i64 0), (.int .i64 0), (.int .i64 4), (.int .i64 0), (.int .i64 0), (.str [120]), (.str []), (.int .i64 0), (.int .i64 0), (.int .i64 4), (.int .i64 0), (.int .i64 0), (.str [121]), (.str []), (.int .i64 0), (.int .i64 0)])])])]
def d43 : D := (.int .i64 0)
theorem m43 : callable TE.P 27 = true ∧ PureC TE 27 a43 d43 ∧ d43.flat = true :=
  pure_of_runs (pok (E := TE) (ml := []) (kt := [(17, [(a7, d7)]), (76, [(a8, d8), (a17, d17), (a26, d26), (a32, d32), (a35, d35)]), (77, [(a14, d14), (a23, d23), (a31, d31), (a34, d34), (a37, d37)]), (47, [(a16, d16), (a25, d25)]), (28, [(a42, d42)])]) tt trivial mixed ⟨⟨m7, trivial⟩, ⟨⟨m8, ⟨m17, ⟨m26, ⟨m32, ⟨m35, trivial⟩⟩⟩⟩⟩, ⟨⟨m14, ⟨m23, ⟨m31, ⟨m34, ⟨m37, trivial⟩⟩⟩⟩⟩, ⟨⟨m16, ⟨m25, trivial⟩⟩, ⟨⟨m42, trivial⟩, trivial⟩⟩⟩⟩⟩) t27.1 (k := 100000) (n := 60) (by kernel_rfl) rfl
def a44 : List D := [(.int .i64 12)]
def d44 : D := (.tup [(.int .i64 1), (.int .i64 0)])
theorem m44 : callable TE.P 113 = true ∧ PureC TE 113 a44 d44 ∧ d44.flat = true :=
  pure_of_runs (pok (E := TE) (ml := []) (kt := []) tt trivial mixed trivial) t113.1 (k := 100000) (n := 60) (by kernel_rfl) rfl
def a45 : List D := [(.agg [(.int .i64 5), (.int .i64 12), (.int .i64 1), (.str []), (.str []), (.int .i64 0), (.int .i64 0)])]
def d45 : D := (.int .i64 0)
theorem m45 : callable TE.P 80 = true ∧ PureC TE 80 a45 d45 ∧ d45.flat = true :=
  pure_of_runs (pok (E := TE) (ml := []) (kt := [(113, [(a44, d44)])]) tt trivial mixed ⟨⟨m44, trivial⟩, trivial⟩) t80.1 (k := 100000) (n := 60) (by kernel_rfl) rfl
def a46 : List D := [(.agg [(.int .i64 4), (.int .i64 0), (.int .i64 0), (.str [109, 97, 114, 107, 115]), (.str []), (.int .i64 0), (.int .i64 0)])]
def d46 : D := (.int .i64 0)
theorem m46 : callable TE.P 80 = true ∧ PureC TE 80 a46 d46 ∧ d46.flat = true :=
  pure_of_runs (pok (E := TE) (ml := []) (kt := [(76, [(a8, d8)]), (77, [(a14, d14)])]) tt trivial mixed ⟨⟨m8, trivial⟩, ⟨⟨m14, trivial⟩, trivial⟩⟩) t80.1 (k := 100000) (n := 60) (by kernel_rfl) rfl
def a47 : List D := [(.sl true 2 [(.int .i64 5), (.int .i64 12), (.int .i64 1), (.str []), (.str []), (.int .i64 0), (.int .i64 0), (.int .i64 4), (.int .i64 0), (.int .i64 0), (.str [109, 97, 114, 107, 115]), (.str []), (.int .i64 0), (.int .i64 0)])]
def d47 : D := (.tup [(.int .i64 0), (.int .i64 0)])
theorem m47 : callable TE.P 28 = true ∧ PureC TE 28 a47 d47 ∧ d47.flat = true :=
  pure_of_runs (pok (E := TE) (ml := []) (kt := [(80, [(a45, d45), (a46, d46)])]) tt trivial mixed ⟨⟨m45, ⟨m46, trivial⟩⟩, trivial⟩) t28.1 (k := 100000) (n := 60) (by kernel_rfl) rfl
def a48 : List D := [(.str [107, 49, 105, 48]), (.sl false 1 [(.int .i64 1)]), (.sl false 1 [(.int .i64 1)])]
def d48 : D := (.tup [(.int .i64 1), (.int .i64 0), (.bool true), (.bool true)])
theorem m48 : callable TE.P 157 = true ∧ PureC TE 157 a48 d48 ∧ d48.flat = true :=
  pure_of_runs (pok (E := TE) (ml := []) (kt := []) tt trivial mixed trivial) t157.1 (k := 100000) (n := 60) (by kernel_rfl) rfl
def a49 : List D := [(.int .i64 12), (.sl false 1 [(.int .i64 1)]), (.sl false 1 [(.int .i64 1)])]
def d49 : D := (.tup [(.int .i64 1), (.int .i64 0), (.int .i64 0)])
theorem m49 : callable TE.P 118 = true ∧ PureC TE 118 a49 d49 ∧ d49.flat = true :=
  pure_of_runs (pok (E := TE) (ml := []) (kt := [(157, [(a48, d48)])]) tt trivial mixed ⟨⟨m48, trivial⟩, trivial⟩) t118.1 (k := 100000) (n := 60) (by kernel_rfl) rfl
end Go.Proofs.YtokalomjnmgdpaaGreatDoor
/- Calls that are known. Conditions: none. -/
set_option linter.unusedVariables false
set_option maxRecDepth 100000
namespace Go.Proofs.YtokalomjnmgdpaaGreatDoor
open Go Zv
def a50 : List D := [q5, (.sl true 2 [(.int .i64 1), (.int .i64 0)])]
def d50 : D := (.int .i64 1)
theorem m50 : callable TE.P 209 = true ∧ PureC TE 209 a50 d50 ∧ d50.flat = true :=
  pure_of_runs (pok (E := TE) (ml := []) (kt := []) tt trivial mixed trivial) t209.1 (k := 100000) (n := 60) (by kernel_rfl) rfl
def a51 : List D := [q5, (.sl true 2 [(.int .i64 0), (.int .i64 0)])]
def d51 : D := (.int .i64 0)
theorem m51 : callable TE.P 209 = true ∧ PureC TE 209 a51 d51 ∧ d51.flat = true :=
  pure_of_runs (pok (E := TE) (ml := []) (kt := []) tt trivial mixed trivial) t209.1 (k := 100000) (n := 60) (by kernel_rfl) rfl
def a52 : List D := [q5]
def d52 : D := (.agg [(.int .i64 0), (.int .i64 0), (.int .i64 1), (.int .i64 0), (.int .i64 1), (.int .i64 0), (.int .i64 1)])
theorem m52 : callable TE.P 165 = true ∧ PureC TE 165 a52 d52 ∧ d52.flat = true :=
  pure_of_runs (pok (E := TE) (ml := []) (kt := [(209, [(a50, d50), (a51, d51)])]) tt trivial mixed ⟨⟨m50, ⟨m51, trivial⟩⟩, trivial⟩) t165.1 (k := 100000) (n := 60) (by kernel_rfl) rfl
def a53 : List D := [q1, (.int .i64 12), q6]
def d53 : D := (.tup [(.agg [(.int .i64 1), (.int .i64 0), (.int .i64 0), (.int .i64 0), (.int .i64 1), (.int .i64 0), (.int .i64 1)]), (.int .i64 0)])
theorem m53 : callable TE.P 88 = true ∧ PureC TE 88 a53 d53 ∧ d53.flat = true :=
  pure_of_runs (pok (E := TE) (ml := []) (kt := [(33, [(a5, d5)]), (17, [(a7, d7)]), (47, [(a16, d16)]), (118, [(a49, d49)]), (165, [(a52, d52)])]) tt trivial mixed ⟨⟨m5, trivial⟩, ⟨⟨m7, trivial⟩, ⟨⟨m16, trivial⟩, ⟨⟨m49, trivial⟩, ⟨⟨m52, trivial⟩, trivial⟩⟩⟩⟩⟩) t88.1 (k := 100000) (n := 60) (by kernel_rfl) rfl
def a54 : List D := [q2, q7]
def d54 : D := (.int .i64 0)
theorem m54 : callable TE.P 79 = true ∧ PureC TE 79 a54 d54 ∧ d54.flat = true :=
  pure_of_runs (pok (E := TE) (ml := []) (kt := []) tt trivial mixed trivial) t79.1 (k := 100000) (n := 60) (by kernel_rfl) rfl
def a55 : List D := [q1, q7]
def d55 : D := (.int .i64 0)
theorem m55 : callable TE.P 47 = true ∧ PureC TE 47 a55 d55 ∧ d55.flat = true :=
  pure_of_runs (pok (E := TE) (ml := []) (kt := [(33, [(a5, d5)]), (17, [(a7, d7)]), (79, [(a54, d54)])]) tt trivial mixed ⟨⟨m5, trivial⟩, ⟨⟨m7, trivial⟩, ⟨⟨m54, trivial⟩, trivial⟩⟩⟩) t47.1 (k := 100000) (n := 60) (by kernel_rfl) rfl
def a56 : List D := [q1, (.int .i64 0), (.agg [(.int .i64 1), (.int .i64 0), (.int .i64 0), (.int .i64 0), (.int .i64 1), (.int .i64 0), (.int .i64 1)])]
def d56 : D := (.tup [(.int .i64 1), (.int .i64 0)])
theorem m56 : callable TE.P 89 = true ∧ PureC TE 89 a56 d56 ∧ d56.flat = true :=
  pure_of_runs (pok (E := TE) (ml := []) (kt := [(47, [(a55, d55)])]) tt trivial mixed ⟨⟨m55, trivial⟩, trivial⟩) t89.1 (k := 100000) (n := 60) (by kernel_rfl) rfl
def a57 : List D := [(.agg [(.int .i64 4), (.int .i64 0), (.int .i64 0), (.str [108, 105, 109, 105, 116]), (.str []), (.int .i64 0), (.int .i64 0)])]
def d57 : D := (.int .i64 0)
theorem m57 : callable TE.P 80 = true ∧ PureC TE 80 a57 d57 ∧ d57.flat = true :=
  pure_of_runs (pok (E := TE) (ml := []) (kt := [(76, [(a17, d17)]), (77, [(a23, d23)])]) tt trivial mixed ⟨⟨m17, trivial⟩, ⟨⟨m23, trivial⟩, trivial⟩⟩) t80.1 (k := 100000) (n := 60) (by kernel_rfl) rfl
def a58 : List D := [(.sl true 3 [(.int .i64 5), (.int .i64 27), (.int .i64 2), (.str []), (.str []), (.int .i64 0), (.int .i64 0), (.int .i64 4), (.int .i64 0), (.int .i64 0), (.str [109, 97, 114, 107, 115]), (.str []), (.int .i64 0), (.int .i64 0), (.int .i64 4), (.int .i64 0), (.int .i64 0), (.str [108, 105, 109, 105, 116]), (.str []), (.int .i64 0), (.int .i64 0)])]
def d58 : D := (.tup [(.int .i64 0), (.int .i64 0)])
theorem m58 : callable TE.P 28 = true ∧ PureC TE 28 a58 d58 ∧ d58.flat = true :=
  pure_of_runs (pok (E := TE) (ml := []) (kt := [(80, [(a39, d39), (a46, d46), (a57, d57)])]) tt trivial mixed ⟨⟨m39, ⟨m46, ⟨m57, trivial⟩⟩⟩, trivial⟩) t28.1 (k := 100000) (n := 60) (by kernel_rfl) rfl
def a59 : List D := [(.str [105, 48, 105, 110, 105, 110]), (.sl false 2 [(.int .i64 1), (.int .i64 1)]), (.sl false 2 [(.int .i64 1), (.int .i64 0)])]
def d59 : D := (.tup [(.int .i64 1), (.int .i64 0), (.bool true), (.bool false)])
theorem m59 : callable TE.P 157 = true ∧ PureC TE 157 a59 d59 ∧ d59.flat = true :=
  pure_of_runs (pok (E := TE) (ml := []) (kt := []) tt trivial mixed trivial) t157.1 (k := 100000) (n := 60) (by kernel_rfl) rfl
def a60 : List D := [(.str [105, 110, 105, 48, 105, 110]), (.sl false 2 [(.int .i64 1), (.int .i64 1)]), (.sl false 2 [(.int .i64 1), (.int .i64 0)])]
def d60 : D := (.tup [(.int .i64 1), (.int .i64 1), (.bool true), (.bool true)])
theorem m60 : callable TE.P 157 = true ∧ PureC TE 157 a60 d60 ∧ d60.flat = true :=
  pure_of_runs (pok (E := TE) (ml := []) (kt := []) tt trivial mixed trivial) t157.1 (k := 100000) (n := 60) (by kernel_rfl) rfl
def a61 : List D := [(.int .i64 27), (.sl false 2 [(.int .i64 1), (.int .i64 1)]), (.sl false 2 [(.int .i64 1), (.int .i64 0)])]
def d61 : D := (.tup [(.int .i64 1), (.int .i64 1), (.int .i64 0)])
theorem m61 : callable TE.P 118 = true ∧ PureC TE 118 a61 d61 ∧ d61.flat = true :=
  pure_of_runs (pok (E := TE) (ml := []) (kt := [(157, [(a59, d59), (a60, d60)])]) tt trivial mixed ⟨⟨m59, ⟨m60, trivial⟩⟩, trivial⟩) t118.1 (k := 100000) (n := 60) (by kernel_rfl) rfl
def a62 : List D := [q8, (.sl true 2 [(.int .i64 1), (.int .i64 0)])]
def d62 : D := (.int .i64 1)
theorem m62 : callable TE.P 209 = true ∧ PureC TE 209 a62 d62 ∧ d62.flat = true :=
  pure_of_runs (pok (E := TE) (ml := []) (kt := []) tt trivial mixed trivial) t209.1 (k := 100000) (n := 60) (by kernel_rfl) rfl
def a63 : List D := [q8, (.sl true 2 [(.int .i64 0), (.int .i64 0)])]
def d63 : D := (.int .i64 0)
theorem m63 : callable TE.P 209 = true ∧ PureC TE 209 a63 d63 ∧ d63.flat = true :=
  pure_of_runs (pok (E := TE) (ml := []) (kt := []) tt trivial mixed trivial) t209.1 (k := 100000) (n := 60) (by kernel_rfl) rfl
def a64 : List D := [q8, (.sl true 2 [(.int .i64 2), (.int .i64 0)])]
def d64 : D := (.int .i64 2)
theorem m64 : callable TE.P 209 = true ∧ PureC TE 209 a64 d64 ∧ d64.flat = true :=
  pure_of_runs (pok (E := TE) (ml := []) (kt := []) tt trivial mixed trivial) t209.1 (k := 100000) (n := 60) (by kernel_rfl) rfl
def a65 : List D := [q8]
def d65 : D := (.agg [(.int .i64 0), (.int .i64 0), (.int .i64 1), (.int .i64 0), (.int .i64 2), (.int .i64 0), (.int .i64 1)])
theorem m65 : callable TE.P 171 = true ∧ PureC TE 171 a65 d65 ∧ d65.flat = true :=
  pure_of_runs (pok (E := TE) (ml := []) (kt := [(209, [(a62, d62), (a63, d63), (a64, d64)])]) tt trivial mixed ⟨⟨m62, ⟨m63, ⟨m64, trivial⟩⟩⟩, trivial⟩) t171.1 (k := 100000) (n := 60) (by kernel_rfl) rfl
def a66 : List D := [q1, (.int .i64 27), (.sl false 2 [(.int .i64 1), (.int .i64 1), (.int .i64 1), (.int .i64 0), (.int .i64 2), (.int .i64 1), (.int .i64 0), (.int .i64 0), (.int .i64 0), (.int .i64 0)])]
def d66 : D := (.tup [(.agg [(.int .i64 1), (.int .i64 1), (.int .i64 1), (.int .i64 0), (.int .i64 2), (.int .i64 0), (.int .i64 1)]), (.int .i64 0)])
theorem m66 : callable TE.P 88 = true ∧ PureC TE 88 a66 d66 ∧ d66.flat = true :=
  pure_of_runs (pok (E := TE) (ml := []) (kt := [(33, [(a5, d5)]), (17, [(a7, d7)]), (47, [(a16, d16), (a25, d25)]), (118, [(a61, d61)]), (171, [(a65, d65)])]) tt trivial mixed ⟨⟨m5, trivial⟩, ⟨⟨m7, trivial⟩, ⟨⟨m16, ⟨m25, trivial⟩⟩, ⟨⟨m61, trivial⟩, ⟨⟨m65, trivial⟩, trivial⟩⟩⟩⟩⟩) t88.1 (k := 100000) (n := 60) (by kernel_rfl) rfl
def a67 : List D := [q1, (.int .i64 0), (.agg [(.int .i64 1), (.int .i64 1), (.int .i64 1), (.int .i64 0), (.int .i64 2), (.int .i64 0), (.int .i64 1)])]
def d67 : D := (.tup [(.int .i64 1), (.int .i64 0)])
theorem m67 : callable TE.P 89 = true ∧ PureC TE 89 a67 d67 ∧ d67.flat = true :=
  pure_of_runs (pok (E := TE) (ml := []) (kt := [(47, [(a16, d16)])]) tt trivial mixed ⟨⟨m16, trivial⟩, trivial⟩) t89.1 (k := 100000) (n := 60) (by kernel_rfl) rfl
def a68 : List D := [(.agg [(.int .i64 6), (.int .i64 0), (.int .i64 2), (.str [111, 118, 101, 114]), (.str []), (.int .i64 0), (.int .i64 0)])]
def d68 : D := (.int .i64 0)
theorem m68 : callable TE.P 80 = true ∧ PureC TE 80 a68 d68 ∧ d68.flat = true :=
  pure_of_runs (pok (E := TE) (ml := []) (kt := [(76, [(a26, d26)]), (77, [(a31, d31)])]) tt trivial mixed ⟨⟨m26, trivial⟩, ⟨⟨m31, trivial⟩, trivial⟩⟩) t80.1 (k := 100000) (n := 60) (by kernel_rfl) rfl
def a69 : List D := [(.sl true 3 [(.int .i64 6), (.int .i64 0), (.int .i64 2), (.str [111, 118, 101, 114]), (.str []), (.int .i64 0), (.int .i64 0), (.int .i64 4), (.int .i64 0), (.int .i64 0), (.str [109, 97, 114, 107, 115]), (.str []), (.int .i64 0), (.int .i64 0), (.int .i64 4), (.int .i64 0), (.int .i64 0), (.str [108, 105, 109, 105, 116]), (.str []), (.int .i64 0), (.int .i64 0)])]
def d69 : D := (.tup [(.int .i64 0), (.int .i64 0)])
theorem m69 : callable TE.P 28 = true ∧ PureC TE 28 a69 d69 ∧ d69.flat = true :=
  pure_of_runs (pok (E := TE) (ml := []) (kt := [(80, [(a46, d46), (a57, d57), (a68, d68)])]) tt trivial mixed ⟨⟨m46, ⟨m57, ⟨m68, trivial⟩⟩⟩, trivial⟩) t28.1 (k := 100000) (n := 60) (by kernel_rfl) rfl
def a70 : List D := [(.int .i64 9)]
def d70 : D := (.tup [(.int .i64 1), (.int .i64 0)])
theorem m70 : callable TE.P 113 = true ∧ PureC TE 113 a70 d70 ∧ d70.flat = true :=
  pure_of_runs (pok (E := TE) (ml := []) (kt := []) tt trivial mixed trivial) t113.1 (k := 100000) (n := 60) (by kernel_rfl) rfl
end Go.Proofs.YtokalomjnmgdpaaGreatDoor
/- Calls that are known. Conditions: none. -/
set_option linter.unusedVariables false
set_option maxRecDepth 100000
namespace Go.Proofs.YtokalomjnmgdpaaGreatDoor
open Go Zv
def a71 : List D := [(.agg [(.int .i64 5), (.int .i64 9), (.int .i64 1), (.str []), (.str []), (.int .i64 0), (.int .i64 0)])]
def d71 : D := (.int .i64 0)
theorem m71 : callable TE.P 80 = true ∧ PureC TE 80 a71 d71 ∧ d71.flat = true :=
  pure_of_runs (pok (E := TE) (ml := []) (kt := [(113, [(a70, d70)])]) tt trivial mixed ⟨⟨m70, trivial⟩, trivial⟩) t80.1 (k := 100000) (n := 60) (by kernel_rfl) rfl
def a72 : List D := [(.sl true 2 [(.int .i64 5), (.int .i64 9), (.int .i64 1), (.str []), (.str []), (.int .i64 0), (.int .i64 0), (.int .i64 4), (.int .i64 0), (.int .i64 0), (.str [109, 97, 114, 107, 115]), (.str []), (.int .i64 0), (.int .i64 0)])]
def d72 : D := (.tup [(.int .i64 0), (.int .i64 0)])
theorem m72 : callable TE.P 28 = true ∧ PureC TE 28 a72 d72 ∧ d72.flat = true :=
  pure_of_runs (pok (E := TE) (ml := []) (kt := [(80, [(a46, d46), (a71, d71)])]) tt trivial mixed ⟨⟨m46, ⟨m71, trivial⟩⟩, trivial⟩) t28.1 (k := 100000) (n := 60) (by kernel_rfl) rfl
def a73 : List D := [(.str [105, 49, 105, 48]), (.sl false 1 [(.int .i64 1)]), (.sl false 1 [(.int .i64 1)])]
def d73 : D := (.tup [(.int .i64 1), (.int .i64 0), (.bool true), (.bool true)])
theorem m73 : callable TE.P 157 = true ∧ PureC TE 157 a73 d73 ∧ d73.flat = true :=
  pure_of_runs (pok (E := TE) (ml := []) (kt := []) tt trivial mixed trivial) t157.1 (k := 100000) (n := 60) (by kernel_rfl) rfl
def a74 : List D := [(.int .i64 9), (.sl false 1 [(.int .i64 1)]), (.sl false 1 [(.int .i64 1)])]
def d74 : D := (.tup [(.int .i64 1), (.int .i64 0), (.int .i64 0)])
theorem m74 : callable TE.P 118 = true ∧ PureC TE 118 a74 d74 ∧ d74.flat = true :=
  pure_of_runs (pok (E := TE) (ml := []) (kt := [(157, [(a73, d73)])]) tt trivial mixed ⟨⟨m73, trivial⟩, trivial⟩) t118.1 (k := 100000) (n := 60) (by kernel_rfl) rfl
def a75 : List D := [q5, (.sl true 2 [(.int .i64 2), (.int .i64 0)])]
def d75 : D := (.int .i64 2)
theorem m75 : callable TE.P 209 = true ∧ PureC TE 209 a75 d75 ∧ d75.flat = true :=
  pure_of_runs (pok (E := TE) (ml := []) (kt := []) tt trivial mixed trivial) t209.1 (k := 100000) (n := 60) (by kernel_rfl) rfl
def a76 : List D := [q5]
def d76 : D := (.agg [(.int .i64 0), (.int .i64 0), (.int .i64 1), (.int .i64 0), (.int .i64 2), (.int .i64 2), (.int .i64 1)])
theorem m76 : callable TE.P 158 = true ∧ PureC TE 158 a76 d76 ∧ d76.flat = true :=
  pure_of_runs (pok (E := TE) (ml := []) (kt := [(209, [(a50, d50), (a51, d51), (a75, d75)])]) tt trivial mixed ⟨⟨m50, ⟨m51, ⟨m75, trivial⟩⟩⟩, trivial⟩) t158.1 (k := 100000) (n := 60) (by kernel_rfl) rfl
def a77 : List D := [q1, (.int .i64 9), q6]
def d77 : D := (.tup [(.agg [(.int .i64 1), (.int .i64 0), (.int .i64 0), (.int .i64 0), (.int .i64 2), (.int .i64 2), (.int .i64 1)]), (.int .i64 0)])
theorem m77 : callable TE.P 88 = true ∧ PureC TE 88 a77 d77 ∧ d77.flat = true :=
  pure_of_runs (pok (E := TE) (ml := []) (kt := [(33, [(a5, d5)]), (17, [(a7, d7)]), (47, [(a16, d16)]), (118, [(a74, d74)]), (158, [(a76, d76)])]) tt trivial mixed ⟨⟨m5, trivial⟩, ⟨⟨m7, trivial⟩, ⟨⟨m16, trivial⟩, ⟨⟨m74, trivial⟩, ⟨⟨m76, trivial⟩, trivial⟩⟩⟩⟩⟩) t88.1 (k := 100000) (n := 60) (by kernel_rfl) rfl
def a78 : List D := [q2, q9]
def d78 : D := (.int .i64 0)
theorem m78 : callable TE.P 79 = true ∧ PureC TE 79 a78 d78 ∧ d78.flat = true :=
  pure_of_runs (pok (E := TE) (ml := []) (kt := []) tt trivial mixed trivial) t79.1 (k := 100000) (n := 60) (by kernel_rfl) rfl
def a79 : List D := [q1, q9]
def d79 : D := (.int .i64 0)
theorem m79 : callable TE.P 47 = true ∧ PureC TE 47 a79 d79 ∧ d79.flat = true :=
  pure_of_runs (pok (E := TE) (ml := []) (kt := [(33, [(a5, d5)]), (17, [(a7, d7)]), (79, [(a78, d78)])]) tt trivial mixed ⟨⟨m5, trivial⟩, ⟨⟨m7, trivial⟩, ⟨⟨m78, trivial⟩, trivial⟩⟩⟩) t47.1 (k := 100000) (n := 60) (by kernel_rfl) rfl
def a80 : List D := [q1, (.int .i64 0), (.agg [(.int .i64 1), (.int .i64 0), (.int .i64 0), (.int .i64 0), (.int .i64 2), (.int .i64 2), (.int .i64 1)])]
def d80 : D := (.tup [(.int .i64 2), (.int .i64 0)])
theorem m80 : callable TE.P 89 = true ∧ PureC TE 89 a80 d80 ∧ d80.flat = true :=
  pure_of_runs (pok (E := TE) (ml := []) (kt := [(47, [(a79, d79)])]) tt trivial mixed ⟨⟨m79, trivial⟩, trivial⟩) t89.1 (k := 100000) (n := 60) (by kernel_rfl) rfl
def a81 : List D := [(.int .i64 15)]
def d81 : D := (.tup [(.int .i64 2), (.int .i64 0)])
theorem m81 : callable TE.P 113 = true ∧ PureC TE 113 a81 d81 ∧ d81.flat = true :=
  pure_of_runs (pok (E := TE) (ml := []) (kt := []) tt trivial mixed trivial) t113.1 (k := 100000) (n := 60) (by kernel_rfl) rfl
def a82 : List D := [(.agg [(.int .i64 5), (.int .i64 15), (.int .i64 2), (.str []), (.str []), (.int .i64 0), (.int .i64 0)])]
def d82 : D := (.int .i64 0)
theorem m82 : callable TE.P 80 = true ∧ PureC TE 80 a82 d82 ∧ d82.flat = true :=
  pure_of_runs (pok (E := TE) (ml := []) (kt := [(113, [(a81, d81)])]) tt trivial mixed ⟨⟨m81, trivial⟩, trivial⟩) t80.1 (k := 100000) (n := 60) (by kernel_rfl) rfl
def a83 : List D := [(.sl true 3 [(.int .i64 5), (.int .i64 15), (.int .i64 2), (.str []), (.str []), (.int .i64 0), (.int .i64 0), (.int .i64 4), (.int .i64 0), (.int .i64 0), (.str [109, 97, 114, 107, 115]), (.str []), (.int .i64 0), (.int .i64 0), (.int .i64 4), (.int .i64 0), (.int .i64 0), (.str [109, 97, 114, 107, 115]), (.str []), (.int .i64 0), (.int .i64 0)])]
def d83 : D := (.tup [(.int .i64 0), (.int .i64 0)])
theorem m83 : callable TE.P 28 = true ∧ PureC TE 28 a83 d83 ∧ d83.flat = true :=
  pure_of_runs (pok (E := TE) (ml := []) (kt := [(80, [(a46, d46), (a82, d82)])]) tt trivial mixed ⟨⟨m46, ⟨m82, trivial⟩⟩, trivial⟩) t28.1 (k := 100000) (n := 60) (by kernel_rfl) rfl
def a84 : List D := [(.str [105, 48, 105, 110, 105, 110]), (.sl false 2 [(.int .i64 1), (.int .i64 1)]), (.sl false 2 [(.int .i64 1), (.int .i64 1)])]
def d84 : D := (.tup [(.int .i64 1), (.int .i64 1), (.bool true), (.bool false)])
theorem m84 : callable TE.P 157 = true ∧ PureC TE 157 a84 d84 ∧ d84.flat = true :=
  pure_of_runs (pok (E := TE) (ml := []) (kt := []) tt trivial mixed trivial) t157.1 (k := 100000) (n := 60) (by kernel_rfl) rfl
def a85 : List D := [(.str [105, 110, 105, 48, 105, 110]), (.sl false 2 [(.int .i64 1), (.int .i64 1)]), (.sl false 2 [(.int .i64 1), (.int .i64 1)])]
def d85 : D := (.tup [(.int .i64 1), (.int .i64 1), (.bool true), (.bool false)])
theorem m85 : callable TE.P 157 = true ∧ PureC TE 157 a85 d85 ∧ d85.flat = true :=
  pure_of_runs (pok (E := TE) (ml := []) (kt := []) tt trivial mixed trivial) t157.1 (k := 100000) (n := 60) (by kernel_rfl) rfl
def a86 : List D := [(.str [105, 110, 105, 110, 105, 110]), (.sl false 2 [(.int .i64 1), (.int .i64 1)]), (.sl false 2 [(.int .i64 1), (.int .i64 1)])]
def d86 : D := (.tup [(.int .i64 1), (.int .i64 1), (.bool true), (.bool true)])
theorem m86 : callable TE.P 157 = true ∧ PureC TE 157 a86 d86 ∧ d86.flat = true :=
  pure_of_runs (pok (E := TE) (ml := []) (kt := []) tt trivial mixed trivial) t157.1 (k := 100000) (n := 60) (by kernel_rfl) rfl
def a87 : List D := [(.int .i64 15), (.sl false 2 [(.int .i64 1), (.int .i64 1)]), (.sl false 2 [(.int .i64 1), (.int .i64 1)])]
def d87 : D := (.tup [(.int .i64 1), (.int .i64 1), (.int .i64 0)])
theorem m87 : callable TE.P 118 = true ∧ PureC TE 118 a87 d87 ∧ d87.flat = true :=
  pure_of_runs (pok (E := TE) (ml := []) (kt := [(157, [(a84, d84), (a85, d85), (a86, d86)])]) tt trivial mixed ⟨⟨m84, ⟨m85, ⟨m86, trivial⟩⟩⟩, trivial⟩) t118.1 (k := 100000) (n := 60) (by kernel_rfl) rfl
end Go.Proofs.YtokalomjnmgdpaaGreatDoor
/- Calls that are known. Conditions: none. -/
set_option linter.unusedVariables false
set_option maxRecDepth 100000
namespace Go.Proofs.YtokalomjnmgdpaaGreatDoor
open Go Zv
def a88 : List D := [q10, (.sl true 2 [(.int .i64 1), (.int .i64 1)])]
def d88 : D := (.int .i64 1)
theorem m88 : callable TE.P 209 = true ∧ PureC TE 209 a88 d88 ∧ d88.flat = true :=
  pure_of_runs (pok (E := TE) (ml := []) (kt := []) tt trivial mixed trivial) t209.1 (k := 100000) (n := 60) (by kernel_rfl) rfl
def a89 : List D := [q10, (.sl true 2 [(.int .i64 0), (.int .i64 0)])]
def d89 : D := (.int .i64 0)
theorem m89 : callable TE.P 209 = true ∧ PureC TE 209 a89 d89 ∧ d89.flat = true :=
  pure_of_runs (pok (E := TE) (ml := []) (kt := []) tt trivial mixed trivial) t209.1 (k := 100000) (n := 60) (by kernel_rfl) rfl
def a90 : List D := [q10, (.sl true 2 [(.int .i64 2), (.int .i64 2)])]
def d90 : D := (.int .i64 2)
theorem m90 : callable TE.P 209 = true ∧ PureC TE 209 a90 d90 ∧ d90.flat = true :=
  pure_of_runs (pok (E := TE) (ml := []) (kt := []) tt trivial mixed trivial) t209.1 (k := 100000) (n := 60) (by kernel_rfl) rfl
def a91 : List D := [q10, (.sl true 2 [(.int .i64 1), (.int .i64 0)])]
def d91 : D := (.int .i64 1)
theorem m91 : callable TE.P 209 = true ∧ PureC TE 209 a91 d91 ∧ d91.flat = true :=
  pure_of_runs (pok (E := TE) (ml := []) (kt := []) tt trivial mixed trivial) t209.1 (k := 100000) (n := 60) (by kernel_rfl) rfl
def a92 : List D := [q10]
def d92 : D := (.agg [(.int .i64 0), (.int .i64 0), (.int .i64 1), (.int .i64 0), (.int .i64 2), (.int .i64 1), (.int .i64 1)])
theorem m92 : callable TE.P 171 = true ∧ PureC TE 171 a92 d92 ∧ d92.flat = true :=
  pure_of_runs (pok (E := TE) (ml := []) (kt := [(209, [(a88, d88), (a89, d89), (a90, d90), (a91, d91)])]) tt trivial mixed ⟨⟨m88, ⟨m89, ⟨m90, ⟨m91, trivial⟩⟩⟩⟩, trivial⟩) t171.1 (k := 100000) (n := 60) (by kernel_rfl) rfl
def a93 : List D := [q1, (.int .i64 15), (.sl false 2 [(.int .i64 1), (.int .i64 1), (.int .i64 1), (.int .i64 0), (.int .i64 2), (.int .i64 1), (.int .i64 1), (.int .i64 1), (.int .i64 0), (.int .i64 2)])]
def d93 : D := (.tup [(.agg [(.int .i64 1), (.int .i64 1), (.int .i64 1), (.int .i64 0), (.int .i64 2), (.int .i64 2), (.int .i64 1)]), (.int .i64 0)])
theorem m93 : callable TE.P 88 = true ∧ PureC TE 88 a93 d93 ∧ d93.flat = true :=
  pure_of_runs (pok (E := TE) (ml := []) (kt := [(33, [(a5, d5)]), (17, [(a7, d7)]), (47, [(a16, d16)]), (118, [(a87, d87)]), (209, [(a90, d90)]), (171, [(a92, d92)])]) tt trivial mixed ⟨⟨m5, trivial⟩, ⟨⟨m7, trivial⟩, ⟨⟨m16, trivial⟩, ⟨⟨m87, trivial⟩, ⟨⟨m90, trivial⟩, ⟨⟨m92, trivial⟩, trivial⟩⟩⟩⟩⟩⟩) t88.1 (k := 100000) (n := 60) (by kernel_rfl) rfl
def a94 : List D := [q1, (.int .i64 0), (.agg [(.int .i64 1), (.int .i64 1), (.int .i64 1), (.int .i64 0), (.int .i64 2), (.int .i64 2), (.int .i64 1)])]
def d94 : D := (.tup [(.int .i64 2), (.int .i64 0)])
theorem m94 : callable TE.P 89 = true ∧ PureC TE 89 a94 d94 ∧ d94.flat = true :=
  pure_of_runs (pok (E := TE) (ml := []) (kt := [(47, [(a16, d16)])]) tt trivial mixed ⟨⟨m16, trivial⟩, trivial⟩) t89.1 (k := 100000) (n := 60) (by kernel_rfl) rfl
def a95 : List D := [(.str [109, 105, 115, 115, 105, 110, 103])]
def d95 : D := (.tup [(.int .i64 0), (.int .i64 4)])
theorem m95 : callable TE.P 76 = true ∧ PureC TE 76 a95 d95 ∧ d95.flat = true :=
  pure_of_runs (pok (E := TE) (ml := []) (kt := []) tt trivial mixed trivial) t76.1 (k := 100000) (n := 60) (by kernel_rfl) rfl
def a96 : List D := [(.iptr [(.str [109, 105, 115, 115, 105, 110, 103]), (.int .i64 0)] 0), (.int .i64 0)]
def d96 : D := (.int .i64 8)
theorem m96 : callable TE.P 106 = true ∧ PureC TE 106 a96 d96 ∧ d96.flat = true :=
  pure_of_runs (pok (E := TE) (ml := []) (kt := []) tt trivial mixed trivial) t106.1 (k := 100000) (n := 60) (by kernel_rfl) rfl
def a97 : List D := [(.iptr [(.str [109, 105, 115, 115, 105, 110, 103]), (.int .i64 1)] 0), (.int .i64 1)]
def d97 : D := (.int .i64 8)
theorem m97 : callable TE.P 106 = true ∧ PureC TE 106 a97 d97 ∧ d97.flat = true :=
  pure_of_runs (pok (E := TE) (ml := []) (kt := []) tt trivial mixed trivial) t106.1 (k := 100000) (n := 60) (by kernel_rfl) rfl
def a98 : List D := [(.iptr [(.str [109, 105, 115, 115, 105, 110, 103]), (.int .i64 2)] 0), (.int .i64 2)]
def d98 : D := (.int .i64 8)
theorem m98 : callable TE.P 106 = true ∧ PureC TE 106 a98 d98 ∧ d98.flat = true :=
  pure_of_runs (pok (E := TE) (ml := []) (kt := []) tt trivial mixed trivial) t106.1 (k := 100000) (n := 60) (by kernel_rfl) rfl
def a99 : List D := [(.iptr [(.str [109, 105, 115, 115, 105, 110, 103]), (.int .i64 3)] 0), (.int .i64 3)]
def d99 : D := (.int .i64 8)
theorem m99 : callable TE.P 106 = true ∧ PureC TE 106 a99 d99 ∧ d99.flat = true :=
  pure_of_runs (pok (E := TE) (ml := []) (kt := []) tt trivial mixed trivial) t106.1 (k := 100000) (n := 60) (by kernel_rfl) rfl
def a100 : List D := [(.iptr [(.str [109, 105, 115, 115, 105, 110, 103]), (.int .i64 4)] 0), (.int .i64 4)]
def d100 : D := (.int .i64 8)
theorem m100 : callable TE.P 106 = true ∧ PureC TE 106 a100 d100 ∧ d100.flat = true :=
  pure_of_runs (pok (E := TE) (ml := []) (kt := []) tt trivial mixed trivial) t106.1 (k := 100000) (n := 60) (by kernel_rfl) rfl
def a101 : List D := [(.iptr [(.str [109, 105, 115, 115, 105, 110, 103]), (.int .i64 5)] 0), (.int .i64 5)]
def d101 : D := (.int .i64 8)
theorem m101 : callable TE.P 106 = true ∧ PureC TE 106 a101 d101 ∧ d101.flat = true :=
  pure_of_runs (pok (E := TE) (ml := []) (kt := []) tt trivial mixed trivial) t106.1 (k := 100000) (n := 60) (by kernel_rfl) rfl
def a102 : List D := [(.iptr [(.str [109, 105, 115, 115, 105, 110, 103]), (.int .i64 6)] 0), (.int .i64 6)]
def d102 : D := (.int .i64 8)
theorem m102 : callable TE.P 106 = true ∧ PureC TE 106 a102 d102 ∧ d102.flat = true :=
  pure_of_runs (pok (E := TE) (ml := []) (kt := []) tt trivial mixed trivial) t106.1 (k := 100000) (n := 60) (by kernel_rfl) rfl
def a103 : List D := [(.agg [(.int .i64 1), (.int .i64 0), (.int .i64 0), (.int .i64 0), (.str [109, 105, 115, 115, 105, 110, 103])])]
def d103 : D := (.int .i64 0)
theorem m103 : callable TE.P 77 = true ∧ PureC TE 77 a103 d103 ∧ d103.flat = true :=
  pure_of_runs (pok (E := TE) (ml := []) (kt := [(106, [(a96, d96), (a97, d97), (a98, d98), (a99, d99), (a100, d100), (a101, d101), (a102, d102)])]) tt trivial mixed ⟨⟨m96, ⟨m97, ⟨m98, ⟨m99, ⟨m100, ⟨m101, ⟨m102, trivial⟩⟩⟩⟩⟩⟩⟩, trivial⟩) t77.1 (k := 100000) (n := 60) (by kernel_rfl) rfl
def a104 : List D := [(.agg [(.int .i64 4), (.int .i64 0), (.int .i64 0), (.str [109, 105, 115, 115, 105, 110, 103]), (.str []), (.int .i64 0), (.int .i64 0)])]
def d104 : D := (.int .i64 0)
theorem m104 : callable TE.P 80 = true ∧ PureC TE 80 a104 d104 ∧ d104.flat = true :=
  pure_of_runs (pok (E := TE) (ml := []) (kt := [(76, [(a95, d95)]), (77, [(a103, d103)])]) tt trivial mixed ⟨⟨m95, trivial⟩, ⟨⟨m103, trivial⟩, trivial⟩⟩) t80.1 (k := 100000) (n := 60) (by kernel_rfl) rfl
def a105 : List D := [(.sl true 1 [(.int .i64 4), (.int .i64 0), (.int .i64 0), (.str [109, 105, 115, 115, 105, 110, 103]), (.str []), (.int .i64 0), (.int .i64 0)])]
def d105 : D := (.tup [(.int .i64 0), (.int .i64 0)])
theorem m105 : callable TE.P 28 = true ∧ PureC TE 28 a105 d105 ∧ d105.flat = true :=
  pure_of_runs (pok (E := TE) (ml := []) (kt := [(80, [(a104, d104)])]) tt trivial mixed ⟨⟨m104, trivial⟩, trivial⟩) t28.1 (k := 100000) (n := 60) (by kernel_rfl) rfl
def a106 : List D := []
def d106 : D := (.bool true)
theorem m106 : callable TE.P 5 = true ∧ PureC TE 5 a106 d106 ∧ d106.flat = true :=
  pure_of_runs (pok (E := TE) (ml := []) (kt := [(33, [(a5, d5)]), (17, [(a7, d7)]), (80, [(a39, d39), (a40, d40), (a41, d41), (a45, d45), (a46, d46), (a57, d57), (a68, d68), (a71, d71), (a82, d82), (a104, d104)]), (27, [(a43, d43)]), (28, [(a47, d47), (a58, d58), (a69, d69), (a72, d72), (a83, d83), (a105, d105)]), (88, [(a53, d53), (a66, d66), (a77, d77), (a93, d93)]), (89, [(a56, d56), (a67, d67), (a80, d80), (a94, d94)])]) tt trivial mixed ⟨⟨m5, trivial⟩, ⟨⟨m7, trivial⟩, ⟨⟨m39, ⟨m40, ⟨m41, ⟨m45, ⟨m46, ⟨m57, ⟨m68, ⟨m71, ⟨m82, ⟨m104, trivial⟩⟩⟩⟩⟩⟩⟩⟩⟩⟩, ⟨⟨m43, trivial⟩, ⟨⟨m47, ⟨m58, ⟨m69, ⟨m72, ⟨m83, ⟨m105, trivial⟩⟩⟩⟩⟩⟩, ⟨⟨m53, ⟨m66, ⟨m77, ⟨m93, trivial⟩⟩⟩⟩, ⟨⟨m56, ⟨m67, ⟨m80, ⟨m94, trivial⟩⟩⟩⟩, trivial⟩⟩⟩⟩⟩⟩⟩) t5.1 (k := 100000) (n := 60) (by kernel_rfl) rfl
end Go.Proofs.YtokalomjnmgdpaaGreatDoor
/- Calls that are known. Conditions: none. -/
set_option linter.unusedVariables false
set_option maxRecDepth 100000
namespace Go.Proofs.YtokalomjnmgdpaaGreatDoor
open Go Zv
def a107 : List D := []
def d107 : D := (.bool true)
theorem m107 : callable TE.P 3 = true ∧ PureC TE 3 a107 d107 ∧ d107.flat = true :=
  pure_of_runs (pok (E := TE) (ml := []) (kt := [(5, [(a106, d106)])]) tt trivial mixed ⟨⟨m106, trivial⟩, trivial⟩) t3.1 (k := 100000) (n := 60) (by kernel_rfl) rfl
end Go.Proofs.YtokalomjnmgdpaaGreatDoor
