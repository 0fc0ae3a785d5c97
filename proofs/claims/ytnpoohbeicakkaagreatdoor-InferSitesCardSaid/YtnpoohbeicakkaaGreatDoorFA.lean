/- Calls that are known. Conditions: none. -/
import Derived.Test.YtnpoohbeicakkaaGreatDoorCA
import Derived.Test.YtnpoohbeicakkaaGreatDoorSB
set_option linter.unusedVariables false
set_option maxRecDepth 100000
namespace Go.Proofs.YtnpoohbeicakkaaGreatDoor
open Go Zv Zv.Ab
def a0 : List D := [(.str [97, 98, 99, 100, 101, 102, 103, 104, 105, 106, 107, 108, 109, 110, 111, 112, 113, 114, 115, 116, 117, 118, 119, 120, 121, 122, 48, 49, 50, 51, 52, 53, 54, 55, 56, 57, 45])]
def d0 : D := (.tup [(.agg [(.bool false), (.bool false), (.bool false), (.bool false), (.bool false), (.bool false), (.bool false), (.bool false), (.bool false), (.bool false), (.bool false), (.bool false), (.bool false), (.bool false), (.bool false), (.bool false), (.bool false), (.bool false), (.bool false), (.bool false), (.bool false), (.bool false), (.bool false), (.bool false), (.bool false), (.bool false), (.bool false), (.bool false), (.bool false), (.bool false), (.bool false), (.bool false), (.bool false), (.bool false), (.bool false), (.bool false), (.bool false), (.bool false), (.bool false), (.bool false), (.bool false), (.bool false), (.bool false), (.bool false), (.bool false), (.bool true), (.bool false), (.bool false), (.bool true), (.bool true), (.bool true), (.bool true), (.bool true), (.bool true), (.bool true), (.bool true), (.bool true), (.bool true), (.bool false), (.bool false), (.bool false), (.bool false), (.bool false), (.bool false), (.bool false), (.bool false), (.bool false), (.bool false), (.bool false), (.bool false), (.bool false), (.bool false), (.bool false), (.bool false), (.bool false), (.bool false), (.bool false), (.bool false), (.bool false), (.bool false), (.bool false), (.bool false), (.bool false), (.bool false), (.bool false), (.bool false), (.bool false), (.bool false), (.bool false), (.bool false), (.bool false), (.bool false), (.bool false), (.bool false), (.bool false), (.bool false), (.bool false), (.bool true), (.bool true), (.bool true), (.bool true), (.bool true), (.bool true), (.bool true), (.bool true), (.bool true), (.bool true), (.bool true), (.bool true), (.bool true), (.bool true), (.bool true), (.bool true), (.bool true), (.bool true), (.bool true), (.bool true), (.bool true), (.bool true), (.bool true), (.bool true), (.bool true), (.bool true), (.bool false), (.bool false), (.bool false), (.bool false), (.bool false), (.bool false), (.bool false), (.bool false), (.bool false), (.bool false), (.bool false), (.bool false), (.bool false), (.bool false), (.bool false), (.bool false), (.bool false), (.bool false), (.bool false), (.bool false), (.bool false), (.bool false), (.bool false), (.bool false), (.bool false), (.bool false), (.bool false), (.bool false), (.bool false), (.bool false), (.bool false), (.bool false), (.bool false), (.bool false), (.bool false), (.bool false), (.bool false), (.bool false), (.bool false), (.bool false), (.bool false), (.bool false), (.bool false), (.bool false), (.bool false), (.bool false), (.bool false), (.bool false), (.bool false), (.bool false), (.bool false), (.bool false), (.bool false), (.bool false), (.bool false), (.bool false), (.bool false), (.bool false), (.bool false), (.bool false), (.bool false), (.bool false), (.bool false), (.bool false), (.bool false), (.bool false), (.bool false), (.bool false), (.bool false), (.bool false), (.bool false), (.bool false), (.bool false), (.bool false), (.bool false), (.bool false), (.bool false), (.bool false), (.bool false), (.bool false), (.bool false), (.bool false), (.bool false), (.bool false), (.bool false), (.bool false), (.bool false), (.bool false), (.bool false), (.bool false), (.bool false), (.bool false), (.bool false), (.bool false), (.bool false), (.bool false), (.bool false), (.bool false), (.bool false), (.bool false), (.bool false), (.bool false), (.bool false), (.bool false), (.bool false), (.bool false), (.bool false), (.bool false), (.bool false), (.bool false), (.bool false), (.bool false), (.bool false), (.bool false), (.bool false), (.bool false), (.bool false), (.bool false), (.bool false), (.bool false), (.bool false), (.bool false), (.bool false), (.bool false), (.bool false), (.bool false), (.bool false), (.bool false), (.bool false), (.bool false), (.bool false), (.bool false), (.bool false)]), (.bool true)])
theorem m0 : callable TE.P 239 = true ∧ PureC TE 239 a0 d0 ∧ d0.flat = true :=
  pure_of_runs (pok (E := TE) (ml := []) (kt := []) tt trivial mixed trivial xx) t239.1 (k := 100000) (n := 60) (by kernel_rfl) rfl
def a1 : List D := [(.str [108, 111, 119]), q0]
def d1 : D := (.str [])
theorem m1 : callable TE.P 241 = true ∧ PureC TE 241 a1 d1 ∧ d1.flat = true :=
  pure_of_runs (pok (E := TE) (ml := []) (kt := []) tt trivial mixed trivial xx) t241.1 (k := 100000) (n := 60) (by kernel_rfl) rfl
def a2 : List D := [(.str [115, 116, 97, 102, 102]), q0]
def d2 : D := (.str [])
theorem m2 : callable TE.P 241 = true ∧ PureC TE 241 a2 d2 ∧ d2.flat = true :=
  pure_of_runs (pok (E := TE) (ml := []) (kt := []) tt trivial mixed trivial xx) t241.1 (k := 100000) (n := 60) (by kernel_rfl) rfl
def a3 : List D := [(.str [104, 105, 103, 104]), q0]
def d3 : D := (.str [])
theorem m3 : callable TE.P 241 = true ∧ PureC TE 241 a3 d3 ∧ d3.flat = true :=
  pure_of_runs (pok (E := TE) (ml := []) (kt := []) tt trivial mixed trivial xx) t241.1 (k := 100000) (n := 60) (by kernel_rfl) rfl
def a4 : List D := [(.sl true 3 [(.str [108, 111, 119]), (.str [115, 116, 97, 102, 102]), (.str [104, 105, 103, 104])])]
def d4 : D := (.tup [(i 0), (i 0)])
theorem m4 : callable TE.P 106 = true ∧ PureC TE 106 a4 d4 ∧ d4.flat = true :=
  pure_of_runs (pok (E := TE) (ml := []) (kt := [(239, [(a0, d0)]), (241, [(a1, d1), (a2, d2), (a3, d3)])]) tt trivial mixed ⟨⟨m0, trivial⟩, ⟨⟨m1, ⟨m2, ⟨m3, trivial⟩⟩⟩, trivial⟩⟩ xx) t106.1 (k := 100000) (n := 60) (by kernel_rfl) rfl
def a5 : List D := [(.iptr [(.sl true 3 [(.str [108, 111, 119]), (.str [115, 116, 97, 102, 102]), (.str [104, 105, 103, 104])]), (.sl true 3 [(.int .u8 7), (.int .u8 6), (.int .u8 4)])] 0)]
def d5 : D := (.agg [(i 3), (.int .u8 7), (.int .u8 6), (.int .u8 4), (.int .u8 0), (.int .u8 0), (.int .u8 0), (.int .u8 0), (.int .u8 0), (.int .u8 1), (.int .u8 3), (.int .u8 7), (.int .u8 0), (.int .u8 0), (.int .u8 0), (.int .u8 0), (.int .u8 0)])
theorem m5 : callable TE.P 81 = true ∧ PureC TE 81 a5 d5 ∧ d5.flat = true :=
  pure_of_runs (pok (E := TE) (ml := []) (kt := []) tt trivial mixed trivial xx) t81.1 (k := 100000) (n := 60) (by kernel_rfl) rfl
def a6 : List D := [(.agg [(.int .u8 1), (.int .u8 3), (.int .u8 7), (.int .u8 0), (.int .u8 0), (.int .u8 0), (.int .u8 0), (.int .u8 0)]), (i 3), (i 2), (i 2)]
def d6 : D := (i 2)
theorem m6 : callable TE.P 109 = true ∧ PureC TE 109 a6 d6 ∧ d6.flat = true :=
  pure_of_runs (pok (E := TE) (ml := []) (kt := []) tt trivial mixed trivial xx) t109.1 (k := 100000) (n := 60) (by kernel_rfl) rfl
def a7 : List D := [q1]
def d7 : D := (.tup [(i 0), (i 0)])
theorem m7 : callable TE.P 59 = true ∧ PureC TE 59 a7 d7 ∧ d7.flat = true :=
  pure_of_runs (pok (E := TE) (ml := []) (kt := [(106, [(a4, d4)]), (81, [(a5, d5)]), (109, [(a6, d6)])]) tt trivial mixed ⟨⟨m4, trivial⟩, ⟨⟨m5, trivial⟩, ⟨⟨m6, trivial⟩, trivial⟩⟩⟩ xx) t59.1 (k := 100000) (n := 60) (by kernel_rfl) rfl
def a8 : List D := [(.str [109, 97, 114, 107, 115])]
def d8 : D := (.tup [(i 0), (i 4)])
theorem m8 : callable TE.P 110 = true ∧ PureC TE 110 a8 d8 ∧ d8.flat = true :=
  pure_of_runs (pok (E := TE) (ml := []) (kt := []) tt trivial mixed trivial xx) t110.1 (k := 100000) (n := 60) (by kernel_rfl) rfl
def a9 : List D := [(.iptr [(.str [109, 97, 114, 107, 115]), (i 0)] 0), (i 0)]
def d9 : D := (i 8)
theorem m9 : callable TE.P 156 = true ∧ PureC TE 156 a9 d9 ∧ d9.flat = true :=
  pure_of_runs (pok (E := TE) (ml := []) (kt := []) tt trivial mixed trivial xx) t156.1 (k := 100000) (n := 60) (by kernel_rfl) rfl
def a10 : List D := [(.iptr [(.str [109, 97, 114, 107, 115]), (i 1)] 0), (i 1)]
def d10 : D := (i 8)
theorem m10 : callable TE.P 156 = true ∧ PureC TE 156 a10 d10 ∧ d10.flat = true :=
  pure_of_runs (pok (E := TE) (ml := []) (kt := []) tt trivial mixed trivial xx) t156.1 (k := 100000) (n := 60) (by kernel_rfl) rfl
def a11 : List D := [(.iptr [(.str [109, 97, 114, 107, 115]), (i 2)] 0), (i 2)]
def d11 : D := (i 8)
theorem m11 : callable TE.P 156 = true ∧ PureC TE 156 a11 d11 ∧ d11.flat = true :=
  pure_of_runs (pok (E := TE) (ml := []) (kt := []) tt trivial mixed trivial xx) t156.1 (k := 100000) (n := 60) (by kernel_rfl) rfl
def a12 : List D := [(.iptr [(.str [109, 97, 114, 107, 115]), (i 3)] 0), (i 3)]
def d12 : D := (i 8)
theorem m12 : callable TE.P 156 = true ∧ PureC TE 156 a12 d12 ∧ d12.flat = true :=
  pure_of_runs (pok (E := TE) (ml := []) (kt := []) tt trivial mixed trivial xx) t156.1 (k := 100000) (n := 60) (by kernel_rfl) rfl
def a13 : List D := [(.iptr [(.str [109, 97, 114, 107, 115]), (i 4)] 0), (i 4)]
def d13 : D := (i 8)
theorem m13 : callable TE.P 156 = true ∧ PureC TE 156 a13 d13 ∧ d13.flat = true :=
  pure_of_runs (pok (E := TE) (ml := []) (kt := []) tt trivial mixed trivial xx) t156.1 (k := 100000) (n := 60) (by kernel_rfl) rfl
def a14 : List D := [(.agg [(i 1), (i 0), (i 0), (i 0), (.str [109, 97, 114, 107, 115])])]
def d14 : D := (i 0)
theorem m14 : callable TE.P 111 = true ∧ PureC TE 111 a14 d14 ∧ d14.flat = true :=
  pure_of_runs (pok (E := TE) (ml := []) (kt := [(156, [(a9, d9), (a10, d10), (a11, d11), (a12, d12), (a13, d13)])]) tt trivial mixed ⟨⟨m9, ⟨m10, ⟨m11, ⟨m12, ⟨m13, trivial⟩⟩⟩⟩⟩, trivial⟩ xx) t111.1 (k := 100000) (n := 60) (by kernel_rfl) rfl
def a15 : List D := [q2, q3]
def d15 : D := (i 0)
theorem m15 : callable TE.P 73 = true ∧ PureC TE 73 a15 d15 ∧ d15.flat = true :=
  pure_of_runs (pok (E := TE) (ml := []) (kt := []) tt trivial mixed trivial xx) t73.1 (k := 100000) (n := 60) (by kernel_rfl) rfl
def a16 : List D := [q1, q3]
def d16 : D := (i 0)
theorem m16 : callable TE.P 62 = true ∧ PureC TE 62 a16 d16 ∧ d16.flat = true :=
  pure_of_runs (pok (E := TE) (ml := []) (kt := [(81, [(a5, d5)]), (59, [(a7, d7)]), (73, [(a15, d15)])]) tt trivial mixed ⟨⟨m5, trivial⟩, ⟨⟨m7, trivial⟩, ⟨⟨m15, trivial⟩, trivial⟩⟩⟩ xx) t62.1 (k := 100000) (n := 60) (by kernel_rfl) rfl
def a17 : List D := [(.str [108, 105, 109, 105, 116])]
def d17 : D := (.tup [(i 0), (i 4)])
theorem m17 : callable TE.P 110 = true ∧ PureC TE 110 a17 d17 ∧ d17.flat = true :=
  pure_of_runs (pok (E := TE) (ml := []) (kt := []) tt trivial mixed trivial xx) t110.1 (k := 100000) (n := 60) (by kernel_rfl) rfl
end Go.Proofs.YtnpoohbeicakkaaGreatDoor
namespace Go.Proofs.YtnpoohbeicakkaaGreatDoor
open Go Zv Zv.Ab
def a18 : List D := [(.iptr [(.str [108, 105, 109, 105, 116]), (i 0)] 0), (i 0)]
def d18 : D := (i 8)
theorem m18 : callable TE.P 156 = true ∧ PureC TE 156 a18 d18 ∧ d18.flat = true :=
  pure_of_runs (pok (E := TE) (ml := []) (kt := []) tt trivial mixed trivial xx) t156.1 (k := 100000) (n := 60) (by kernel_rfl) rfl
def a19 : List D := [(.iptr [(.str [108, 105, 109, 105, 116]), (i 1)] 0), (i 1)]
def d19 : D := (i 8)
theorem m19 : callable TE.P 156 = true ∧ PureC TE 156 a19 d19 ∧ d19.flat = true :=
  pure_of_runs (pok (E := TE) (ml := []) (kt := []) tt trivial mixed trivial xx) t156.1 (k := 100000) (n := 60) (by kernel_rfl) rfl
def a20 : List D := [(.iptr [(.str [108, 105, 109, 105, 116]), (i 2)] 0), (i 2)]
def d20 : D := (i 8)
theorem m20 : callable TE.P 156 = true ∧ PureC TE 156 a20 d20 ∧ d20.flat = true :=
  pure_of_runs (pok (E := TE) (ml := []) (kt := []) tt trivial mixed trivial xx) t156.1 (k := 100000) (n := 60) (by kernel_rfl) rfl
def a21 : List D := [(.iptr [(.str [108, 105, 109, 105, 116]), (i 3)] 0), (i 3)]
def d21 : D := (i 8)
theorem m21 : callable TE.P 156 = true ∧ PureC TE 156 a21 d21 ∧ d21.flat = true :=
  pure_of_runs (pok (E := TE) (ml := []) (kt := []) tt trivial mixed trivial xx) t156.1 (k := 100000) (n := 60) (by kernel_rfl) rfl
def a22 : List D := [(.iptr [(.str [108, 105, 109, 105, 116]), (i 4)] 0), (i 4)]
def d22 : D := (i 8)
theorem m22 : callable TE.P 156 = true ∧ PureC TE 156 a22 d22 ∧ d22.flat = true :=
  pure_of_runs (pok (E := TE) (ml := []) (kt := []) tt trivial mixed trivial xx) t156.1 (k := 100000) (n := 60) (by kernel_rfl) rfl
def a23 : List D := [(.agg [(i 1), (i 0), (i 0), (i 0), (.str [108, 105, 109, 105, 116])])]
def d23 : D := (i 0)
theorem m23 : callable TE.P 111 = true ∧ PureC TE 111 a23 d23 ∧ d23.flat = true :=
  pure_of_runs (pok (E := TE) (ml := []) (kt := [(156, [(a18, d18), (a19, d19), (a20, d20), (a21, d21), (a22, d22)])]) tt trivial mixed ⟨⟨m18, ⟨m19, ⟨m20, ⟨m21, ⟨m22, trivial⟩⟩⟩⟩⟩, trivial⟩ xx) t111.1 (k := 100000) (n := 60) (by kernel_rfl) rfl
def a24 : List D := [q2, q4]
def d24 : D := (i 0)
theorem m24 : callable TE.P 73 = true ∧ PureC TE 73 a24 d24 ∧ d24.flat = true :=
  pure_of_runs (pok (E := TE) (ml := []) (kt := []) tt trivial mixed trivial xx) t73.1 (k := 100000) (n := 60) (by kernel_rfl) rfl
def a25 : List D := [q1, q4]
def d25 : D := (i 0)
theorem m25 : callable TE.P 62 = true ∧ PureC TE 62 a25 d25 ∧ d25.flat = true :=
  pure_of_runs (pok (E := TE) (ml := []) (kt := [(81, [(a5, d5)]), (59, [(a7, d7)]), (73, [(a24, d24)])]) tt trivial mixed ⟨⟨m5, trivial⟩, ⟨⟨m7, trivial⟩, ⟨⟨m24, trivial⟩, trivial⟩⟩⟩ xx) t62.1 (k := 100000) (n := 60) (by kernel_rfl) rfl
def a26 : List D := [(.str [111, 118, 101, 114])]
def d26 : D := (.tup [(i 0), (i 4)])
theorem m26 : callable TE.P 110 = true ∧ PureC TE 110 a26 d26 ∧ d26.flat = true :=
  pure_of_runs (pok (E := TE) (ml := []) (kt := []) tt trivial mixed trivial xx) t110.1 (k := 100000) (n := 60) (by kernel_rfl) rfl
def a27 : List D := [(.iptr [(.str [111, 118, 101, 114]), (i 0)] 0), (i 0)]
def d27 : D := (i 8)
theorem m27 : callable TE.P 156 = true ∧ PureC TE 156 a27 d27 ∧ d27.flat = true :=
  pure_of_runs (pok (E := TE) (ml := []) (kt := []) tt trivial mixed trivial xx) t156.1 (k := 100000) (n := 60) (by kernel_rfl) rfl
def a28 : List D := [(.iptr [(.str [111, 118, 101, 114]), (i 1)] 0), (i 1)]
def d28 : D := (i 8)
theorem m28 : callable TE.P 156 = true ∧ PureC TE 156 a28 d28 ∧ d28.flat = true :=
  pure_of_runs (pok (E := TE) (ml := []) (kt := []) tt trivial mixed trivial xx) t156.1 (k := 100000) (n := 60) (by kernel_rfl) rfl
def a29 : List D := [(.iptr [(.str [111, 118, 101, 114]), (i 2)] 0), (i 2)]
def d29 : D := (i 8)
theorem m29 : callable TE.P 156 = true ∧ PureC TE 156 a29 d29 ∧ d29.flat = true :=
  pure_of_runs (pok (E := TE) (ml := []) (kt := []) tt trivial mixed trivial xx) t156.1 (k := 100000) (n := 60) (by kernel_rfl) rfl
def a30 : List D := [(.iptr [(.str [111, 118, 101, 114]), (i 3)] 0), (i 3)]
def d30 : D := (i 8)
theorem m30 : callable TE.P 156 = true ∧ PureC TE 156 a30 d30 ∧ d30.flat = true :=
  pure_of_runs (pok (E := TE) (ml := []) (kt := []) tt trivial mixed trivial xx) t156.1 (k := 100000) (n := 60) (by kernel_rfl) rfl
def a31 : List D := [(.agg [(i 1), (i 0), (i 0), (i 0), (.str [111, 118, 101, 114])])]
def d31 : D := (i 0)
theorem m31 : callable TE.P 111 = true ∧ PureC TE 111 a31 d31 ∧ d31.flat = true :=
  pure_of_runs (pok (E := TE) (ml := []) (kt := [(156, [(a27, d27), (a28, d28), (a29, d29), (a30, d30)])]) tt trivial mixed ⟨⟨m27, ⟨m28, ⟨m29, ⟨m30, trivial⟩⟩⟩⟩, trivial⟩ xx) t111.1 (k := 100000) (n := 60) (by kernel_rfl) rfl
def a32 : List D := [(.str [120])]
def d32 : D := (.tup [(i 0), (i 4)])
theorem m32 : callable TE.P 110 = true ∧ PureC TE 110 a32 d32 ∧ d32.flat = true :=
  pure_of_runs (pok (E := TE) (ml := []) (kt := []) tt trivial mixed trivial xx) t110.1 (k := 100000) (n := 60) (by kernel_rfl) rfl
def a33 : List D := [(.iptr [(.str [120]), (i 0)] 0), (i 0)]
def d33 : D := (i 8)
theorem m33 : callable TE.P 156 = true ∧ PureC TE 156 a33 d33 ∧ d33.flat = true :=
  pure_of_runs (pok (E := TE) (ml := []) (kt := []) tt trivial mixed trivial xx) t156.1 (k := 100000) (n := 60) (by kernel_rfl) rfl
def a34 : List D := [(.agg [(i 1), (i 0), (i 0), (i 0), (.str [120])])]
def d34 : D := (i 0)
theorem m34 : callable TE.P 111 = true ∧ PureC TE 111 a34 d34 ∧ d34.flat = true :=
  pure_of_runs (pok (E := TE) (ml := []) (kt := [(156, [(a33, d33)])]) tt trivial mixed ⟨⟨m33, trivial⟩, trivial⟩ xx) t111.1 (k := 100000) (n := 60) (by kernel_rfl) rfl
def a35 : List D := [(.str [121])]
def d35 : D := (.tup [(i 0), (i 4)])
theorem m35 : callable TE.P 110 = true ∧ PureC TE 110 a35 d35 ∧ d35.flat = true :=
  pure_of_runs (pok (E := TE) (ml := []) (kt := []) tt trivial mixed trivial xx) t110.1 (k := 100000) (n := 60) (by kernel_rfl) rfl
end Go.Proofs.YtnpoohbeicakkaaGreatDoor
namespace Go.Proofs.YtnpoohbeicakkaaGreatDoor
open Go Zv Zv.Ab
def a36 : List D := [(.iptr [(.str [121]), (i 0)] 0), (i 0)]
def d36 : D := (i 8)
theorem m36 : callable TE.P 156 = true ∧ PureC TE 156 a36 d36 ∧ d36.flat = true :=
  pure_of_runs (pok (E := TE) (ml := []) (kt := []) tt trivial mixed trivial xx) t156.1 (k := 100000) (n := 60) (by kernel_rfl) rfl
def a37 : List D := [(.agg [(i 1), (i 0), (i 0), (i 0), (.str [121])])]
def d37 : D := (i 0)
theorem m37 : callable TE.P 111 = true ∧ PureC TE 111 a37 d37 ∧ d37.flat = true :=
  pure_of_runs (pok (E := TE) (ml := []) (kt := [(156, [(a36, d36)])]) tt trivial mixed ⟨⟨m36, trivial⟩, trivial⟩ xx) t111.1 (k := 100000) (n := 60) (by kernel_rfl) rfl
def a38 : List D := [(i 27)]
def d38 : D := (.tup [(i 2), (i 0)])
theorem m38 : callable TE.P 163 = true ∧ PureC TE 163 a38 d38 ∧ d38.flat = true :=
  pure_of_runs (pok (E := TE) (ml := []) (kt := []) tt trivial mixed trivial xx) t163.1 (k := 100000) (n := 60) (by kernel_rfl) rfl
def a39 : List D := [(.agg [(i 5), (i 27), (i 2), (.str []), (.str []), (i 0), (i 0)])]
def d39 : D := (i 0)
theorem m39 : callable TE.P 119 = true ∧ PureC TE 119 a39 d39 ∧ d39.flat = true :=
  pure_of_runs (pok (E := TE) (ml := []) (kt := [(163, [(a38, d38)])]) tt trivial mixed ⟨⟨m38, trivial⟩, trivial⟩ xx) t119.1 (k := 100000) (n := 60) (by kernel_rfl) rfl
def a40 : List D := [(.agg [(i 4), (i 0), (i 0), (.str [120]), (.str []), (i 0), (i 0)])]
def d40 : D := (i 0)
theorem m40 : callable TE.P 119 = true ∧ PureC TE 119 a40 d40 ∧ d40.flat = true :=
  pure_of_runs (pok (E := TE) (ml := []) (kt := [(110, [(a32, d32)]), (111, [(a34, d34)])]) tt trivial mixed ⟨⟨m32, trivial⟩, ⟨⟨m34, trivial⟩, trivial⟩⟩ xx) t119.1 (k := 100000) (n := 60) (by kernel_rfl) rfl
def a41 : List D := [(.agg [(i 4), (i 0), (i 0), (.str [121]), (.str []), (i 0), (i 0)])]
def d41 : D := (i 0)
theorem m41 : callable TE.P 119 = true ∧ PureC TE 119 a41 d41 ∧ d41.flat = true :=
  pure_of_runs (pok (E := TE) (ml := []) (kt := [(110, [(a35, d35)]), (111, [(a37, d37)])]) tt trivial mixed ⟨⟨m35, trivial⟩, ⟨⟨m37, trivial⟩, trivial⟩⟩ xx) t119.1 (k := 100000) (n := 60) (by kernel_rfl) rfl
def a42 : List D := [(.sl true 3 [(i 5), (i 27), (i 2), (.str []), (.str []), (i 0), (i 0), (i 4), (i 0), (i 0), (.str [120]), (.str []), (i 0), (i 0), (i 4), (i 0), (i 0), (.str [121]), (.str []), (i 0), (i 0)])]
def d42 : D := (.tup [(i 0), (i 0)])
theorem m42 : callable TE.P 42 = true ∧ PureC TE 42 a42 d42 ∧ d42.flat = true :=
  pure_of_runs (pok (E := TE) (ml := []) (kt := [(119, [(a39, d39), (a40, d40), (a41, d41)])]) tt trivial mixed ⟨⟨m39, ⟨m40, ⟨m41, trivial⟩⟩⟩, trivial⟩ xx) t42.1 (k := 100000) (n := 60) (by kernel_rfl) rfl
def a43 : List D := [(.agg [(.sl true 3 [(.str [108, 111, 119]), (.str [115, 116, 97, 102, 102]), (.str [104, 105, 103, 104])]), (.sl true 3 [(.int .u8 7), (.int .u8 6), (.int .u8 4)]), (.sl true 2 [(.str [109, 97, 114, 107, 115]), (i 1), (i 1), (i 1), (i 0), (i 2), (.str [108, 105, 109, 105, 116]), (i 1), (i 0), (i 0), (i 0), (i 0)]), (.sl true 1 [(.str [111, 118, 101, 114]), (.sl true 2 [(.str [120]), (.str [121])]), (.sl true 3 [(i 5), (i 27), (i 2), (.str []), (.str []), (i 0), (i 0), (i 4), (i 0), (i 0), (.str [120]), (.str []), (i 0), (i 0), (i 4), (i 0), (i 0), (.str [121]), (.str []), (i 0), (i 0)])])])]
def d43 : D := (i 0)
theorem m43 : callable TE.P 22 = true ∧ PureC TE 22 a43 d43 ∧ d43.flat = true :=
  pure_of_runs (pok (E := TE) (ml := []) (kt := [(59, [(a7, d7)]), (110, [(a8, d8), (a17, d17), (a26, d26), (a32, d32), (a35, d35)]), (111, [(a14, d14), (a23, d23), (a31, d31), (a34, d34), (a37, d37)]), (62, [(a16, d16), (a25, d25)]), (42, [(a42, d42)])]) tt trivial mixed ⟨⟨m7, trivial⟩, ⟨⟨m8, ⟨m17, ⟨m26, ⟨m32, ⟨m35, trivial⟩⟩⟩⟩⟩, ⟨⟨m14, ⟨m23, ⟨m31, ⟨m34, ⟨m37, trivial⟩⟩⟩⟩⟩, ⟨⟨m16, ⟨m25, trivial⟩⟩, ⟨⟨m42, trivial⟩, trivial⟩⟩⟩⟩⟩ xx) t22.1 (k := 100000) (n := 60) (by kernel_rfl) rfl
def a44 : List D := [(i 12)]
def d44 : D := (.tup [(i 1), (i 0)])
theorem m44 : callable TE.P 163 = true ∧ PureC TE 163 a44 d44 ∧ d44.flat = true :=
  pure_of_runs (pok (E := TE) (ml := []) (kt := []) tt trivial mixed trivial xx) t163.1 (k := 100000) (n := 60) (by kernel_rfl) rfl
def a45 : List D := [(.agg [(i 5), (i 12), (i 1), (.str []), (.str []), (i 0), (i 0)])]
def d45 : D := (i 0)
theorem m45 : callable TE.P 119 = true ∧ PureC TE 119 a45 d45 ∧ d45.flat = true :=
  pure_of_runs (pok (E := TE) (ml := []) (kt := [(163, [(a44, d44)])]) tt trivial mixed ⟨⟨m44, trivial⟩, trivial⟩ xx) t119.1 (k := 100000) (n := 60) (by kernel_rfl) rfl
def a46 : List D := [(.agg [(i 4), (i 0), (i 0), (.str [109, 97, 114, 107, 115]), (.str []), (i 0), (i 0)])]
def d46 : D := (i 0)
theorem m46 : callable TE.P 119 = true ∧ PureC TE 119 a46 d46 ∧ d46.flat = true :=
  pure_of_runs (pok (E := TE) (ml := []) (kt := [(110, [(a8, d8)]), (111, [(a14, d14)])]) tt trivial mixed ⟨⟨m8, trivial⟩, ⟨⟨m14, trivial⟩, trivial⟩⟩ xx) t119.1 (k := 100000) (n := 60) (by kernel_rfl) rfl
def a47 : List D := [(.sl true 2 [(i 5), (i 12), (i 1), (.str []), (.str []), (i 0), (i 0), (i 4), (i 0), (i 0), (.str [109, 97, 114, 107, 115]), (.str []), (i 0), (i 0)])]
def d47 : D := (.tup [(i 0), (i 0)])
theorem m47 : callable TE.P 42 = true ∧ PureC TE 42 a47 d47 ∧ d47.flat = true :=
  pure_of_runs (pok (E := TE) (ml := []) (kt := [(119, [(a45, d45), (a46, d46)])]) tt trivial mixed ⟨⟨m45, ⟨m46, trivial⟩⟩, trivial⟩ xx) t42.1 (k := 100000) (n := 60) (by kernel_rfl) rfl
def a48 : List D := [(.str [107, 49, 105, 48]), (.sl false 1 [(i 1)]), (.sl false 1 [(i 1)])]
def d48 : D := (.tup [(i 1), (i 0), (.bool true), (.bool true)])
theorem m48 : callable TE.P 215 = true ∧ PureC TE 215 a48 d48 ∧ d48.flat = true :=
  pure_of_runs (pok (E := TE) (ml := []) (kt := []) tt trivial mixed trivial xx) t215.1 (k := 100000) (n := 60) (by kernel_rfl) rfl
def a49 : List D := [(i 12), (.sl false 1 [(i 1)]), (.sl false 1 [(i 1)])]
def d49 : D := (.tup [(i 1), (i 0), (i 0)])
theorem m49 : callable TE.P 166 = true ∧ PureC TE 166 a49 d49 ∧ d49.flat = true :=
  pure_of_runs (pok (E := TE) (ml := []) (kt := [(215, [(a48, d48)])]) tt trivial mixed ⟨⟨m48, trivial⟩, trivial⟩ xx) t166.1 (k := 100000) (n := 60) (by kernel_rfl) rfl
end Go.Proofs.YtnpoohbeicakkaaGreatDoor
