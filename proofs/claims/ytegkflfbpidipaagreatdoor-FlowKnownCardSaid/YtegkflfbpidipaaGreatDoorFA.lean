/- Calls that are known. Conditions: none. -/
import Derived.Test.YtegkflfbpidipaaGreatDoorTX
set_option linter.unusedVariables false
set_option maxRecDepth 100000
namespace Go.Proofs.YtegkflfbpidipaaGreatDoor
open Go Zv
def a0 : List D := [(.str [97, 98, 99, 100, 101, 102, 103, 104, 105, 106, 107, 108, 109, 110, 111, 112, 113, 114, 115, 116, 117, 118, 119, 120, 121, 122, 48, 49, 50, 51, 52, 53, 54, 55, 56, 57, 45])]
def d0 : D := (.tup [(.agg [(.bool false), (.bool false), (.bool false), (.bool false), (.bool false), (.bool false), (.bool false), (.bool false), (.bool false), (.bool false), (.bool false), (.bool false), (.bool false), (.bool false), (.bool false), (.bool false), (.bool false), (.bool false), (.bool false), (.bool false), (.bool false), (.bool false), (.bool false), (.bool false), (.bool false), (.bool false), (.bool false), (.bool false), (.bool false), (.bool false), (.bool false), (.bool false), (.bool false), (.bool false), (.bool false), (.bool false), (.bool false), (.bool false), (.bool false), (.bool false), (.bool false), (.bool false), (.bool false), (.bool false), (.bool false), (.bool true), (.bool false), (.bool false), (.bool true), (.bool true), (.bool true), (.bool true), (.bool true), (.bool true), (.bool true), (.bool true), (.bool true), (.bool true), (.bool false), (.bool false), (.bool false), (.bool false), (.bool false), (.bool false), (.bool false), (.bool false), (.bool false), (.bool false), (.bool false), (.bool false), (.bool false), (.bool false), (.bool false), (.bool false), (.bool false), (.bool false), (.bool false), (.bool false), (.bool false), (.bool false), (.bool false), (.bool false), (.bool false), (.bool false), (.bool false), (.bool false), (.bool false), (.bool false), (.bool false), (.bool false), (.bool false), (.bool false), (.bool false), (.bool false), (.bool false), (.bool false), (.bool false), (.bool true), (.bool true), (.bool true), (.bool true), (.bool true), (.bool true), (.bool true), (.bool true), (.bool true), (.bool true), (.bool true), (.bool true), (.bool true), (.bool true), (.bool true), (.bool true), (.bool true), (.bool true), (.bool true), (.bool true), (.bool true), (.bool true), (.bool true), (.bool true), (.bool true), (.bool true), (.bool false), (.bool false), (.bool false), (.bool false), (.bool false), (.bool false), (.bool false), (.bool false), (.bool false), (.bool false), (.bool false), (.bool false), (.bool false), (.bool false), (.bool false), (.bool false), (.bool false), (.bool false), (.bool false), (.bool false), (.bool false), (.bool false), (.bool false), (.bool false), (.bool false), (.bool false), (.bool false), (.bool false), (.bool false), (.bool false), (.bool false), (.bool false), (.bool false), (.bool false), (.bool false), (.bool false), (.bool false), (.bool false), (.bool false), (.bool false), (.bool false), (.bool false), (.bool false), (.bool false), (.bool false), (.bool false), (.bool false), (.bool false), (.bool false), (.bool false), (.bool false), (.bool false), (.bool false), (.bool false), (.bool false), (.bool false), (.bool false), (.bool false), (.bool false), (.bool false), (.bool false), (.bool false), (.bool false), (.bool false), (.bool false), (.bool false), (.bool false), (.bool false), (.bool false), (.bool false), (.bool false), (.bool false), (.bool false), (.bool false), (.bool false), (.bool false), (.bool false), (.bool false), (.bool false), (.bool false), (.bool false), (.bool false), (.bool false), (.bool false), (.bool false), (.bool false), (.bool false), (.bool false), (.bool false), (.bool false), (.bool false), (.bool false), (.bool false), (.bool false), (.bool false), (.bool false), (.bool false), (.bool false), (.bool false), (.bool false), (.bool false), (.bool false), (.bool false), (.bool false), (.bool false), (.bool false), (.bool false), (.bool false), (.bool false), (.bool false), (.bool false), (.bool false), (.bool false), (.bool false), (.bool false), (.bool false), (.bool false), (.bool false), (.bool false), (.bool false), (.bool false), (.bool false), (.bool false), (.bool false), (.bool false), (.bool false), (.bool false), (.bool false), (.bool false), (.bool false), (.bool false), (.bool false), (.bool false)]), (.bool true)])
theorem m0 : callable TE.P 217 = true ∧ PureC TE 217 a0 d0 ∧ d0.flat = true :=
  pure_of_runs (pok (E := TE) (ml := []) (kt := []) tt trivial mixed trivial xx) t217.1 (k := 100000) (n := 60) (by kernel_rfl) rfl
def a1 : List D := [(.str [108, 111, 119]), q0]
def d1 : D := (.str [])
theorem m1 : callable TE.P 219 = true ∧ PureC TE 219 a1 d1 ∧ d1.flat = true :=
  pure_of_runs (pok (E := TE) (ml := []) (kt := []) tt trivial mixed trivial xx) t219.1 (k := 100000) (n := 60) (by kernel_rfl) rfl
def a2 : List D := [(.str [115, 116, 97, 102, 102]), q0]
def d2 : D := (.str [])
theorem m2 : callable TE.P 219 = true ∧ PureC TE 219 a2 d2 ∧ d2.flat = true :=
  pure_of_runs (pok (E := TE) (ml := []) (kt := []) tt trivial mixed trivial xx) t219.1 (k := 100000) (n := 60) (by kernel_rfl) rfl
def a3 : List D := [(.str [104, 105, 103, 104]), q0]
def d3 : D := (.str [])
theorem m3 : callable TE.P 219 = true ∧ PureC TE 219 a3 d3 ∧ d3.flat = true :=
  pure_of_runs (pok (E := TE) (ml := []) (kt := []) tt trivial mixed trivial xx) t219.1 (k := 100000) (n := 60) (by kernel_rfl) rfl
def a4 : List D := [(.sl true 3 [(.str [108, 111, 119]), (.str [115, 116, 97, 102, 102]), (.str [104, 105, 103, 104])])]
def d4 : D := (.tup [(.int .i64 0), (.int .i64 0)])
theorem m4 : callable TE.P 91 = true ∧ PureC TE 91 a4 d4 ∧ d4.flat = true :=
  pure_of_runs (pok (E := TE) (ml := []) (kt := [(217, [(a0, d0)]), (219, [(a1, d1), (a2, d2), (a3, d3)])]) tt trivial mixed ⟨⟨m0, trivial⟩, ⟨⟨m1, ⟨m2, ⟨m3, trivial⟩⟩⟩, trivial⟩⟩ xx) t91.1 (k := 100000) (n := 60) (by kernel_rfl) rfl
def a5 : List D := [(.iptr [(.sl true 3 [(.str [108, 111, 119]), (.str [115, 116, 97, 102, 102]), (.str [104, 105, 103, 104])]), (.sl true 3 [(.int .u8 7), (.int .u8 6), (.int .u8 4)])] 0)]
def d5 : D := (.agg [(.int .i64 3), (.int .u8 7), (.int .u8 6), (.int .u8 4), (.int .u8 0), (.int .u8 0), (.int .u8 0), (.int .u8 0), (.int .u8 0), (.int .u8 1), (.int .u8 3), (.int .u8 7), (.int .u8 0), (.int .u8 0), (.int .u8 0), (.int .u8 0), (.int .u8 0)])
theorem m5 : callable TE.P 63 = true ∧ PureC TE 63 a5 d5 ∧ d5.flat = true :=
  pure_of_runs (pok (E := TE) (ml := []) (kt := []) tt trivial mixed trivial xx) t63.1 (k := 100000) (n := 60) (by kernel_rfl) rfl
def a6 : List D := [(.agg [(.int .u8 1), (.int .u8 3), (.int .u8 7), (.int .u8 0), (.int .u8 0), (.int .u8 0), (.int .u8 0), (.int .u8 0)]), (.int .i64 3), (.int .i64 2), (.int .i64 2)]
def d6 : D := (.int .i64 2)
theorem m6 : callable TE.P 94 = true ∧ PureC TE 94 a6 d6 ∧ d6.flat = true :=
  pure_of_runs (pok (E := TE) (ml := []) (kt := []) tt trivial mixed trivial xx) t94.1 (k := 100000) (n := 60) (by kernel_rfl) rfl
def a7 : List D := [q1]
def d7 : D := (.tup [(.int .i64 0), (.int .i64 0)])
theorem m7 : callable TE.P 50 = true ∧ PureC TE 50 a7 d7 ∧ d7.flat = true :=
  pure_of_runs (pok (E := TE) (ml := []) (kt := [(91, [(a4, d4)]), (63, [(a5, d5)]), (94, [(a6, d6)])]) tt trivial mixed ⟨⟨m4, trivial⟩, ⟨⟨m5, trivial⟩, ⟨⟨m6, trivial⟩, trivial⟩⟩⟩ xx) t50.1 (k := 100000) (n := 60) (by kernel_rfl) rfl
def a8 : List D := [(.str [109, 97, 114, 107, 115])]
def d8 : D := (.tup [(.int .i64 0), (.int .i64 4)])
theorem m8 : callable TE.P 95 = true ∧ PureC TE 95 a8 d8 ∧ d8.flat = true :=
  pure_of_runs (pok (E := TE) (ml := []) (kt := []) tt trivial mixed trivial xx) t95.1 (k := 100000) (n := 60) (by kernel_rfl) rfl
def a9 : List D := [(.iptr [(.str [109, 97, 114, 107, 115]), (.int .i64 0)] 0), (.int .i64 0)]
def d9 : D := (.int .i64 8)
theorem m9 : callable TE.P 144 = true ∧ PureC TE 144 a9 d9 ∧ d9.flat = true :=
  pure_of_runs (pok (E := TE) (ml := []) (kt := []) tt trivial mixed trivial xx) t144.1 (k := 100000) (n := 60) (by kernel_rfl) rfl
def a10 : List D := [(.iptr [(.str [109, 97, 114, 107, 115]), (.int .i64 1)] 0), (.int .i64 1)]
def d10 : D := (.int .i64 8)
theorem m10 : callable TE.P 144 = true ∧ PureC TE 144 a10 d10 ∧ d10.flat = true :=
  pure_of_runs (pok (E := TE) (ml := []) (kt := []) tt trivial mixed trivial xx) t144.1 (k := 100000) (n := 60) (by kernel_rfl) rfl
def a11 : List D := [(.iptr [(.str [109, 97, 114, 107, 115]), (.int .i64 2)] 0), (.int .i64 2)]
def d11 : D := (.int .i64 8)
theorem m11 : callable TE.P 144 = true ∧ PureC TE 144 a11 d11 ∧ d11.flat = true :=
  pure_of_runs (pok (E := TE) (ml := []) (kt := []) tt trivial mixed trivial xx) t144.1 (k := 100000) (n := 60) (by kernel_rfl) rfl
def a12 : List D := [(.iptr [(.str [109, 97, 114, 107, 115]), (.int .i64 3)] 0), (.int .i64 3)]
def d12 : D := (.int .i64 8)
theorem m12 : callable TE.P 144 = true ∧ PureC TE 144 a12 d12 ∧ d12.flat = true :=
  pure_of_runs (pok (E := TE) (ml := []) (kt := []) tt trivial mixed trivial xx) t144.1 (k := 100000) (n := 60) (by kernel_rfl) rfl
def a13 : List D := [(.iptr [(.str [109, 97, 114, 107, 115]), (.int .i64 4)] 0), (.int .i64 4)]
def d13 : D := (.int .i64 8)
theorem m13 : callable TE.P 144 = true ∧ PureC TE 144 a13 d13 ∧ d13.flat = true :=
  pure_of_runs (pok (E := TE) (ml := []) (kt := []) tt trivial mixed trivial xx) t144.1 (k := 100000) (n := 60) (by kernel_rfl) rfl
def a14 : List D := [(.agg [(.int .i64 1), (.int .i64 0), (.int .i64 0), (.int .i64 0), (.str [109, 97, 114, 107, 115])])]
def d14 : D := (.int .i64 0)
theorem m14 : callable TE.P 96 = true ∧ PureC TE 96 a14 d14 ∧ d14.flat = true :=
  pure_of_runs (pok (E := TE) (ml := []) (kt := [(144, [(a9, d9), (a10, d10), (a11, d11), (a12, d12), (a13, d13)])]) tt trivial mixed ⟨⟨m9, ⟨m10, ⟨m11, ⟨m12, ⟨m13, trivial⟩⟩⟩⟩⟩, trivial⟩ xx) t96.1 (k := 100000) (n := 60) (by kernel_rfl) rfl
def a15 : List D := [q2, q3]
def d15 : D := (.int .i64 0)
theorem m15 : callable TE.P 98 = true ∧ PureC TE 98 a15 d15 ∧ d15.flat = true :=
  pure_of_runs (pok (E := TE) (ml := []) (kt := []) tt trivial mixed trivial xx) t98.1 (k := 100000) (n := 60) (by kernel_rfl) rfl
def a16 : List D := [q1, q3]
def d16 : D := (.int .i64 0)
theorem m16 : callable TE.P 53 = true ∧ PureC TE 53 a16 d16 ∧ d16.flat = true :=
  pure_of_runs (pok (E := TE) (ml := []) (kt := [(63, [(a5, d5)]), (50, [(a7, d7)]), (98, [(a15, d15)])]) tt trivial mixed ⟨⟨m5, trivial⟩, ⟨⟨m7, trivial⟩, ⟨⟨m15, trivial⟩, trivial⟩⟩⟩ xx) t53.1 (k := 100000) (n := 60) (by kernel_rfl) rfl
def a17 : List D := [(.str [108, 105, 109, 105, 116])]
def d17 : D := (.tup [(.int .i64 0), (.int .i64 4)])
theorem m17 : callable TE.P 95 = true ∧ PureC TE 95 a17 d17 ∧ d17.flat = true :=
  pure_of_runs (pok (E := TE) (ml := []) (kt := []) tt trivial mixed trivial xx) t95.1 (k := 100000) (n := 60) (by kernel_rfl) rfl
end Go.Proofs.YtegkflfbpidipaaGreatDoor
/- Calls that are known. Conditions: none. -/
set_option linter.unusedVariables false
set_option maxRecDepth 100000
namespace Go.Proofs.YtegkflfbpidipaaGreatDoor
open Go Zv
def a18 : List D := [(.iptr [(.str [108, 105, 109, 105, 116]), (.int .i64 0)] 0), (.int .i64 0)]
def d18 : D := (.int .i64 8)
theorem m18 : callable TE.P 144 = true ∧ PureC TE 144 a18 d18 ∧ d18.flat = true :=
  pure_of_runs (pok (E := TE) (ml := []) (kt := []) tt trivial mixed trivial xx) t144.1 (k := 100000) (n := 60) (by kernel_rfl) rfl
def a19 : List D := [(.iptr [(.str [108, 105, 109, 105, 116]), (.int .i64 1)] 0), (.int .i64 1)]
def d19 : D := (.int .i64 8)
theorem m19 : callable TE.P 144 = true ∧ PureC TE 144 a19 d19 ∧ d19.flat = true :=
  pure_of_runs (pok (E := TE) (ml := []) (kt := []) tt trivial mixed trivial xx) t144.1 (k := 100000) (n := 60) (by kernel_rfl) rfl
def a20 : List D := [(.iptr [(.str [108, 105, 109, 105, 116]), (.int .i64 2)] 0), (.int .i64 2)]
def d20 : D := (.int .i64 8)
theorem m20 : callable TE.P 144 = true ∧ PureC TE 144 a20 d20 ∧ d20.flat = true :=
  pure_of_runs (pok (E := TE) (ml := []) (kt := []) tt trivial mixed trivial xx) t144.1 (k := 100000) (n := 60) (by kernel_rfl) rfl
def a21 : List D := [(.iptr [(.str [108, 105, 109, 105, 116]), (.int .i64 3)] 0), (.int .i64 3)]
def d21 : D := (.int .i64 8)
theorem m21 : callable TE.P 144 = true ∧ PureC TE 144 a21 d21 ∧ d21.flat = true :=
  pure_of_runs (pok (E := TE) (ml := []) (kt := []) tt trivial mixed trivial xx) t144.1 (k := 100000) (n := 60) (by kernel_rfl) rfl
def a22 : List D := [(.iptr [(.str [108, 105, 109, 105, 116]), (.int .i64 4)] 0), (.int .i64 4)]
def d22 : D := (.int .i64 8)
theorem m22 : callable TE.P 144 = true ∧ PureC TE 144 a22 d22 ∧ d22.flat = true :=
  pure_of_runs (pok (E := TE) (ml := []) (kt := []) tt trivial mixed trivial xx) t144.1 (k := 100000) (n := 60) (by kernel_rfl) rfl
def a23 : List D := [(.agg [(.int .i64 1), (.int .i64 0), (.int .i64 0), (.int .i64 0), (.str [108, 105, 109, 105, 116])])]
def d23 : D := (.int .i64 0)
theorem m23 : callable TE.P 96 = true ∧ PureC TE 96 a23 d23 ∧ d23.flat = true :=
  pure_of_runs (pok (E := TE) (ml := []) (kt := [(144, [(a18, d18), (a19, d19), (a20, d20), (a21, d21), (a22, d22)])]) tt trivial mixed ⟨⟨m18, ⟨m19, ⟨m20, ⟨m21, ⟨m22, trivial⟩⟩⟩⟩⟩, trivial⟩ xx) t96.1 (k := 100000) (n := 60) (by kernel_rfl) rfl
def a24 : List D := [q2, q4]
def d24 : D := (.int .i64 0)
theorem m24 : callable TE.P 98 = true ∧ PureC TE 98 a24 d24 ∧ d24.flat = true :=
  pure_of_runs (pok (E := TE) (ml := []) (kt := []) tt trivial mixed trivial xx) t98.1 (k := 100000) (n := 60) (by kernel_rfl) rfl
def a25 : List D := [q1, q4]
def d25 : D := (.int .i64 0)
theorem m25 : callable TE.P 53 = true ∧ PureC TE 53 a25 d25 ∧ d25.flat = true :=
  pure_of_runs (pok (E := TE) (ml := []) (kt := [(63, [(a5, d5)]), (50, [(a7, d7)]), (98, [(a24, d24)])]) tt trivial mixed ⟨⟨m5, trivial⟩, ⟨⟨m7, trivial⟩, ⟨⟨m24, trivial⟩, trivial⟩⟩⟩ xx) t53.1 (k := 100000) (n := 60) (by kernel_rfl) rfl
def a26 : List D := [(.str [98, 101, 115, 116])]
def d26 : D := (.tup [(.int .i64 0), (.int .i64 4)])
theorem m26 : callable TE.P 95 = true ∧ PureC TE 95 a26 d26 ∧ d26.flat = true :=
  pure_of_runs (pok (E := TE) (ml := []) (kt := []) tt trivial mixed trivial xx) t95.1 (k := 100000) (n := 60) (by kernel_rfl) rfl
def a27 : List D := [(.iptr [(.str [98, 101, 115, 116]), (.int .i64 0)] 0), (.int .i64 0)]
def d27 : D := (.int .i64 8)
theorem m27 : callable TE.P 144 = true ∧ PureC TE 144 a27 d27 ∧ d27.flat = true :=
  pure_of_runs (pok (E := TE) (ml := []) (kt := []) tt trivial mixed trivial xx) t144.1 (k := 100000) (n := 60) (by kernel_rfl) rfl
def a28 : List D := [(.iptr [(.str [98, 101, 115, 116]), (.int .i64 1)] 0), (.int .i64 1)]
def d28 : D := (.int .i64 8)
theorem m28 : callable TE.P 144 = true ∧ PureC TE 144 a28 d28 ∧ d28.flat = true :=
  pure_of_runs (pok (E := TE) (ml := []) (kt := []) tt trivial mixed trivial xx) t144.1 (k := 100000) (n := 60) (by kernel_rfl) rfl
def a29 : List D := [(.iptr [(.str [98, 101, 115, 116]), (.int .i64 2)] 0), (.int .i64 2)]
def d29 : D := (.int .i64 8)
theorem m29 : callable TE.P 144 = true ∧ PureC TE 144 a29 d29 ∧ d29.flat = true :=
  pure_of_runs (pok (E := TE) (ml := []) (kt := []) tt trivial mixed trivial xx) t144.1 (k := 100000) (n := 60) (by kernel_rfl) rfl
def a30 : List D := [(.iptr [(.str [98, 101, 115, 116]), (.int .i64 3)] 0), (.int .i64 3)]
def d30 : D := (.int .i64 8)
theorem m30 : callable TE.P 144 = true ∧ PureC TE 144 a30 d30 ∧ d30.flat = true :=
  pure_of_runs (pok (E := TE) (ml := []) (kt := []) tt trivial mixed trivial xx) t144.1 (k := 100000) (n := 60) (by kernel_rfl) rfl
def a31 : List D := [(.agg [(.int .i64 1), (.int .i64 0), (.int .i64 0), (.int .i64 0), (.str [98, 101, 115, 116])])]
def d31 : D := (.int .i64 0)
theorem m31 : callable TE.P 96 = true ∧ PureC TE 96 a31 d31 ∧ d31.flat = true :=
  pure_of_runs (pok (E := TE) (ml := []) (kt := [(144, [(a27, d27), (a28, d28), (a29, d29), (a30, d30)])]) tt trivial mixed ⟨⟨m27, ⟨m28, ⟨m29, ⟨m30, trivial⟩⟩⟩⟩, trivial⟩ xx) t96.1 (k := 100000) (n := 60) (by kernel_rfl) rfl
def a32 : List D := [q2, q5]
def d32 : D := (.int .i64 0)
theorem m32 : callable TE.P 98 = true ∧ PureC TE 98 a32 d32 ∧ d32.flat = true :=
  pure_of_runs (pok (E := TE) (ml := []) (kt := []) tt trivial mixed trivial xx) t98.1 (k := 100000) (n := 60) (by kernel_rfl) rfl
def a33 : List D := [q1, q5]
def d33 : D := (.int .i64 0)
theorem m33 : callable TE.P 53 = true ∧ PureC TE 53 a33 d33 ∧ d33.flat = true :=
  pure_of_runs (pok (E := TE) (ml := []) (kt := [(63, [(a5, d5)]), (50, [(a7, d7)]), (98, [(a32, d32)])]) tt trivial mixed ⟨⟨m5, trivial⟩, ⟨⟨m7, trivial⟩, ⟨⟨m32, trivial⟩, trivial⟩⟩⟩ xx) t53.1 (k := 100000) (n := 60) (by kernel_rfl) rfl
def a34 : List D := [(.str [109, 97, 110, 121])]
def d34 : D := (.tup [(.int .i64 0), (.int .i64 4)])
theorem m34 : callable TE.P 95 = true ∧ PureC TE 95 a34 d34 ∧ d34.flat = true :=
  pure_of_runs (pok (E := TE) (ml := []) (kt := []) tt trivial mixed trivial xx) t95.1 (k := 100000) (n := 60) (by kernel_rfl) rfl
def a35 : List D := [(.iptr [(.str [109, 97, 110, 121]), (.int .i64 0)] 0), (.int .i64 0)]
def d35 : D := (.int .i64 8)
theorem m35 : callable TE.P 144 = true ∧ PureC TE 144 a35 d35 ∧ d35.flat = true :=
  pure_of_runs (pok (E := TE) (ml := []) (kt := []) tt trivial mixed trivial xx) t144.1 (k := 100000) (n := 60) (by kernel_rfl) rfl
def a36 : List D := [(.iptr [(.str [109, 97, 110, 121]), (.int .i64 1)] 0), (.int .i64 1)]
def d36 : D := (.int .i64 8)
theorem m36 : callable TE.P 144 = true ∧ PureC TE 144 a36 d36 ∧ d36.flat = true :=
  pure_of_runs (pok (E := TE) (ml := []) (kt := []) tt trivial mixed trivial xx) t144.1 (k := 100000) (n := 60) (by kernel_rfl) rfl
def a37 : List D := [(.iptr [(.str [109, 97, 110, 121]), (.int .i64 2)] 0), (.int .i64 2)]
def d37 : D := (.int .i64 8)
theorem m37 : callable TE.P 144 = true ∧ PureC TE 144 a37 d37 ∧ d37.flat = true :=
  pure_of_runs (pok (E := TE) (ml := []) (kt := []) tt trivial mixed trivial xx) t144.1 (k := 100000) (n := 60) (by kernel_rfl) rfl
def a38 : List D := [(.iptr [(.str [109, 97, 110, 121]), (.int .i64 3)] 0), (.int .i64 3)]
def d38 : D := (.int .i64 8)
theorem m38 : callable TE.P 144 = true ∧ PureC TE 144 a38 d38 ∧ d38.flat = true :=
  pure_of_runs (pok (E := TE) (ml := []) (kt := []) tt trivial mixed trivial xx) t144.1 (k := 100000) (n := 60) (by kernel_rfl) rfl
def a39 : List D := [(.agg [(.int .i64 1), (.int .i64 0), (.int .i64 0), (.int .i64 0), (.str [109, 97, 110, 121])])]
def d39 : D := (.int .i64 0)
theorem m39 : callable TE.P 96 = true ∧ PureC TE 96 a39 d39 ∧ d39.flat = true :=
  pure_of_runs (pok (E := TE) (ml := []) (kt := [(144, [(a35, d35), (a36, d36), (a37, d37), (a38, d38)])]) tt trivial mixed ⟨⟨m35, ⟨m36, ⟨m37, ⟨m38, trivial⟩⟩⟩⟩, trivial⟩ xx) t96.1 (k := 100000) (n := 60) (by kernel_rfl) rfl
def a40 : List D := [q2, q6]
def d40 : D := (.int .i64 0)
theorem m40 : callable TE.P 98 = true ∧ PureC TE 98 a40 d40 ∧ d40.flat = true :=
  pure_of_runs (pok (E := TE) (ml := []) (kt := []) tt trivial mixed trivial xx) t98.1 (k := 100000) (n := 60) (by kernel_rfl) rfl
def a41 : List D := [q1, q6]
def d41 : D := (.int .i64 0)
theorem m41 : callable TE.P 53 = true ∧ PureC TE 53 a41 d41 ∧ d41.flat = true :=
  pure_of_runs (pok (E := TE) (ml := []) (kt := [(63, [(a5, d5)]), (50, [(a7, d7)]), (98, [(a40, d40)])]) tt trivial mixed ⟨⟨m5, trivial⟩, ⟨⟨m7, trivial⟩, ⟨⟨m40, trivial⟩, trivial⟩⟩⟩ xx) t53.1 (k := 100000) (n := 60) (by kernel_rfl) rfl
def a42 : List D := [(.agg [(.sl true 3 [(.str [108, 111, 119]), (.str [115, 116, 97, 102, 102]), (.str [104, 105, 103, 104])]), (.sl true 3 [(.int .u8 7), (.int .u8 6), (.int .u8 4)]), (.sl false 4 [(.str [109, 97, 114, 107, 115]), (.int .i64 1), (.int .i64 1), (.int .i64 1), (.int .i64 0), (.int .i64 2), (.str [108, 105, 109, 105, 116]), (.int .i64 1), (.int .i64 0), (.int .i64 0), (.int .i64 0), (.int .i64 0), (.str [98, 101, 115, 116]), (.int .i64 1), (.int .i64 0), (.int .i64 0), (.int .i64 0), (.int .i64 2), (.str [109, 97, 110, 121]), (.int .i64 1), (.int .i64 1), (.int .i64 1), (.int .i64 0), (.int .i64 1)]), .nils])]
def d42 : D := (.int .i64 0)
theorem m42 : callable TE.P 27 = true ∧ PureC TE 27 a42 d42 ∧ d42.flat = true :=
  pure_of_runs (pok (E := TE) (ml := []) (kt := [(50, [(a7, d7)]), (95, [(a8, d8), (a17, d17), (a26, d26), (a34, d34)]), (96, [(a14, d14), (a23, d23), (a31, d31), (a39, d39)]), (53, [(a16, d16), (a25, d25), (a33, d33), (a41, d41)])]) tt trivial mixed ⟨⟨m7, trivial⟩, ⟨⟨m8, ⟨m17, ⟨m26, ⟨m34, trivial⟩⟩⟩⟩, ⟨⟨m14, ⟨m23, ⟨m31, ⟨m39, trivial⟩⟩⟩⟩, ⟨⟨m16, ⟨m25, ⟨m33, ⟨m41, trivial⟩⟩⟩⟩, trivial⟩⟩⟩⟩ xx) t27.1 (k := 100000) (n := 60) (by kernel_rfl) rfl
end Go.Proofs.YtegkflfbpidipaaGreatDoor
/- Calls that are known. Conditions: none. -/
set_option linter.unusedVariables false
set_option maxRecDepth 100000
namespace Go.Proofs.YtegkflfbpidipaaGreatDoor
open Go Zv
def a43 : List D := [(.sl false 6 [(.int .i64 0), (.int .i64 0), (.int .i64 1), (.int .i64 0), (.int .i64 2), (.int .i64 1)]), (.fn (.func 29) [] [(.iptr [(.sl true 3 [(.str [108, 111, 119]), (.str [115, 116, 97, 102, 102]), (.str [104, 105, 103, 104])]), (.sl true 3 [(.int .u8 7), (.int .u8 6), (.int .u8 4)]), (.sl false 4 [(.str [109, 97, 114, 107, 115]), (.int .i64 1), (.int .i64 1), (.int .i64 1), (.int .i64 0), (.int .i64 2), (.str [108, 105, 109, 105, 116]), (.int .i64 1), (.int .i64 0), (.int .i64 0), (.int .i64 0), (.int .i64 0), (.str [98, 101, 115, 116]), (.int .i64 1), (.int .i64 0), (.int .i64 0), (.int .i64 0), (.int .i64 2), (.str [109, 97, 110, 121]), (.int .i64 1), (.int .i64 1), (.int .i64 1), (.int .i64 0), (.int .i64 1)]), .nils, (.sl true 2 [(.str [98, 111, 97, 114, 100]), (.int .i64 1), (.str [112, 117, 98, 108, 105, 99]), (.int .i64 0)]), (.sl true 1 [(.int .i64 2), (.int .i64 1), (.int .i64 5)]), (.int .i64 0), (.int .i64 0)] 0)])]
def d43 : D := (.int .i64 (-1))
theorem m43 : callable TE.P 54 = true ∧ PureC TE 54 a43 d43 ∧ d43.flat = true :=
  pure_of_runs (pok (E := TE) (ml := []) (kt := []) tt trivial mixed trivial xx) t54.1 (k := 100000) (n := 60) (by kernel_rfl) rfl
def a44 : List D := [(.agg [(.sl true 3 [(.str [108, 111, 119]), (.str [115, 116, 97, 102, 102]), (.str [104, 105, 103, 104])]), (.sl true 3 [(.int .u8 7), (.int .u8 6), (.int .u8 4)]), (.sl false 4 [(.str [109, 97, 114, 107, 115]), (.int .i64 1), (.int .i64 1), (.int .i64 1), (.int .i64 0), (.int .i64 2), (.str [108, 105, 109, 105, 116]), (.int .i64 1), (.int .i64 0), (.int .i64 0), (.int .i64 0), (.int .i64 0), (.str [98, 101, 115, 116]), (.int .i64 1), (.int .i64 0), (.int .i64 0), (.int .i64 0), (.int .i64 2), (.str [109, 97, 110, 121]), (.int .i64 1), (.int .i64 1), (.int .i64 1), (.int .i64 0), (.int .i64 1)]), .nils, (.sl true 2 [(.str [98, 111, 97, 114, 100]), (.int .i64 1), (.str [112, 117, 98, 108, 105, 99]), (.int .i64 0)]), (.sl true 1 [(.int .i64 2), (.int .i64 1), (.int .i64 5)]), (.int .i64 0), (.int .i64 0)])]
def d44 : D := (.int .i64 0)
theorem m44 : callable TE.P 16 = true ∧ PureC TE 16 a44 d44 ∧ d44.flat = true :=
  pure_of_runs (pok (E := TE) (ml := []) (kt := [(27, [(a42, d42)]), (54, [(a43, d43)])]) tt trivial mixed ⟨⟨m42, trivial⟩, ⟨⟨m43, trivial⟩, trivial⟩⟩ xx) t16.1 (k := 100000) (n := 60) (by kernel_rfl) rfl
def a45 : List D := [(.iptr [(.str [98, 111, 97, 114, 100]), (.int .i64 0)] 0), (.int .i64 0)]
def d45 : D := (.int .i64 8)
theorem m45 : callable TE.P 144 = true ∧ PureC TE 144 a45 d45 ∧ d45.flat = true :=
  pure_of_runs (pok (E := TE) (ml := []) (kt := []) tt trivial mixed trivial xx) t144.1 (k := 100000) (n := 60) (by kernel_rfl) rfl
def a46 : List D := [(.iptr [(.str [98, 111, 97, 114, 100]), (.int .i64 1)] 0), (.int .i64 1)]
def d46 : D := (.int .i64 8)
theorem m46 : callable TE.P 144 = true ∧ PureC TE 144 a46 d46 ∧ d46.flat = true :=
  pure_of_runs (pok (E := TE) (ml := []) (kt := []) tt trivial mixed trivial xx) t144.1 (k := 100000) (n := 60) (by kernel_rfl) rfl
def a47 : List D := [(.iptr [(.str [98, 111, 97, 114, 100]), (.int .i64 2)] 0), (.int .i64 2)]
def d47 : D := (.int .i64 8)
theorem m47 : callable TE.P 144 = true ∧ PureC TE 144 a47 d47 ∧ d47.flat = true :=
  pure_of_runs (pok (E := TE) (ml := []) (kt := []) tt trivial mixed trivial xx) t144.1 (k := 100000) (n := 60) (by kernel_rfl) rfl
def a48 : List D := [(.iptr [(.str [98, 111, 97, 114, 100]), (.int .i64 3)] 0), (.int .i64 3)]
def d48 : D := (.int .i64 8)
theorem m48 : callable TE.P 144 = true ∧ PureC TE 144 a48 d48 ∧ d48.flat = true :=
  pure_of_runs (pok (E := TE) (ml := []) (kt := []) tt trivial mixed trivial xx) t144.1 (k := 100000) (n := 60) (by kernel_rfl) rfl
def a49 : List D := [(.iptr [(.str [98, 111, 97, 114, 100]), (.int .i64 4)] 0), (.int .i64 4)]
def d49 : D := (.int .i64 8)
theorem m49 : callable TE.P 144 = true ∧ PureC TE 144 a49 d49 ∧ d49.flat = true :=
  pure_of_runs (pok (E := TE) (ml := []) (kt := []) tt trivial mixed trivial xx) t144.1 (k := 100000) (n := 60) (by kernel_rfl) rfl
def a50 : List D := [(.agg [(.int .i64 1), (.int .i64 0), (.int .i64 0), (.int .i64 0), (.str [98, 111, 97, 114, 100])])]
def d50 : D := (.int .i64 0)
theorem m50 : callable TE.P 96 = true ∧ PureC TE 96 a50 d50 ∧ d50.flat = true :=
  pure_of_runs (pok (E := TE) (ml := []) (kt := [(144, [(a45, d45), (a46, d46), (a47, d47), (a48, d48), (a49, d49)])]) tt trivial mixed ⟨⟨m45, ⟨m46, ⟨m47, ⟨m48, ⟨m49, trivial⟩⟩⟩⟩⟩, trivial⟩ xx) t96.1 (k := 100000) (n := 60) (by kernel_rfl) rfl
def a51 : List D := [(.int .i64 12)]
def d51 : D := (.tup [(.int .i64 1), (.int .i64 0)])
theorem m51 : callable TE.P 153 = true ∧ PureC TE 153 a51 d51 ∧ d51.flat = true :=
  pure_of_runs (pok (E := TE) (ml := []) (kt := []) tt trivial mixed trivial xx) t153.1 (k := 100000) (n := 60) (by kernel_rfl) rfl
def a52 : List D := [(.agg [(.int .i64 5), (.int .i64 12), (.int .i64 1), (.str []), (.str []), (.int .i64 0), (.int .i64 0)])]
def d52 : D := (.int .i64 0)
theorem m52 : callable TE.P 108 = true ∧ PureC TE 108 a52 d52 ∧ d52.flat = true :=
  pure_of_runs (pok (E := TE) (ml := []) (kt := [(153, [(a51, d51)])]) tt trivial mixed ⟨⟨m51, trivial⟩, trivial⟩ xx) t108.1 (k := 100000) (n := 60) (by kernel_rfl) rfl
def a53 : List D := [(.agg [(.int .i64 4), (.int .i64 0), (.int .i64 0), (.str [109, 97, 114, 107, 115]), (.str []), (.int .i64 0), (.int .i64 0)])]
def d53 : D := (.int .i64 0)
theorem m53 : callable TE.P 108 = true ∧ PureC TE 108 a53 d53 ∧ d53.flat = true :=
  pure_of_runs (pok (E := TE) (ml := []) (kt := [(95, [(a8, d8)]), (96, [(a14, d14)])]) tt trivial mixed ⟨⟨m8, trivial⟩, ⟨⟨m14, trivial⟩, trivial⟩⟩ xx) t108.1 (k := 100000) (n := 60) (by kernel_rfl) rfl
def a54 : List D := [q7]
def d54 : D := (.tup [(.int .i64 0), (.int .i64 0)])
theorem m54 : callable TE.P 33 = true ∧ PureC TE 33 a54 d54 ∧ d54.flat = true :=
  pure_of_runs (pok (E := TE) (ml := []) (kt := [(108, [(a52, d52), (a53, d53)])]) tt trivial mixed ⟨⟨m52, ⟨m53, trivial⟩⟩, trivial⟩ xx) t33.1 (k := 100000) (n := 60) (by kernel_rfl) rfl
def a55 : List D := [q7, .nils]
def d55 : D := (.tup [(.int .i64 0), (.int .i64 0)])
theorem m55 : callable TE.P 102 = true ∧ PureC TE 102 a55 d55 ∧ d55.flat = true :=
  pure_of_runs (pok (E := TE) (ml := []) (kt := [(33, [(a54, d54)])]) tt trivial mixed ⟨⟨m54, trivial⟩, trivial⟩ xx) t102.1 (k := 100000) (n := 60) (by kernel_rfl) rfl
def a56 : List D := [(.sl true 2 [.nils, .nils])]
def d56 : D := .nils
theorem m56 : callable TE.P 107 = true ∧ PureC TE 107 a56 d56 ∧ d56.flat = true :=
  pure_of_runs (pok (E := TE) (ml := []) (kt := []) tt trivial mixed trivial xx) t107.1 (k := 100000) (n := 60) (by kernel_rfl) rfl
def a57 : List D := [(.agg [.nils, .nils, (.sl true 1 [(.int .i64 2), (.str []), (.str [98, 111, 97, 114, 100]), (.str []), (.str []), (.str []), (.int .i64 0), (.int .i64 0), (.sl true 2 [(.int .i64 5), (.int .i64 12), (.int .i64 1), (.str []), (.str []), (.int .i64 0), (.int .i64 0), (.int .i64 4), (.int .i64 0), (.int .i64 0), (.str [109, 97, 114, 107, 115]), (.str []), (.int .i64 0), (.int .i64 0)]), (.int .i64 0)])])]
def d57 : D := (.tup [(.int .i64 0), (.int .i64 0), (.int .i64 0)])
theorem m57 : callable TE.P 17 = true ∧ PureC TE 17 a57 d57 ∧ d57.flat = true :=
  pure_of_runs (pok (E := TE) (ml := []) (kt := [(96, [(a50, d50)]), (102, [(a55, d55)]), (107, [(a56, d56)])]) tt trivial mixed ⟨⟨m50, trivial⟩, ⟨⟨m55, trivial⟩, ⟨⟨m56, trivial⟩, trivial⟩⟩⟩ xx) t17.1 (k := 100000) (n := 60) (by kernel_rfl) rfl
def a58 : List D := [(.str [107, 49, 105, 48]), (.sl false 1 [(.int .i64 1)]), (.sl false 1 [(.int .i64 1)])]
def d58 : D := (.tup [(.int .i64 1), (.int .i64 0), (.bool true), (.bool true)])
theorem m58 : callable TE.P 197 = true ∧ PureC TE 197 a58 d58 ∧ d58.flat = true :=
  pure_of_runs (pok (E := TE) (ml := []) (kt := []) tt trivial mixed trivial xx) t197.1 (k := 100000) (n := 60) (by kernel_rfl) rfl
def a59 : List D := [(.int .i64 12), (.sl false 1 [(.int .i64 1)]), (.sl false 1 [(.int .i64 1)])]
def d59 : D := (.tup [(.int .i64 1), (.int .i64 0), (.int .i64 0)])
theorem m59 : callable TE.P 158 = true ∧ PureC TE 158 a59 d59 ∧ d59.flat = true :=
  pure_of_runs (pok (E := TE) (ml := []) (kt := [(197, [(a58, d58)])]) tt trivial mixed ⟨⟨m58, trivial⟩, trivial⟩ xx) t158.1 (k := 100000) (n := 60) (by kernel_rfl) rfl
def a60 : List D := [q8, (.sl true 2 [(.int .i64 1), (.int .i64 0)])]
def d60 : D := (.int .i64 1)
theorem m60 : callable TE.P 254 = true ∧ PureC TE 254 a60 d60 ∧ d60.flat = true :=
  pure_of_runs (pok (E := TE) (ml := []) (kt := []) tt trivial mixed trivial xx) t254.1 (k := 100000) (n := 60) (by kernel_rfl) rfl
def a61 : List D := [q8, (.sl true 2 [(.int .i64 0), (.int .i64 0)])]
def d61 : D := (.int .i64 0)
theorem m61 : callable TE.P 254 = true ∧ PureC TE 254 a61 d61 ∧ d61.flat = true :=
  pure_of_runs (pok (E := TE) (ml := []) (kt := []) tt trivial mixed trivial xx) t254.1 (k := 100000) (n := 60) (by kernel_rfl) rfl
def a62 : List D := [q8]
def d62 : D := (.agg [(.int .i64 0), (.int .i64 0), (.int .i64 1), (.int .i64 0), (.int .i64 1), (.int .i64 0), (.int .i64 1)])
theorem m62 : callable TE.P 205 = true ∧ PureC TE 205 a62 d62 ∧ d62.flat = true :=
  pure_of_runs (pok (E := TE) (ml := []) (kt := [(254, [(a60, d60), (a61, d61)])]) tt trivial mixed ⟨⟨m60, ⟨m61, trivial⟩⟩, trivial⟩ xx) t205.1 (k := 100000) (n := 60) (by kernel_rfl) rfl
def a63 : List D := [q1, (.int .i64 12), q9]
def d63 : D := (.tup [(.agg [(.int .i64 1), (.int .i64 0), (.int .i64 0), (.int .i64 0), (.int .i64 1), (.int .i64 0), (.int .i64 1)]), (.int .i64 0)])
theorem m63 : callable TE.P 116 = true ∧ PureC TE 116 a63 d63 ∧ d63.flat = true :=
  pure_of_runs (pok (E := TE) (ml := []) (kt := [(63, [(a5, d5)]), (50, [(a7, d7)]), (53, [(a16, d16)]), (158, [(a59, d59)]), (205, [(a62, d62)])]) tt trivial mixed ⟨⟨m5, trivial⟩, ⟨⟨m7, trivial⟩, ⟨⟨m16, trivial⟩, ⟨⟨m59, trivial⟩, ⟨⟨m62, trivial⟩, trivial⟩⟩⟩⟩⟩ xx) t116.1 (k := 100000) (n := 60) (by kernel_rfl) rfl
def a64 : List D := [q2, q10]
def d64 : D := (.int .i64 0)
theorem m64 : callable TE.P 98 = true ∧ PureC TE 98 a64 d64 ∧ d64.flat = true :=
  pure_of_runs (pok (E := TE) (ml := []) (kt := []) tt trivial mixed trivial xx) t98.1 (k := 100000) (n := 60) (by kernel_rfl) rfl
def a65 : List D := [q1, q10]
def d65 : D := (.int .i64 0)
theorem m65 : callable TE.P 53 = true ∧ PureC TE 53 a65 d65 ∧ d65.flat = true :=
  pure_of_runs (pok (E := TE) (ml := []) (kt := [(63, [(a5, d5)]), (50, [(a7, d7)]), (98, [(a64, d64)])]) tt trivial mixed ⟨⟨m5, trivial⟩, ⟨⟨m7, trivial⟩, ⟨⟨m64, trivial⟩, trivial⟩⟩⟩ xx) t53.1 (k := 100000) (n := 60) (by kernel_rfl) rfl
def a66 : List D := [q1, (.int .i64 0), (.agg [(.int .i64 1), (.int .i64 0), (.int .i64 0), (.int .i64 0), (.int .i64 1), (.int .i64 0), (.int .i64 1)])]
def d66 : D := (.tup [(.int .i64 1), (.int .i64 0)])
theorem m66 : callable TE.P 117 = true ∧ PureC TE 117 a66 d66 ∧ d66.flat = true :=
  pure_of_runs (pok (E := TE) (ml := []) (kt := [(53, [(a65, d65)])]) tt trivial mixed ⟨⟨m65, trivial⟩, trivial⟩ xx) t117.1 (k := 100000) (n := 60) (by kernel_rfl) rfl
def a67 : List D := [q11, (.int .i64 1), q12]
def d67 : D := (.int .i64 1)
theorem m67 : callable TE.P 21 = true ∧ PureC TE 21 a67 d67 ∧ d67.flat = true :=
  pure_of_runs (pok (E := TE) (ml := []) (kt := []) tt trivial mixed trivial xx) t21.1 (k := 100000) (n := 60) (by kernel_rfl) rfl
end Go.Proofs.YtegkflfbpidipaaGreatDoor
/- Calls that are known. Conditions: none. -/
set_option linter.unusedVariables false
set_option maxRecDepth 100000
namespace Go.Proofs.YtegkflfbpidipaaGreatDoor
open Go Zv
def a68 : List D := [q11, (.agg [(.int .i64 2), (.str []), (.str [98, 111, 97, 114, 100]), (.str []), (.str []), (.str []), (.int .i64 0), (.int .i64 0), (.sl true 2 [(.int .i64 5), (.int .i64 12), (.int .i64 1), (.str []), (.str []), (.int .i64 0), (.int .i64 0), (.int .i64 4), (.int .i64 0), (.int .i64 0), (.str [109, 97, 114, 107, 115]), (.str []), (.int .i64 0), (.int .i64 0)]), (.int .i64 0)]), (.int .i64 0), q13]
def d68 : D := (.int .i64 0)
theorem m68 : callable TE.P 42 = true ∧ PureC TE 42 a68 d68 ∧ d68.flat = true :=
  pure_of_runs (pok (E := TE) (ml := []) (kt := [(21, [(a67, d67)])]) tt trivial mixed ⟨⟨m67, trivial⟩, trivial⟩ xx) t42.1 (k := 100000) (n := 60) (by kernel_rfl) rfl
def a69 : List D := [(.iptr [(.str [112, 117, 98, 108, 105, 99]), (.int .i64 0)] 0), (.int .i64 0)]
def d69 : D := (.int .i64 8)
theorem m69 : callable TE.P 144 = true ∧ PureC TE 144 a69 d69 ∧ d69.flat = true :=
  pure_of_runs (pok (E := TE) (ml := []) (kt := []) tt trivial mixed trivial xx) t144.1 (k := 100000) (n := 60) (by kernel_rfl) rfl
def a70 : List D := [(.iptr [(.str [112, 117, 98, 108, 105, 99]), (.int .i64 1)] 0), (.int .i64 1)]
def d70 : D := (.int .i64 8)
theorem m70 : callable TE.P 144 = true ∧ PureC TE 144 a70 d70 ∧ d70.flat = true :=
  pure_of_runs (pok (E := TE) (ml := []) (kt := []) tt trivial mixed trivial xx) t144.1 (k := 100000) (n := 60) (by kernel_rfl) rfl
def a71 : List D := [(.iptr [(.str [112, 117, 98, 108, 105, 99]), (.int .i64 2)] 0), (.int .i64 2)]
def d71 : D := (.int .i64 8)
theorem m71 : callable TE.P 144 = true ∧ PureC TE 144 a71 d71 ∧ d71.flat = true :=
  pure_of_runs (pok (E := TE) (ml := []) (kt := []) tt trivial mixed trivial xx) t144.1 (k := 100000) (n := 60) (by kernel_rfl) rfl
def a72 : List D := [(.iptr [(.str [112, 117, 98, 108, 105, 99]), (.int .i64 3)] 0), (.int .i64 3)]
def d72 : D := (.int .i64 8)
theorem m72 : callable TE.P 144 = true ∧ PureC TE 144 a72 d72 ∧ d72.flat = true :=
  pure_of_runs (pok (E := TE) (ml := []) (kt := []) tt trivial mixed trivial xx) t144.1 (k := 100000) (n := 60) (by kernel_rfl) rfl
def a73 : List D := [(.iptr [(.str [112, 117, 98, 108, 105, 99]), (.int .i64 4)] 0), (.int .i64 4)]
def d73 : D := (.int .i64 8)
theorem m73 : callable TE.P 144 = true ∧ PureC TE 144 a73 d73 ∧ d73.flat = true :=
  pure_of_runs (pok (E := TE) (ml := []) (kt := []) tt trivial mixed trivial xx) t144.1 (k := 100000) (n := 60) (by kernel_rfl) rfl
def a74 : List D := [(.iptr [(.str [112, 117, 98, 108, 105, 99]), (.int .i64 5)] 0), (.int .i64 5)]
def d74 : D := (.int .i64 8)
theorem m74 : callable TE.P 144 = true ∧ PureC TE 144 a74 d74 ∧ d74.flat = true :=
  pure_of_runs (pok (E := TE) (ml := []) (kt := []) tt trivial mixed trivial xx) t144.1 (k := 100000) (n := 60) (by kernel_rfl) rfl
def a75 : List D := [(.agg [(.int .i64 1), (.int .i64 0), (.int .i64 0), (.int .i64 0), (.str [112, 117, 98, 108, 105, 99])])]
def d75 : D := (.int .i64 0)
theorem m75 : callable TE.P 96 = true ∧ PureC TE 96 a75 d75 ∧ d75.flat = true :=
  pure_of_runs (pok (E := TE) (ml := []) (kt := [(144, [(a69, d69), (a70, d70), (a71, d71), (a72, d72), (a73, d73), (a74, d74)])]) tt trivial mixed ⟨⟨m69, ⟨m70, ⟨m71, ⟨m72, ⟨m73, ⟨m74, trivial⟩⟩⟩⟩⟩⟩, trivial⟩ xx) t96.1 (k := 100000) (n := 60) (by kernel_rfl) rfl
def a76 : List D := [(.agg [.nils, .nils, (.sl true 1 [(.int .i64 2), (.str []), (.str [112, 117, 98, 108, 105, 99]), (.str []), (.str []), (.str []), (.int .i64 0), (.int .i64 0), (.sl true 2 [(.int .i64 5), (.int .i64 12), (.int .i64 1), (.str []), (.str []), (.int .i64 0), (.int .i64 0), (.int .i64 4), (.int .i64 0), (.int .i64 0), (.str [109, 97, 114, 107, 115]), (.str []), (.int .i64 0), (.int .i64 0)]), (.int .i64 0)])])]
def d76 : D := (.tup [(.int .i64 0), (.int .i64 0), (.int .i64 0)])
theorem m76 : callable TE.P 17 = true ∧ PureC TE 17 a76 d76 ∧ d76.flat = true :=
  pure_of_runs (pok (E := TE) (ml := []) (kt := [(102, [(a55, d55)]), (107, [(a56, d56)]), (96, [(a75, d75)])]) tt trivial mixed ⟨⟨m55, trivial⟩, ⟨⟨m56, trivial⟩, ⟨⟨m75, trivial⟩, trivial⟩⟩⟩ xx) t17.1 (k := 100000) (n := 60) (by kernel_rfl) rfl
def a77 : List D := [q14, (.int .i64 0), q12]
def d77 : D := (.int .i64 1)
theorem m77 : callable TE.P 21 = true ∧ PureC TE 21 a77 d77 ∧ d77.flat = true :=
  pure_of_runs (pok (E := TE) (ml := []) (kt := []) tt trivial mixed trivial xx) t21.1 (k := 100000) (n := 60) (by kernel_rfl) rfl
def a78 : List D := [q14, (.agg [(.int .i64 2), (.str []), (.str [112, 117, 98, 108, 105, 99]), (.str []), (.str []), (.str []), (.int .i64 0), (.int .i64 0), (.sl true 2 [(.int .i64 5), (.int .i64 12), (.int .i64 1), (.str []), (.str []), (.int .i64 0), (.int .i64 0), (.int .i64 4), (.int .i64 0), (.int .i64 0), (.str [109, 97, 114, 107, 115]), (.str []), (.int .i64 0), (.int .i64 0)]), (.int .i64 0)]), (.int .i64 0), q13]
def d78 : D := (.int .i64 25)
theorem m78 : callable TE.P 42 = true ∧ PureC TE 42 a78 d78 ∧ d78.flat = true :=
  pure_of_runs (pok (E := TE) (ml := []) (kt := [(21, [(a77, d77)])]) tt trivial mixed ⟨⟨m77, trivial⟩, trivial⟩ xx) t42.1 (k := 100000) (n := 60) (by kernel_rfl) rfl
def a79 : List D := [(.int .i64 9)]
def d79 : D := (.tup [(.int .i64 1), (.int .i64 0)])
theorem m79 : callable TE.P 153 = true ∧ PureC TE 153 a79 d79 ∧ d79.flat = true :=
  pure_of_runs (pok (E := TE) (ml := []) (kt := []) tt trivial mixed trivial xx) t153.1 (k := 100000) (n := 60) (by kernel_rfl) rfl
def a80 : List D := [(.agg [(.int .i64 5), (.int .i64 9), (.int .i64 1), (.str []), (.str []), (.int .i64 0), (.int .i64 0)])]
def d80 : D := (.int .i64 0)
theorem m80 : callable TE.P 108 = true ∧ PureC TE 108 a80 d80 ∧ d80.flat = true :=
  pure_of_runs (pok (E := TE) (ml := []) (kt := [(153, [(a79, d79)])]) tt trivial mixed ⟨⟨m79, trivial⟩, trivial⟩ xx) t108.1 (k := 100000) (n := 60) (by kernel_rfl) rfl
def a81 : List D := [q15]
def d81 : D := (.tup [(.int .i64 0), (.int .i64 0)])
theorem m81 : callable TE.P 33 = true ∧ PureC TE 33 a81 d81 ∧ d81.flat = true :=
  pure_of_runs (pok (E := TE) (ml := []) (kt := [(108, [(a53, d53), (a80, d80)])]) tt trivial mixed ⟨⟨m53, ⟨m80, trivial⟩⟩, trivial⟩ xx) t33.1 (k := 100000) (n := 60) (by kernel_rfl) rfl
def a82 : List D := [q15, .nils]
def d82 : D := (.tup [(.int .i64 0), (.int .i64 0)])
theorem m82 : callable TE.P 102 = true ∧ PureC TE 102 a82 d82 ∧ d82.flat = true :=
  pure_of_runs (pok (E := TE) (ml := []) (kt := [(33, [(a81, d81)])]) tt trivial mixed ⟨⟨m81, trivial⟩, trivial⟩ xx) t102.1 (k := 100000) (n := 60) (by kernel_rfl) rfl
def a83 : List D := [(.agg [(.int .i64 1), (.int .i64 0), (.int .i64 0), (.str []), (.str []), (.int .i64 50), (.int .i64 0)])]
def d83 : D := (.int .i64 0)
theorem m83 : callable TE.P 108 = true ∧ PureC TE 108 a83 d83 ∧ d83.flat = true :=
  pure_of_runs (pok (E := TE) (ml := []) (kt := []) tt trivial mixed trivial xx) t108.1 (k := 100000) (n := 60) (by kernel_rfl) rfl
def a84 : List D := [q16]
def d84 : D := (.tup [(.int .i64 0), (.int .i64 0)])
theorem m84 : callable TE.P 33 = true ∧ PureC TE 33 a84 d84 ∧ d84.flat = true :=
  pure_of_runs (pok (E := TE) (ml := []) (kt := [(108, [(a83, d83)])]) tt trivial mixed ⟨⟨m83, trivial⟩, trivial⟩ xx) t33.1 (k := 100000) (n := 60) (by kernel_rfl) rfl
def a85 : List D := [q16, .nils]
def d85 : D := (.tup [(.int .i64 0), (.int .i64 0)])
theorem m85 : callable TE.P 102 = true ∧ PureC TE 102 a85 d85 ∧ d85.flat = true :=
  pure_of_runs (pok (E := TE) (ml := []) (kt := [(33, [(a84, d84)])]) tt trivial mixed ⟨⟨m84, trivial⟩, trivial⟩ xx) t102.1 (k := 100000) (n := 60) (by kernel_rfl) rfl
def a86 : List D := [(.agg [.nils, .nils, (.sl true 2 [(.int .i64 1), (.str [98, 101, 115, 116]), (.str []), (.str []), (.str []), (.str []), (.int .i64 0), (.int .i64 0), (.sl true 2 [(.int .i64 5), (.int .i64 9), (.int .i64 1), (.str []), (.str []), (.int .i64 0), (.int .i64 0), (.int .i64 4), (.int .i64 0), (.int .i64 0), (.str [109, 97, 114, 107, 115]), (.str []), (.int .i64 0), (.int .i64 0)]), (.int .i64 0), (.int .i64 2), (.str []), (.str [98, 111, 97, 114, 100]), (.str []), (.str []), (.str []), (.int .i64 0), (.int .i64 0), (.sl true 1 [(.int .i64 1), (.int .i64 0), (.int .i64 0), (.str []), (.str []), (.int .i64 50), (.int .i64 0)]), (.int .i64 0)])])]
def d86 : D := (.tup [(.int .i64 0), (.int .i64 0), (.int .i64 0)])
theorem m86 : callable TE.P 17 = true ∧ PureC TE 17 a86 d86 ∧ d86.flat = true :=
  pure_of_runs (pok (E := TE) (ml := []) (kt := [(95, [(a26, d26)]), (96, [(a31, d31), (a50, d50)]), (107, [(a56, d56)]), (102, [(a82, d82), (a85, d85)])]) tt trivial mixed ⟨⟨m26, trivial⟩, ⟨⟨m31, ⟨m50, trivial⟩⟩, ⟨⟨m56, trivial⟩, ⟨⟨m82, ⟨m85, trivial⟩⟩, trivial⟩⟩⟩⟩ xx) t17.1 (k := 100000) (n := 60) (by kernel_rfl) rfl
def a87 : List D := [(.str [105, 49, 105, 48]), (.sl false 1 [(.int .i64 1)]), (.sl false 1 [(.int .i64 1)])]
def d87 : D := (.tup [(.int .i64 1), (.int .i64 0), (.bool true), (.bool true)])
theorem m87 : callable TE.P 197 = true ∧ PureC TE 197 a87 d87 ∧ d87.flat = true :=
  pure_of_runs (pok (E := TE) (ml := []) (kt := []) tt trivial mixed trivial xx) t197.1 (k := 100000) (n := 60) (by kernel_rfl) rfl
def a88 : List D := [(.int .i64 9), (.sl false 1 [(.int .i64 1)]), (.sl false 1 [(.int .i64 1)])]
def d88 : D := (.tup [(.int .i64 1), (.int .i64 0), (.int .i64 0)])
theorem m88 : callable TE.P 158 = true ∧ PureC TE 158 a88 d88 ∧ d88.flat = true :=
  pure_of_runs (pok (E := TE) (ml := []) (kt := [(197, [(a87, d87)])]) tt trivial mixed ⟨⟨m87, trivial⟩, trivial⟩ xx) t158.1 (k := 100000) (n := 60) (by kernel_rfl) rfl
def a89 : List D := [q8, (.sl true 2 [(.int .i64 2), (.int .i64 0)])]
def d89 : D := (.int .i64 2)
theorem m89 : callable TE.P 254 = true ∧ PureC TE 254 a89 d89 ∧ d89.flat = true :=
  pure_of_runs (pok (E := TE) (ml := []) (kt := []) tt trivial mixed trivial xx) t254.1 (k := 100000) (n := 60) (by kernel_rfl) rfl
end Go.Proofs.YtegkflfbpidipaaGreatDoor
