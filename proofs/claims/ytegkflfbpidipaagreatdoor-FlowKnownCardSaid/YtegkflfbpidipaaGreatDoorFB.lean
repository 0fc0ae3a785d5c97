/- Calls that are known. Conditions: none. -/
import Derived.Test.YtegkflfbpidipaaGreatDoorFA
set_option linter.unusedVariables false
set_option maxRecDepth 100000
namespace Go.Proofs.YtegkflfbpidipaaGreatDoor
open Go Zv
def a90 : List D := [q8]
def d90 : D := (.agg [(.int .i64 0), (.int .i64 0), (.int .i64 1), (.int .i64 0), (.int .i64 2), (.int .i64 2), (.int .i64 1)])
theorem m90 : callable TE.P 198 = true ∧ PureC TE 198 a90 d90 ∧ d90.flat = true :=
  pure_of_runs (pok (E := TE) (ml := []) (kt := [(254, [(a60, d60), (a61, d61), (a89, d89)])]) tt trivial mixed ⟨⟨m60, ⟨m61, ⟨m89, trivial⟩⟩⟩, trivial⟩ xx) t198.1 (k := 100000) (n := 60) (by kernel_rfl) rfl
def a91 : List D := [q1, (.int .i64 9), q9]
def d91 : D := (.tup [(.agg [(.int .i64 1), (.int .i64 0), (.int .i64 0), (.int .i64 0), (.int .i64 2), (.int .i64 2), (.int .i64 1)]), (.int .i64 0)])
theorem m91 : callable TE.P 116 = true ∧ PureC TE 116 a91 d91 ∧ d91.flat = true :=
  pure_of_runs (pok (E := TE) (ml := []) (kt := [(63, [(a5, d5)]), (50, [(a7, d7)]), (53, [(a16, d16)]), (158, [(a88, d88)]), (198, [(a90, d90)])]) tt trivial mixed ⟨⟨m5, trivial⟩, ⟨⟨m7, trivial⟩, ⟨⟨m16, trivial⟩, ⟨⟨m88, trivial⟩, ⟨⟨m90, trivial⟩, trivial⟩⟩⟩⟩⟩ xx) t116.1 (k := 100000) (n := 60) (by kernel_rfl) rfl
def a92 : List D := [q1, (.int .i64 0), (.agg [(.int .i64 1), (.int .i64 0), (.int .i64 0), (.int .i64 0), (.int .i64 2), (.int .i64 2), (.int .i64 1)])]
def d92 : D := (.tup [(.int .i64 2), (.int .i64 0)])
theorem m92 : callable TE.P 117 = true ∧ PureC TE 117 a92 d92 ∧ d92.flat = true :=
  pure_of_runs (pok (E := TE) (ml := []) (kt := [(53, [(a33, d33)])]) tt trivial mixed ⟨⟨m33, trivial⟩, trivial⟩ xx) t117.1 (k := 100000) (n := 60) (by kernel_rfl) rfl
def a93 : List D := [q17, (.int .i64 0), (.sl true 1 [(.int .i64 2)])]
def d93 : D := (.int .i64 2)
theorem m93 : callable TE.P 21 = true ∧ PureC TE 21 a93 d93 ∧ d93.flat = true :=
  pure_of_runs (pok (E := TE) (ml := []) (kt := []) tt trivial mixed trivial xx) t21.1 (k := 100000) (n := 60) (by kernel_rfl) rfl
def a94 : List D := [q18, (.str [98, 101, 115, 116])]
def d94 : D := (.tup [(.agg [(.int .i64 1), (.int .i64 0), (.int .i64 0), (.int .i64 0), (.int .i64 2)]), (.int .i64 0)])
theorem m94 : callable TE.P 115 = true ∧ PureC TE 115 a94 d94 ∧ d94.flat = true :=
  pure_of_runs (pok (E := TE) (ml := []) (kt := []) tt trivial mixed trivial xx) t115.1 (k := 100000) (n := 60) (by kernel_rfl) rfl
def a95 : List D := [(.agg [(.sl true 3 [(.str [108, 111, 119]), (.str [115, 116, 97, 102, 102]), (.str [104, 105, 103, 104])]), (.sl true 3 [(.int .u8 7), (.int .u8 6), (.int .u8 4)]), (.int .i64 0), (.int .i64 0)]), (.int .i64 2)]
def d95 : D := (.int .i64 2)
theorem m95 : callable TE.P 137 = true ∧ PureC TE 137 a95 d95 ∧ d95.flat = true :=
  pure_of_runs (pok (E := TE) (ml := []) (kt := []) tt trivial mixed trivial xx) t137.1 (k := 100000) (n := 60) (by kernel_rfl) rfl
def a96 : List D := [q1, q5, (.int .i64 0)]
def d96 : D := (.tup [(.agg [(.int .i64 1), (.int .i64 0), (.int .i64 0), (.int .i64 0), (.int .i64 2)]), (.int .i64 0)])
theorem m96 : callable TE.P 79 = true ∧ PureC TE 79 a96 d96 ∧ d96.flat = true :=
  pure_of_runs (pok (E := TE) (ml := []) (kt := [(63, [(a5, d5)]), (50, [(a7, d7)]), (98, [(a32, d32)]), (137, [(a95, d95)])]) tt trivial mixed ⟨⟨m5, trivial⟩, ⟨⟨m7, trivial⟩, ⟨⟨m32, trivial⟩, ⟨⟨m95, trivial⟩, trivial⟩⟩⟩⟩ xx) t79.1 (k := 100000) (n := 60) (by kernel_rfl) rfl
def a97 : List D := [q1, q5, q5]
def d97 : D := (.tup [(.agg [(.int .i64 1), (.int .i64 0), (.int .i64 0), (.int .i64 0), (.int .i64 2)]), (.int .i64 0)])
theorem m97 : callable TE.P 138 = true ∧ PureC TE 138 a97 d97 ∧ d97.flat = true :=
  pure_of_runs (pok (E := TE) (ml := []) (kt := [(63, [(a5, d5)]), (50, [(a7, d7)]), (98, [(a32, d32)])]) tt trivial mixed ⟨⟨m5, trivial⟩, ⟨⟨m7, trivial⟩, ⟨⟨m32, trivial⟩, trivial⟩⟩⟩ xx) t138.1 (k := 100000) (n := 60) (by kernel_rfl) rfl
def a98 : List D := [q17, (.agg [(.int .i64 1), (.str [98, 101, 115, 116]), (.str []), (.str []), (.str []), (.str []), (.int .i64 0), (.int .i64 0), (.sl true 2 [(.int .i64 5), (.int .i64 9), (.int .i64 1), (.str []), (.str []), (.int .i64 0), (.int .i64 0), (.int .i64 4), (.int .i64 0), (.int .i64 0), (.str [109, 97, 114, 107, 115]), (.str []), (.int .i64 0), (.int .i64 0)]), (.int .i64 0)]), (.int .i64 0), (.agg [(.int .i64 1), (.int .i64 0), (.int .i64 0), (.int .i64 0), (.int .i64 2), (.int .i64 2), (.sl false 1 [(.int .i64 0), (.int .i64 2)]), (.int .i64 2)])]
def d98 : D := (.int .i64 0)
theorem m98 : callable TE.P 40 = true ∧ PureC TE 40 a98 d98 ∧ d98.flat = true :=
  pure_of_runs (pok (E := TE) (ml := []) (kt := [(27, [(a42, d42)]), (115, [(a94, d94)]), (79, [(a96, d96)]), (138, [(a97, d97)])]) tt trivial mixed ⟨⟨m42, trivial⟩, ⟨⟨m94, trivial⟩, ⟨⟨m96, trivial⟩, ⟨⟨m97, trivial⟩, trivial⟩⟩⟩⟩ xx) t40.1 (k := 100000) (n := 60) (by kernel_rfl) rfl
def a99 : List D := [q19, (.int .i64 0), (.sl true 1 [(.int .i64 2)])]
def d99 : D := (.int .i64 2)
theorem m99 : callable TE.P 21 = true ∧ PureC TE 21 a99 d99 ∧ d99.flat = true :=
  pure_of_runs (pok (E := TE) (ml := []) (kt := []) tt trivial mixed trivial xx) t21.1 (k := 100000) (n := 60) (by kernel_rfl) rfl
def a100 : List D := [q19, (.int .i64 1), (.sl true 5 [(.int .i64 0), (.int .i64 0), (.int .i64 0), (.int .i64 0), (.int .i64 2)])]
def d100 : D := (.int .i64 2)
theorem m100 : callable TE.P 21 = true ∧ PureC TE 21 a100 d100 ∧ d100.flat = true :=
  pure_of_runs (pok (E := TE) (ml := []) (kt := []) tt trivial mixed trivial xx) t21.1 (k := 100000) (n := 60) (by kernel_rfl) rfl
def a101 : List D := [q19, (.agg [(.int .i64 2), (.str []), (.str [98, 111, 97, 114, 100]), (.str []), (.str []), (.str []), (.int .i64 0), (.int .i64 0), (.sl true 1 [(.int .i64 1), (.int .i64 0), (.int .i64 0), (.str []), (.str []), (.int .i64 50), (.int .i64 0)]), (.int .i64 0)]), (.int .i64 0), (.agg [(.int .i64 1), (.int .i64 0), (.int .i64 0), (.int .i64 0), (.int .i64 0), (.int .i64 2), (.sl false 1 [(.int .i64 0), (.int .i64 2)]), (.int .i64 1)])]
def d101 : D := (.int .i64 25)
theorem m101 : callable TE.P 42 = true ∧ PureC TE 42 a101 d101 ∧ d101.flat = true :=
  pure_of_runs (pok (E := TE) (ml := []) (kt := [(21, [(a100, d100)])]) tt trivial mixed ⟨⟨m100, trivial⟩, trivial⟩ xx) t42.1 (k := 100000) (n := 60) (by kernel_rfl) rfl
def a102 : List D := [(.iptr [(.str [104, 105, 103, 104]), (.int .i64 0)] 0), (.int .i64 0)]
def d102 : D := (.int .i64 8)
theorem m102 : callable TE.P 144 = true ∧ PureC TE 144 a102 d102 ∧ d102.flat = true :=
  pure_of_runs (pok (E := TE) (ml := []) (kt := []) tt trivial mixed trivial xx) t144.1 (k := 100000) (n := 60) (by kernel_rfl) rfl
def a103 : List D := [(.iptr [(.str [104, 105, 103, 104]), (.int .i64 1)] 0), (.int .i64 1)]
def d103 : D := (.int .i64 8)
theorem m103 : callable TE.P 144 = true ∧ PureC TE 144 a103 d103 ∧ d103.flat = true :=
  pure_of_runs (pok (E := TE) (ml := []) (kt := []) tt trivial mixed trivial xx) t144.1 (k := 100000) (n := 60) (by kernel_rfl) rfl
def a104 : List D := [(.iptr [(.str [104, 105, 103, 104]), (.int .i64 2)] 0), (.int .i64 2)]
def d104 : D := (.int .i64 8)
theorem m104 : callable TE.P 144 = true ∧ PureC TE 144 a104 d104 ∧ d104.flat = true :=
  pure_of_runs (pok (E := TE) (ml := []) (kt := []) tt trivial mixed trivial xx) t144.1 (k := 100000) (n := 60) (by kernel_rfl) rfl
def a105 : List D := [(.iptr [(.str [104, 105, 103, 104]), (.int .i64 3)] 0), (.int .i64 3)]
def d105 : D := (.int .i64 8)
theorem m105 : callable TE.P 144 = true ∧ PureC TE 144 a105 d105 ∧ d105.flat = true :=
  pure_of_runs (pok (E := TE) (ml := []) (kt := []) tt trivial mixed trivial xx) t144.1 (k := 100000) (n := 60) (by kernel_rfl) rfl
def a106 : List D := [(.agg [(.int .i64 1), (.int .i64 0), (.int .i64 0), (.int .i64 0), (.str [104, 105, 103, 104])])]
def d106 : D := (.int .i64 0)
theorem m106 : callable TE.P 96 = true ∧ PureC TE 96 a106 d106 ∧ d106.flat = true :=
  pure_of_runs (pok (E := TE) (ml := []) (kt := [(144, [(a102, d102), (a103, d103), (a104, d104), (a105, d105)])]) tt trivial mixed ⟨⟨m102, ⟨m103, ⟨m104, ⟨m105, trivial⟩⟩⟩⟩, trivial⟩ xx) t96.1 (k := 100000) (n := 60) (by kernel_rfl) rfl
def a107 : List D := [(.iptr [(.str [115, 116, 97, 102, 102]), (.int .i64 0)] 0), (.int .i64 0)]
def d107 : D := (.int .i64 8)
theorem m107 : callable TE.P 144 = true ∧ PureC TE 144 a107 d107 ∧ d107.flat = true :=
  pure_of_runs (pok (E := TE) (ml := []) (kt := []) tt trivial mixed trivial xx) t144.1 (k := 100000) (n := 60) (by kernel_rfl) rfl
def a108 : List D := [(.iptr [(.str [115, 116, 97, 102, 102]), (.int .i64 1)] 0), (.int .i64 1)]
def d108 : D := (.int .i64 8)
theorem m108 : callable TE.P 144 = true ∧ PureC TE 144 a108 d108 ∧ d108.flat = true :=
  pure_of_runs (pok (E := TE) (ml := []) (kt := []) tt trivial mixed trivial xx) t144.1 (k := 100000) (n := 60) (by kernel_rfl) rfl
def a109 : List D := [(.iptr [(.str [115, 116, 97, 102, 102]), (.int .i64 2)] 0), (.int .i64 2)]
def d109 : D := (.int .i64 8)
theorem m109 : callable TE.P 144 = true ∧ PureC TE 144 a109 d109 ∧ d109.flat = true :=
  pure_of_runs (pok (E := TE) (ml := []) (kt := []) tt trivial mixed trivial xx) t144.1 (k := 100000) (n := 60) (by kernel_rfl) rfl
def a110 : List D := [(.iptr [(.str [115, 116, 97, 102, 102]), (.int .i64 3)] 0), (.int .i64 3)]
def d110 : D := (.int .i64 8)
theorem m110 : callable TE.P 144 = true ∧ PureC TE 144 a110 d110 ∧ d110.flat = true :=
  pure_of_runs (pok (E := TE) (ml := []) (kt := []) tt trivial mixed trivial xx) t144.1 (k := 100000) (n := 60) (by kernel_rfl) rfl
def a111 : List D := [(.iptr [(.str [115, 116, 97, 102, 102]), (.int .i64 4)] 0), (.int .i64 4)]
def d111 : D := (.int .i64 8)
theorem m111 : callable TE.P 144 = true ∧ PureC TE 144 a111 d111 ∧ d111.flat = true :=
  pure_of_runs (pok (E := TE) (ml := []) (kt := []) tt trivial mixed trivial xx) t144.1 (k := 100000) (n := 60) (by kernel_rfl) rfl
def a112 : List D := [(.agg [(.int .i64 1), (.int .i64 0), (.int .i64 0), (.int .i64 0), (.str [115, 116, 97, 102, 102])])]
def d112 : D := (.int .i64 0)
theorem m112 : callable TE.P 96 = true ∧ PureC TE 96 a112 d112 ∧ d112.flat = true :=
  pure_of_runs (pok (E := TE) (ml := []) (kt := [(144, [(a107, d107), (a108, d108), (a109, d109), (a110, d110), (a111, d111)])]) tt trivial mixed ⟨⟨m107, ⟨m108, ⟨m109, ⟨m110, ⟨m111, trivial⟩⟩⟩⟩⟩, trivial⟩ xx) t96.1 (k := 100000) (n := 60) (by kernel_rfl) rfl
def a113 : List D := [(.int .i64 27)]
def d113 : D := (.tup [(.int .i64 2), (.int .i64 0)])
theorem m113 : callable TE.P 153 = true ∧ PureC TE 153 a113 d113 ∧ d113.flat = true :=
  pure_of_runs (pok (E := TE) (ml := []) (kt := []) tt trivial mixed trivial xx) t153.1 (k := 100000) (n := 60) (by kernel_rfl) rfl
def a114 : List D := [(.agg [(.int .i64 5), (.int .i64 27), (.int .i64 2), (.str []), (.str []), (.int .i64 0), (.int .i64 0)])]
def d114 : D := (.int .i64 0)
theorem m114 : callable TE.P 108 = true ∧ PureC TE 108 a114 d114 ∧ d114.flat = true :=
  pure_of_runs (pok (E := TE) (ml := []) (kt := [(153, [(a113, d113)])]) tt trivial mixed ⟨⟨m113, trivial⟩, trivial⟩ xx) t108.1 (k := 100000) (n := 60) (by kernel_rfl) rfl
def a115 : List D := [q20]
def d115 : D := (.tup [(.int .i64 0), (.int .i64 0)])
theorem m115 : callable TE.P 33 = true ∧ PureC TE 33 a115 d115 ∧ d115.flat = true :=
  pure_of_runs (pok (E := TE) (ml := []) (kt := [(108, [(a53, d53), (a83, d83), (a114, d114)])]) tt trivial mixed ⟨⟨m53, ⟨m83, ⟨m114, trivial⟩⟩⟩, trivial⟩ xx) t33.1 (k := 100000) (n := 60) (by kernel_rfl) rfl
def a116 : List D := [q20, .nils]
def d116 : D := (.tup [(.int .i64 0), (.int .i64 0)])
theorem m116 : callable TE.P 102 = true ∧ PureC TE 102 a116 d116 ∧ d116.flat = true :=
  pure_of_runs (pok (E := TE) (ml := []) (kt := [(33, [(a115, d115)])]) tt trivial mixed ⟨⟨m115, trivial⟩, trivial⟩ xx) t102.1 (k := 100000) (n := 60) (by kernel_rfl) rfl
def a117 : List D := [(.agg [.nils, .nils, (.sl true 1 [(.int .i64 5), (.str [109, 97, 110, 121]), (.str []), (.str [99, 111, 117, 110, 116]), (.str [104, 105, 103, 104]), (.str [115, 116, 97, 102, 102]), (.int .i64 0), (.int .i64 0), (.sl true 3 [(.int .i64 5), (.int .i64 27), (.int .i64 2), (.str []), (.str []), (.int .i64 0), (.int .i64 0), (.int .i64 4), (.int .i64 0), (.int .i64 0), (.str [109, 97, 114, 107, 115]), (.str []), (.int .i64 0), (.int .i64 0), (.int .i64 1), (.int .i64 0), (.int .i64 0), (.str []), (.str []), (.int .i64 50), (.int .i64 0)]), (.int .i64 0)])])]
def d117 : D := (.tup [(.int .i64 0), (.int .i64 0), (.int .i64 0)])
theorem m117 : callable TE.P 17 = true ∧ PureC TE 17 a117 d117 ∧ d117.flat = true :=
  pure_of_runs (pok (E := TE) (ml := []) (kt := [(95, [(a34, d34)]), (96, [(a39, d39), (a106, d106), (a112, d112)]), (107, [(a56, d56)]), (102, [(a116, d116)])]) tt trivial mixed ⟨⟨m34, trivial⟩, ⟨⟨m39, ⟨m106, ⟨m112, trivial⟩⟩⟩, ⟨⟨m56, trivial⟩, ⟨⟨m116, trivial⟩, trivial⟩⟩⟩⟩ xx) t17.1 (k := 100000) (n := 60) (by kernel_rfl) rfl
def a118 : List D := [(.str [105, 48, 105, 110, 105, 110]), (.sl false 2 [(.int .i64 1), (.int .i64 1)]), (.sl false 2 [(.int .i64 1), (.int .i64 0)])]
def d118 : D := (.tup [(.int .i64 1), (.int .i64 0), (.bool true), (.bool false)])
theorem m118 : callable TE.P 197 = true ∧ PureC TE 197 a118 d118 ∧ d118.flat = true :=
  pure_of_runs (pok (E := TE) (ml := []) (kt := []) tt trivial mixed trivial xx) t197.1 (k := 100000) (n := 60) (by kernel_rfl) rfl
def a119 : List D := [(.str [105, 110, 105, 48, 105, 110]), (.sl false 2 [(.int .i64 1), (.int .i64 1)]), (.sl false 2 [(.int .i64 1), (.int .i64 0)])]
def d119 : D := (.tup [(.int .i64 1), (.int .i64 1), (.bool true), (.bool true)])
theorem m119 : callable TE.P 197 = true ∧ PureC TE 197 a119 d119 ∧ d119.flat = true :=
  pure_of_runs (pok (E := TE) (ml := []) (kt := []) tt trivial mixed trivial xx) t197.1 (k := 100000) (n := 60) (by kernel_rfl) rfl
def a120 : List D := [(.int .i64 27), (.sl false 2 [(.int .i64 1), (.int .i64 1)]), (.sl false 2 [(.int .i64 1), (.int .i64 0)])]
def d120 : D := (.tup [(.int .i64 1), (.int .i64 1), (.int .i64 0)])
theorem m120 : callable TE.P 158 = true ∧ PureC TE 158 a120 d120 ∧ d120.flat = true :=
  pure_of_runs (pok (E := TE) (ml := []) (kt := [(197, [(a118, d118), (a119, d119)])]) tt trivial mixed ⟨⟨m118, ⟨m119, trivial⟩⟩, trivial⟩ xx) t158.1 (k := 100000) (n := 60) (by kernel_rfl) rfl
end Go.Proofs.YtegkflfbpidipaaGreatDoor
/- Calls that are known. Conditions: none. -/
set_option linter.unusedVariables false
set_option maxRecDepth 100000
namespace Go.Proofs.YtegkflfbpidipaaGreatDoor
open Go Zv
def a121 : List D := [q21, (.sl true 2 [(.int .i64 1), (.int .i64 0)])]
def d121 : D := (.int .i64 1)
theorem m121 : callable TE.P 254 = true ∧ PureC TE 254 a121 d121 ∧ d121.flat = true :=
  pure_of_runs (pok (E := TE) (ml := []) (kt := []) tt trivial mixed trivial xx) t254.1 (k := 100000) (n := 60) (by kernel_rfl) rfl
def a122 : List D := [q21, (.sl true 2 [(.int .i64 0), (.int .i64 0)])]
def d122 : D := (.int .i64 0)
theorem m122 : callable TE.P 254 = true ∧ PureC TE 254 a122 d122 ∧ d122.flat = true :=
  pure_of_runs (pok (E := TE) (ml := []) (kt := []) tt trivial mixed trivial xx) t254.1 (k := 100000) (n := 60) (by kernel_rfl) rfl
def a123 : List D := [q21, (.sl true 2 [(.int .i64 2), (.int .i64 0)])]
def d123 : D := (.int .i64 2)
theorem m123 : callable TE.P 254 = true ∧ PureC TE 254 a123 d123 ∧ d123.flat = true :=
  pure_of_runs (pok (E := TE) (ml := []) (kt := []) tt trivial mixed trivial xx) t254.1 (k := 100000) (n := 60) (by kernel_rfl) rfl
def a124 : List D := [q21]
def d124 : D := (.agg [(.int .i64 0), (.int .i64 0), (.int .i64 1), (.int .i64 0), (.int .i64 2), (.int .i64 0), (.int .i64 1)])
theorem m124 : callable TE.P 211 = true ∧ PureC TE 211 a124 d124 ∧ d124.flat = true :=
  pure_of_runs (pok (E := TE) (ml := []) (kt := [(254, [(a121, d121), (a122, d122), (a123, d123)])]) tt trivial mixed ⟨⟨m121, ⟨m122, ⟨m123, trivial⟩⟩⟩, trivial⟩ xx) t211.1 (k := 100000) (n := 60) (by kernel_rfl) rfl
def a125 : List D := [q1, (.int .i64 27), q22]
def d125 : D := (.tup [(.agg [(.int .i64 1), (.int .i64 1), (.int .i64 1), (.int .i64 0), (.int .i64 2), (.int .i64 0), (.int .i64 1)]), (.int .i64 0)])
theorem m125 : callable TE.P 116 = true ∧ PureC TE 116 a125 d125 ∧ d125.flat = true :=
  pure_of_runs (pok (E := TE) (ml := []) (kt := [(63, [(a5, d5)]), (50, [(a7, d7)]), (53, [(a16, d16), (a25, d25)]), (158, [(a120, d120)]), (211, [(a124, d124)])]) tt trivial mixed ⟨⟨m5, trivial⟩, ⟨⟨m7, trivial⟩, ⟨⟨m16, ⟨m25, trivial⟩⟩, ⟨⟨m120, trivial⟩, ⟨⟨m124, trivial⟩, trivial⟩⟩⟩⟩⟩ xx) t116.1 (k := 100000) (n := 60) (by kernel_rfl) rfl
def a126 : List D := [q1, (.int .i64 0), (.agg [(.int .i64 1), (.int .i64 1), (.int .i64 1), (.int .i64 0), (.int .i64 2), (.int .i64 0), (.int .i64 1)])]
def d126 : D := (.tup [(.int .i64 1), (.int .i64 0)])
theorem m126 : callable TE.P 117 = true ∧ PureC TE 117 a126 d126 ∧ d126.flat = true :=
  pure_of_runs (pok (E := TE) (ml := []) (kt := [(53, [(a16, d16)])]) tt trivial mixed ⟨⟨m16, trivial⟩, trivial⟩ xx) t117.1 (k := 100000) (n := 60) (by kernel_rfl) rfl
def a127 : List D := [q18, (.fn (.func 157) [] [(.iptr [(.str [109, 97, 110, 121])] 0)])]
def d127 : D := (.int .i64 3)
theorem m127 : callable TE.P 156 = true ∧ PureC TE 156 a127 d127 ∧ d127.flat = true :=
  pure_of_runs (pok (E := TE) (ml := []) (kt := []) tt trivial mixed trivial xx) t156.1 (k := 100000) (n := 60) (by kernel_rfl) rfl
def a128 : List D := [q1, (.str [104, 105, 103, 104])]
def d128 : D := (.tup [(.int .i64 2), (.int .i64 0)])
theorem m128 : callable TE.P 85 = true ∧ PureC TE 85 a128 d128 ∧ d128.flat = true :=
  pure_of_runs (pok (E := TE) (ml := []) (kt := [(50, [(a7, d7)])]) tt trivial mixed ⟨⟨m7, trivial⟩, trivial⟩ xx) t85.1 (k := 100000) (n := 60) (by kernel_rfl) rfl
def a129 : List D := [q1, (.str [115, 116, 97, 102, 102])]
def d129 : D := (.tup [(.int .i64 1), (.int .i64 0)])
theorem m129 : callable TE.P 85 = true ∧ PureC TE 85 a129 d129 ∧ d129.flat = true :=
  pure_of_runs (pok (E := TE) (ml := []) (kt := [(50, [(a7, d7)])]) tt trivial mixed ⟨⟨m7, trivial⟩, trivial⟩ xx) t85.1 (k := 100000) (n := 60) (by kernel_rfl) rfl
def a130 : List D := [(.sl true 4 [(.int .i64 0), (.int .i64 0), (.int .i64 0), (.int .i64 0)]), (.fn (.func 88) [] [])]
def d130 : D := (.int .i64 (-1))
theorem m130 : callable TE.P 140 = true ∧ PureC TE 140 a130 d130 ∧ d130.flat = true :=
  pure_of_runs (pok (E := TE) (ml := []) (kt := []) tt trivial mixed trivial xx) t140.1 (k := 100000) (n := 60) (by kernel_rfl) rfl
def a131 : List D := [q23, (.int .i64 2), (.sl true 2 [(.int .i64 1), (.int .i64 2)])]
def d131 : D := (.int .i64 2)
theorem m131 : callable TE.P 21 = true ∧ PureC TE 21 a131 d131 ∧ d131.flat = true :=
  pure_of_runs (pok (E := TE) (ml := []) (kt := []) tt trivial mixed trivial xx) t21.1 (k := 100000) (n := 60) (by kernel_rfl) rfl
def a132 : List D := [q23, (.int .i64 1), (.sl true 2 [(.int .i64 0), (.int .i64 1)])]
def d132 : D := (.int .i64 1)
theorem m132 : callable TE.P 21 = true ∧ PureC TE 21 a132 d132 ∧ d132.flat = true :=
  pure_of_runs (pok (E := TE) (ml := []) (kt := []) tt trivial mixed trivial xx) t21.1 (k := 100000) (n := 60) (by kernel_rfl) rfl
def a133 : List D := [q23, (.int .i64 1), (.sl true 1 [(.int .i64 1)])]
def d133 : D := (.bool true)
theorem m133 : callable TE.P 83 = true ∧ PureC TE 83 a133 d133 ∧ d133.flat = true :=
  pure_of_runs (pok (E := TE) (ml := []) (kt := []) tt trivial mixed trivial xx) t83.1 (k := 100000) (n := 60) (by kernel_rfl) rfl
def a134 : List D := [q23, (.agg [(.int .i64 5), (.str [109, 97, 110, 121]), (.str []), (.str [99, 111, 117, 110, 116]), (.str [104, 105, 103, 104]), (.str [115, 116, 97, 102, 102]), (.int .i64 0), (.int .i64 0), (.sl true 3 [(.int .i64 5), (.int .i64 27), (.int .i64 2), (.str []), (.str []), (.int .i64 0), (.int .i64 0), (.int .i64 4), (.int .i64 0), (.int .i64 0), (.str [109, 97, 114, 107, 115]), (.str []), (.int .i64 0), (.int .i64 0), (.int .i64 1), (.int .i64 0), (.int .i64 0), (.str []), (.str []), (.int .i64 50), (.int .i64 0)]), (.int .i64 0)]), (.int .i64 0), (.agg [(.int .i64 1), (.int .i64 1), (.int .i64 1), (.int .i64 0), (.int .i64 2), (.int .i64 1), (.sl false 1 [(.int .i64 0), (.int .i64 1)]), (.int .i64 3)])]
def d134 : D := (.int .i64 0)
theorem m134 : callable TE.P 46 = true ∧ PureC TE 46 a134 d134 ∧ d134.flat = true :=
  pure_of_runs (pok (E := TE) (ml := []) (kt := [(27, [(a42, d42)]), (156, [(a127, d127)]), (85, [(a128, d128), (a129, d129)]), (140, [(a130, d130)]), (21, [(a131, d131), (a132, d132)]), (83, [(a133, d133)])]) tt trivial mixed ⟨⟨m42, trivial⟩, ⟨⟨m127, trivial⟩, ⟨⟨m128, ⟨m129, trivial⟩⟩, ⟨⟨m130, trivial⟩, ⟨⟨m131, ⟨m132, trivial⟩⟩, ⟨⟨m133, trivial⟩, trivial⟩⟩⟩⟩⟩⟩ xx) t46.1 (k := 100000) (n := 60) (by kernel_rfl) rfl
def a135 : List D := [(.int .i64 15)]
def d135 : D := (.tup [(.int .i64 2), (.int .i64 0)])
theorem m135 : callable TE.P 153 = true ∧ PureC TE 153 a135 d135 ∧ d135.flat = true :=
  pure_of_runs (pok (E := TE) (ml := []) (kt := []) tt trivial mixed trivial xx) t153.1 (k := 100000) (n := 60) (by kernel_rfl) rfl
def a136 : List D := [(.agg [(.int .i64 5), (.int .i64 15), (.int .i64 2), (.str []), (.str []), (.int .i64 0), (.int .i64 0)])]
def d136 : D := (.int .i64 0)
theorem m136 : callable TE.P 108 = true ∧ PureC TE 108 a136 d136 ∧ d136.flat = true :=
  pure_of_runs (pok (E := TE) (ml := []) (kt := [(153, [(a135, d135)])]) tt trivial mixed ⟨⟨m135, trivial⟩, trivial⟩ xx) t108.1 (k := 100000) (n := 60) (by kernel_rfl) rfl
def a137 : List D := [q24]
def d137 : D := (.tup [(.int .i64 0), (.int .i64 0)])
theorem m137 : callable TE.P 33 = true ∧ PureC TE 33 a137 d137 ∧ d137.flat = true :=
  pure_of_runs (pok (E := TE) (ml := []) (kt := [(108, [(a53, d53), (a83, d83), (a136, d136)])]) tt trivial mixed ⟨⟨m53, ⟨m83, ⟨m136, trivial⟩⟩⟩, trivial⟩ xx) t33.1 (k := 100000) (n := 60) (by kernel_rfl) rfl
def a138 : List D := [q24, .nils]
def d138 : D := (.tup [(.int .i64 0), (.int .i64 0)])
theorem m138 : callable TE.P 102 = true ∧ PureC TE 102 a138 d138 ∧ d138.flat = true :=
  pure_of_runs (pok (E := TE) (ml := []) (kt := [(33, [(a137, d137)])]) tt trivial mixed ⟨⟨m137, trivial⟩, trivial⟩ xx) t102.1 (k := 100000) (n := 60) (by kernel_rfl) rfl
def a139 : List D := [(.agg [.nils, .nils, (.sl true 1 [(.int .i64 5), (.str [109, 97, 110, 121]), (.str []), (.str [99, 111, 117, 110, 116]), (.str [104, 105, 103, 104]), (.str [115, 116, 97, 102, 102]), (.int .i64 0), (.int .i64 0), (.sl true 3 [(.int .i64 5), (.int .i64 15), (.int .i64 2), (.str []), (.str []), (.int .i64 0), (.int .i64 0), (.int .i64 4), (.int .i64 0), (.int .i64 0), (.str [109, 97, 114, 107, 115]), (.str []), (.int .i64 0), (.int .i64 0), (.int .i64 1), (.int .i64 0), (.int .i64 0), (.str []), (.str []), (.int .i64 50), (.int .i64 0)]), (.int .i64 0)])])]
def d139 : D := (.tup [(.int .i64 0), (.int .i64 0), (.int .i64 0)])
theorem m139 : callable TE.P 17 = true ∧ PureC TE 17 a139 d139 ∧ d139.flat = true :=
  pure_of_runs (pok (E := TE) (ml := []) (kt := [(95, [(a34, d34)]), (96, [(a39, d39), (a106, d106), (a112, d112)]), (107, [(a56, d56)]), (102, [(a138, d138)])]) tt trivial mixed ⟨⟨m34, trivial⟩, ⟨⟨m39, ⟨m106, ⟨m112, trivial⟩⟩⟩, ⟨⟨m56, trivial⟩, ⟨⟨m138, trivial⟩, trivial⟩⟩⟩⟩ xx) t17.1 (k := 100000) (n := 60) (by kernel_rfl) rfl
def a140 : List D := [(.int .i64 15), (.sl false 2 [(.int .i64 1), (.int .i64 1)]), (.sl false 2 [(.int .i64 1), (.int .i64 0)])]
def d140 : D := (.tup [(.int .i64 1), (.int .i64 1), (.int .i64 0)])
theorem m140 : callable TE.P 158 = true ∧ PureC TE 158 a140 d140 ∧ d140.flat = true :=
  pure_of_runs (pok (E := TE) (ml := []) (kt := [(197, [(a118, d118), (a119, d119)])]) tt trivial mixed ⟨⟨m118, ⟨m119, trivial⟩⟩, trivial⟩ xx) t158.1 (k := 100000) (n := 60) (by kernel_rfl) rfl
def a141 : List D := [q1, (.int .i64 15), q22]
def d141 : D := (.tup [(.agg [(.int .i64 1), (.int .i64 1), (.int .i64 1), (.int .i64 0), (.int .i64 2), (.int .i64 2), (.int .i64 1)]), (.int .i64 0)])
theorem m141 : callable TE.P 116 = true ∧ PureC TE 116 a141 d141 ∧ d141.flat = true :=
  pure_of_runs (pok (E := TE) (ml := []) (kt := [(63, [(a5, d5)]), (50, [(a7, d7)]), (53, [(a16, d16), (a25, d25)]), (254, [(a123, d123)]), (211, [(a124, d124)]), (158, [(a140, d140)])]) tt trivial mixed ⟨⟨m5, trivial⟩, ⟨⟨m7, trivial⟩, ⟨⟨m16, ⟨m25, trivial⟩⟩, ⟨⟨m123, trivial⟩, ⟨⟨m124, trivial⟩, ⟨⟨m140, trivial⟩, trivial⟩⟩⟩⟩⟩⟩ xx) t116.1 (k := 100000) (n := 60) (by kernel_rfl) rfl
end Go.Proofs.YtegkflfbpidipaaGreatDoor
/- Calls that are known. Conditions: none. -/
set_option linter.unusedVariables false
set_option maxRecDepth 100000
namespace Go.Proofs.YtegkflfbpidipaaGreatDoor
open Go Zv
def a142 : List D := [q1, (.int .i64 0), (.agg [(.int .i64 1), (.int .i64 1), (.int .i64 1), (.int .i64 0), (.int .i64 2), (.int .i64 2), (.int .i64 1)])]
def d142 : D := (.tup [(.int .i64 2), (.int .i64 0)])
theorem m142 : callable TE.P 117 = true ∧ PureC TE 117 a142 d142 ∧ d142.flat = true :=
  pure_of_runs (pok (E := TE) (ml := []) (kt := [(53, [(a16, d16)])]) tt trivial mixed ⟨⟨m16, trivial⟩, trivial⟩ xx) t117.1 (k := 100000) (n := 60) (by kernel_rfl) rfl
def a143 : List D := [q25, (.int .i64 0), (.sl true 1 [(.int .i64 2)])]
def d143 : D := (.int .i64 2)
theorem m143 : callable TE.P 21 = true ∧ PureC TE 21 a143 d143 ∧ d143.flat = true :=
  pure_of_runs (pok (E := TE) (ml := []) (kt := []) tt trivial mixed trivial xx) t21.1 (k := 100000) (n := 60) (by kernel_rfl) rfl
def a144 : List D := [q25, (.int .i64 2), (.sl true 2 [(.int .i64 1), (.int .i64 2)])]
def d144 : D := (.int .i64 2)
theorem m144 : callable TE.P 21 = true ∧ PureC TE 21 a144 d144 ∧ d144.flat = true :=
  pure_of_runs (pok (E := TE) (ml := []) (kt := []) tt trivial mixed trivial xx) t21.1 (k := 100000) (n := 60) (by kernel_rfl) rfl
def a145 : List D := [q25, (.int .i64 1), (.sl true 2 [(.int .i64 0), (.int .i64 2)])]
def d145 : D := (.int .i64 2)
theorem m145 : callable TE.P 21 = true ∧ PureC TE 21 a145 d145 ∧ d145.flat = true :=
  pure_of_runs (pok (E := TE) (ml := []) (kt := []) tt trivial mixed trivial xx) t21.1 (k := 100000) (n := 60) (by kernel_rfl) rfl
def a146 : List D := [q25, (.agg [(.int .i64 5), (.str [109, 97, 110, 121]), (.str []), (.str [99, 111, 117, 110, 116]), (.str [104, 105, 103, 104]), (.str [115, 116, 97, 102, 102]), (.int .i64 0), (.int .i64 0), (.sl true 3 [(.int .i64 5), (.int .i64 15), (.int .i64 2), (.str []), (.str []), (.int .i64 0), (.int .i64 0), (.int .i64 4), (.int .i64 0), (.int .i64 0), (.str [109, 97, 114, 107, 115]), (.str []), (.int .i64 0), (.int .i64 0), (.int .i64 1), (.int .i64 0), (.int .i64 0), (.str []), (.str []), (.int .i64 50), (.int .i64 0)]), (.int .i64 0)]), (.int .i64 0), (.agg [(.int .i64 1), (.int .i64 1), (.int .i64 1), (.int .i64 0), (.int .i64 2), (.int .i64 2), (.sl false 1 [(.int .i64 0), (.int .i64 2)]), (.int .i64 3)])]
def d146 : D := (.int .i64 25)
theorem m146 : callable TE.P 46 = true ∧ PureC TE 46 a146 d146 ∧ d146.flat = true :=
  pure_of_runs (pok (E := TE) (ml := []) (kt := [(27, [(a42, d42)]), (156, [(a127, d127)]), (85, [(a128, d128), (a129, d129)]), (140, [(a130, d130)]), (21, [(a144, d144), (a145, d145)])]) tt trivial mixed ⟨⟨m42, trivial⟩, ⟨⟨m127, trivial⟩, ⟨⟨m128, ⟨m129, trivial⟩⟩, ⟨⟨m130, trivial⟩, ⟨⟨m144, ⟨m145, trivial⟩⟩, trivial⟩⟩⟩⟩⟩ xx) t46.1 (k := 100000) (n := 60) (by kernel_rfl) rfl
def a147 : List D := []
def d147 : D := (.bool true)
theorem m147 : callable TE.P 4 = true ∧ PureC TE 4 a147 d147 ∧ d147.flat = true :=
  pure_of_runs (pok (E := TE) (ml := []) (kt := [(63, [(a5, d5)]), (50, [(a7, d7)]), (27, [(a42, d42)]), (16, [(a44, d44)]), (108, [(a52, d52), (a53, d53), (a80, d80), (a83, d83), (a114, d114), (a136, d136)]), (33, [(a54, d54), (a81, d81), (a84, d84), (a115, d115), (a137, d137)]), (17, [(a57, d57), (a76, d76), (a86, d86), (a117, d117), (a139, d139)]), (116, [(a63, d63), (a91, d91), (a125, d125), (a141, d141)]), (117, [(a66, d66), (a92, d92), (a126, d126), (a142, d142)]), (42, [(a68, d68), (a78, d78), (a101, d101)]), (21, [(a93, d93), (a99, d99), (a143, d143)]), (40, [(a98, d98)]), (46, [(a134, d134), (a146, d146)])]) tt trivial mixed ⟨⟨m5, trivial⟩, ⟨⟨m7, trivial⟩, ⟨⟨m42, trivial⟩, ⟨⟨m44, trivial⟩, ⟨⟨m52, ⟨m53, ⟨m80, ⟨m83, ⟨m114, ⟨m136, trivial⟩⟩⟩⟩⟩⟩, ⟨⟨m54, ⟨m81, ⟨m84, ⟨m115, ⟨m137, trivial⟩⟩⟩⟩⟩, ⟨⟨m57, ⟨m76, ⟨m86, ⟨m117, ⟨m139, trivial⟩⟩⟩⟩⟩, ⟨⟨m63, ⟨m91, ⟨m125, ⟨m141, trivial⟩⟩⟩⟩, ⟨⟨m66, ⟨m92, ⟨m126, ⟨m142, trivial⟩⟩⟩⟩, ⟨⟨m68, ⟨m78, ⟨m101, trivial⟩⟩⟩, ⟨⟨m93, ⟨m99, ⟨m143, trivial⟩⟩⟩, ⟨⟨m98, trivial⟩, ⟨⟨m134, ⟨m146, trivial⟩⟩, trivial⟩⟩⟩⟩⟩⟩⟩⟩⟩⟩⟩⟩⟩ xx) t4.1 (k := 100000) (n := 60) (by kernel_rfl) rfl
end Go.Proofs.YtegkflfbpidipaaGreatDoor
/- Calls that are known. Conditions: none. -/
set_option linter.unusedVariables false
set_option maxRecDepth 100000
namespace Go.Proofs.YtegkflfbpidipaaGreatDoor
open Go Zv
def a148 : List D := []
def d148 : D := (.bool true)
theorem m148 : callable TE.P 3 = true ∧ PureC TE 3 a148 d148 ∧ d148.flat = true :=
  pure_of_runs (pok (E := TE) (ml := []) (kt := [(4, [(a147, d147)])]) tt trivial mixed ⟨⟨m147, trivial⟩, trivial⟩ xx) t3.1 (k := 100000) (n := 60) (by kernel_rfl) rfl
end Go.Proofs.YtegkflfbpidipaaGreatDoor
