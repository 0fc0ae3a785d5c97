/- What the functions come to. -/
import Derived.Test.YtblbgjfkbcdlfaaGreatDoorSH
set_option linter.unusedVariables false
set_option maxRecDepth 100000
namespace Go.Proofs.YtblbgjfkbcdlfaaGreatDoor
open Go Iv
/- 7 invigilator/invigilatorlaw27.awake -/
def S7 (lp : Lp) (cl : CL)  : Option D :=
clT q2 (cl 17 [(.int .i64 1), (.int .i64 0), (.int .i64 1)]) fun (v1 : (Int × Int × Int × Int × Int × Unit)) =>
clT q2 (cl 17 [(.int .i64 0), (.int .i64 0), (.int .i64 0)]) fun (v3 : (Int × Int × Int × Int × Int × Unit)) =>
clT q6 (cl 18 []) fun (v5 : (D × D × Unit)) =>
clT q1 (cl 8 [(.agg [v5.1, v5.2.1]), (.int .i64 15), (.sl true 2 [(.int .i64 v1.1), (.int .i64 v1.2.1), (.int .i64 v1.2.2.1), (.int .i64 v1.2.2.2.1), (.int .i64 v1.2.2.2.2.1), (.int .i64 v3.1), (.int .i64 v3.2.1), (.int .i64 v3.2.2.1), (.int .i64 v3.2.2.2.1), (.int .i64 v3.2.2.2.2.1)])]) fun (v7 : ((Int × Int × Int × Int × Int × Int × Int × Unit) × Int × Unit)) =>
clT q6 (cl 18 []) fun (v9 : (D × D × Unit)) =>
clT q1 (cl 8 [(.agg [v9.1, v9.2.1]), (.int .i64 27), (.sl true 2 [(.int .i64 v1.1), (.int .i64 v1.2.1), (.int .i64 v1.2.2.1), (.int .i64 v1.2.2.2.1), (.int .i64 v1.2.2.2.2.1), (.int .i64 v3.1), (.int .i64 v3.2.1), (.int .i64 v3.2.2.1), (.int .i64 v3.2.2.2.1), (.int .i64 v3.2.2.2.2.1)])]) fun (v11 : ((Int × Int × Int × Int × Int × Int × Int × Unit) × Int × Unit)) =>
clT q6 (cl 18 []) fun (v13 : (D × D × Unit)) =>
clT q1 (cl 8 [(.agg [v13.1, v13.2.1]), (.int .i64 40), (.sl true 2 [(.int .i64 v1.1), (.int .i64 v1.2.1), (.int .i64 v1.2.2.1), (.int .i64 v1.2.2.2.1), (.int .i64 v1.2.2.2.2.1), (.int .i64 v1.1), (.int .i64 v1.2.1), (.int .i64 v1.2.2.1), (.int .i64 v1.2.2.2.1), (.int .i64 v1.2.2.2.2.1)])]) fun (v15 : ((Int × Int × Int × Int × Int × Int × Int × Unit) × Int × Unit)) =>
clT q6 (cl 18 []) fun (v17 : (D × D × Unit)) =>
clT q1 (cl 8 [(.agg [v17.1, v17.2.1]), (.int .i64 12), (.sl true 1 [(.int .i64 v1.1), (.int .i64 v1.2.1), (.int .i64 v1.2.2.1), (.int .i64 v1.2.2.2.1), (.int .i64 v1.2.2.2.2.1)])]) fun (v19 : ((Int × Int × Int × Int × Int × Int × Int × Unit) × Int × Unit)) =>
clT q6 (cl 18 []) fun (v21 : (D × D × Unit)) =>
clT q2 (cl 17 [(.int .i64 0), (.int .i64 0), (.int .i64 1)]) fun (v23 : (Int × Int × Int × Int × Int × Unit)) =>
clT q1 (cl 8 [(.agg [v21.1, v21.2.1]), (.int .i64 8), (.sl true 1 [(.int .i64 v23.1), (.int .i64 v23.2.1), (.int .i64 v23.2.2.1), (.int .i64 v23.2.2.2.1), (.int .i64 v23.2.2.2.2.1)])]) fun (v25 : ((Int × Int × Int × Int × Int × Int × Int × Unit) × Int × Unit)) =>
bif (((eqZ v7.1.1 v1.1) && ((eqZ v7.1.2.1 v1.2.1) && (((eqZ v7.1.2.2.1 v1.2.2.1) && ((eqZ v7.1.2.2.2.1 v1.2.2.2.1) && true)) && ((eqZ v7.1.2.2.2.2.1 v1.2.2.2.2.1) && true)))) && ((eqZ v7.1.2.2.2.2.2.1 1) && ((eqZ v7.1.2.2.2.2.2.2.1 0) && true))) then (
bif (eqZ v7.2.1 0) then (
bif (((eqZ v11.1.1 v1.1) && ((eqZ v11.1.2.1 v1.2.1) && (((eqZ v11.1.2.2.1 v1.2.2.1) && ((eqZ v11.1.2.2.2.1 v1.2.2.2.1) && true)) && ((eqZ v11.1.2.2.2.2.1 v1.2.2.2.2.1) && true)))) && ((eqZ v11.1.2.2.2.2.2.1 0) && ((eqZ v11.1.2.2.2.2.2.2.1 0) && true))) then (
bif (eqZ v11.2.1 0) then (
clT q2 (cl 17 [(.int .i64 1), (.int .i64 1), (.int .i64 1)]) fun (v27 : (Int × Int × Int × Int × Int × Unit)) =>
bif (((eqZ v15.1.1 v27.1) && ((eqZ v15.1.2.1 v27.2.1) && (((eqZ v15.1.2.2.1 v27.2.2.1) && ((eqZ v15.1.2.2.2.1 v27.2.2.2.1) && true)) && ((eqZ v15.1.2.2.2.2.1 v27.2.2.2.2.1) && true)))) && ((eqZ v15.1.2.2.2.2.2.1 0) && ((eqZ v15.1.2.2.2.2.2.2.1 0) && true))) then (
bif (eqZ v15.2.1 0) then (
bif (((eqZ v19.1.1 v3.1) && ((eqZ v19.1.2.1 v3.2.1) && (((eqZ v19.1.2.2.1 v3.2.2.1) && ((eqZ v19.1.2.2.2.1 v3.2.2.2.1) && true)) && ((eqZ v19.1.2.2.2.2.1 v3.2.2.2.2.1) && true)))) && ((eqZ v19.1.2.2.2.2.2.1 0) && ((eqZ v19.1.2.2.2.2.2.2.1 0) && true))) then (
bif (eqZ v19.2.1 0) then (
clT q2 (cl 17 [(.int .i64 1), (.int .i64 1), (.int .i64 1)]) fun (v29 : (Int × Int × Int × Int × Int × Unit)) =>
bif (((eqZ v25.1.1 v29.1) && ((eqZ v25.1.2.1 v29.2.1) && (((eqZ v25.1.2.2.1 v29.2.2.1) && ((eqZ v25.1.2.2.2.1 v29.2.2.2.1) && true)) && ((eqZ v25.1.2.2.2.2.1 v29.2.2.2.2.1) && true)))) && ((eqZ v25.1.2.2.2.2.2.1 1) && ((eqZ v25.1.2.2.2.2.2.2.1 1) && true))) then (
some (.bool (eqZ v25.2.1 0))) else (
some (.bool false))) else (
some (.bool false))) else (
some (.bool false))) else (
some (.bool false))) else (
some (.bool false))) else (
some (.bool false))) else (
some (.bool false))) else (
some (.bool false))) else (
some (.bool false))
theorem S7_eq (lp : Lp) (cl : CL)  : runS lp Tryz.prog TryzG cl 7 [] = S7 lp cl  := by kernel_rfl
def S7_w (lp : Lp) (cl : CL) (args : List D) : Option D := bd (Sh.gds [] args) fun v => S7 lp cl 
theorem S7_t : TabE TryzE 7 S7_w := tab_of (by kernel_rfl) fun lp cl v => S7_eq lp cl 

/- 15 invigilator/invigilatorref12.Fits -/
def S15 (lp : Lp) (cl : CL) (a0 : Int) (a1 : D) (a2 : D) : Option D :=
clT q7 (cl 40 [(.int .i64 a0)]) fun (v1 : (Int × Int × Unit)) =>
bif (!(eqZ v1.2.1 0)) then (
some (.tup [(.int .i64 0), (.int .i64 0), (.int .i64 v1.2.1)])) else (
bj (α := (Int × D × D × Unit) × (Unit)) (
bd (lenD false a1) fun v3 =>
bif (!(eqZ (v3 : Int) v1.1)) then (
rt (
some (.tup [(.int .i64 0), (.int .i64 0), (.int .i64 23)]))) else (
bd (lenD false a2) fun v4 =>
bif (!(eqZ (v4 : Int) v1.1)) then (
rt (
some (.tup [(.int .i64 0), (.int .i64 0), (.int .i64 23)]))) else (
some (.inl ((a0, a1, a2, ()), (())))))) fun (((t0v2, t1v2, t2v2, _), (_)) : (Int × D × D × Unit) × (Unit)) =>
clT q0 (cl 41 [(.int .i64 t0v2), t1v2]) fun (v6 : Bool) =>
bif (!v6) then (
some (.tup [(.int .i64 0), (.int .i64 0), (.int .i64 21)])) else (
clT q4 (cl 42 [(.int .i64 t0v2), t2v2]) fun (v8 : Int) =>
bif (ltZ v8 0) then (
some (.tup [(.int .i64 0), (.int .i64 0), (.int .i64 22)])) else (
clT q4 (cl 43 [(.int .i64 t0v2), t1v2]) fun (v10 : Int) =>
some (.tup [(.int .i64 v10), (.int .i64 v8), (.int .i64 0)]))))
theorem S15_eq (lp : Lp) (cl : CL) (a0 : Int) (a1 : D) (a2 : D) : runS lp Tryz.prog TryzG cl 15 [(.int .i64 a0), (.fz a1), (.fz a2)] = S15 lp cl a0 a1 a2 := by kernel_rfl
def S15_w (lp : Lp) (cl : CL) (args : List D) : Option D := bd (Sh.gds [(.int .i64), .fz, .fz] args) fun v => S15 lp cl v.1 v.2.1 v.2.2.1
theorem S15_t : TabE TryzE 15 S15_w := tab_of (by kernel_rfl) fun lp cl v => S15_eq lp cl v.1 v.2.1 v.2.2.1

/- 16 invigilator/invigilatorlaw26.FarPolicy -/
def S16 (lp : Lp) (cl : CL) (a0_0 : D) (a0_1 : D) (a0_2 : D) (a0_3 : D) (a0_4 : D) : Option D :=
bj (α := (Unit × Unit) × ((D × D × D × D × D × Unit) × Unit)) (
bd (lenD false a0_0) fun v1 =>
bif (ltZ 9 (v1 : Int)) then (
rt (
some (.bool true))) else (
bd (lenD false a0_1) fun v2 =>
bif (ltZ 9 (v2 : Int)) then (
rt (
some (.bool true))) else (
bd (lenD false a0_2) fun v3 =>
bif (ltZ 8 (v3 : Int)) then (
rt (
some (.bool true))) else (
bd (lenD false a0_3) fun v4 =>
bif (ltZ 10 (v4 : Int)) then (
rt (
some (.bool true))) else (
bd (lenD false a0_4) fun v5 =>
bif (ltZ 12 (v5 : Int)) then (
rt (
some (.bool true))) else (
some (.inl (((), ()), ((a0_0, a0_1, a0_2, a0_3, a0_4, ()), ()))))))))) fun (((_, _), ((b0v0_0, b0v0_1, b0v0_2, b0v0_3, b0v0_4, _), _)) : (Unit × Unit) × ((D × D × D × D × D × Unit) × Unit)) =>
lp.run (fun (((_, t3v6, _), ((b0v6_0, b0v6_1, b0v6_2, b0v6_3, b0v6_4, _), _)) : (Unit × Int × Unit) × ((D × D × D × D × D × Unit) × Unit)) =>
bd (lenD false b0v6_0) fun v7 =>
bif (ltZ t3v6 (v7 : Int)) then (
ixT q12 1 b0v6_0 (.int .i64 t3v6) none fun (v10 : List UInt8) =>
bif (ltZ 40 (List.length v10 : Int)) then (
rt (
some (.bool true))) else (
some (.inl (((), (wrapD .i64 (t3v6 + 1)), ()), ((b0v6_0, b0v6_1, b0v6_2, b0v6_3, b0v6_4, ()), ()))))) else (
rt (
lp.run (fun (((_, t4v11, _), ((b0v11_0, b0v11_1, b0v11_2, b0v11_3, b0v11_4, _), _)) : (Unit × Int × Unit) × ((D × D × D × D × D × Unit) × Unit)) =>
bd (lenD false b0v11_2) fun v12 =>
bif (ltZ t4v11 (v12 : Int)) then (
bd (elF 2 b0v11_2 (.int .i64 t4v11)) fun v13 =>
tkT q12 v13.1 (v13.2 + 0) none fun (v15 : List UInt8) =>
bif (ltZ 40 (List.length v15 : Int)) then (
rt (
some (.bool true))) else (
some (.inl (((), (wrapD .i64 (t4v11 + 1)), ()), ((b0v11_0, b0v11_1, b0v11_2, b0v11_3, b0v11_4, ()), ()))))) else (
rt (
lp.run (fun (((_, t5v16, _), ((b0v16_0, b0v16_1, b0v16_2, b0v16_3, b0v16_4, _), _)) : (Unit × Int × Unit) × ((D × D × D × D × D × Unit) × Unit)) =>
bd (lenD false b0v16_3) fun v17 =>
bif (ltZ t5v16 (v17 : Int)) then (
bd (elF 6 b0v16_3 (.int .i64 t5v16)) fun v18 =>
tkT q12 v18.1 (v18.2 + 0) none fun (v20 : List UInt8) =>
bif (ltZ 40 (List.length v20 : Int)) then (
rt (
some (.bool true))) else (
some (.inl (((), (wrapD .i64 (t5v16 + 1)), ()), ((b0v16_0, b0v16_1, b0v16_2, b0v16_3, b0v16_4, ()), ()))))) else (
rt (
some (.bool false)))) (((), (0 : Int), ()), ((b0v11_0, b0v11_1, b0v11_2, b0v11_3, b0v11_4, ()), ()))))) (((), (0 : Int), ()), ((b0v6_0, b0v6_1, b0v6_2, b0v6_3, b0v6_4, ()), ()))))) (((), (0 : Int), ()), ((b0v0_0, b0v0_1, b0v0_2, b0v0_3, b0v0_4, ()), ()))
theorem S16_eq (lp : Lp) (cl : CL) (a0_0 : D) (a0_1 : D) (a0_2 : D) (a0_3 : D) (a0_4 : D) : runS lp Tryz.prog TryzG cl 16 [(.agg [(.fz a0_0), (.fz a0_1), (.fz a0_2), (.fz a0_3), (.fz a0_4)])] = S16 lp cl a0_0 a0_1 a0_2 a0_3 a0_4 := by kernel_rfl
def S16_w (lp : Lp) (cl : CL) (args : List D) : Option D := bd (Sh.gds [(.agg [.fz, .fz, .fz, .fz, .fz])] args) fun v => S16 lp cl v.1.1 v.1.2.1 v.1.2.2.1 v.1.2.2.2.1 v.1.2.2.2.2.1
theorem S16_t : TabE TryzE 16 S16_w := tab_of (by kernel_rfl) fun lp cl v => S16_eq lp cl v.1.1 v.1.2.1 v.1.2.2.1 v.1.2.2.2.1 v.1.2.2.2.2.1

/- 23 (invigilator/taint.rules).one -/
def S23 (lp : Lp) (cl : CL) (a0_0 : D) (a0_1 : D) (a0_2 : Int) (a1 : Int) (a2_0 : Int) (a2_1 : Int) (a2_2 : Int) (a2_3 : Int) (a2_4 : Int) : Option D :=
clT q4 (cl 26 [(.agg [a0_0, a0_1, (.int .i64 a0_2)]), (.agg [(.int .i64 a2_0), (.int .i64 a2_1), (.int .i64 a2_2), (.int .i64 a2_3), (.int .i64 a2_4)])]) fun (v1 : Int) =>
clT q4 (cl 25 [(.agg [a0_0, a0_1, (.int .i64 a0_2)]), (.sl true 2 [(.int .i64 v1), (.int .i64 a2_4)])]) fun (v3 : Int) =>
clT q18 (cl 54 [(.agg [a0_0, a0_1, (.int .i64 a0_2)]), (.agg [(.int .i64 a2_0), (.int .i64 a2_1), (.int .i64 a2_2), (.int .i64 a2_3), (.int .i64 a2_4)])]) fun (v5 : (Int × Int × Unit)) =>
bj (α := (Int × Unit × Unit × Unit × Int × Int × Int × Int × Unit) × ((Int × Int × Unit) × (Int × Int × Unit) × (Int × Int × Int × Int × Int × Unit) × (D × D × Int × Unit) × Unit)) (
bj (α := (Int × Unit × Unit × Unit × Int × Int × Int × Int × Bool × Unit) × ((Int × Int × Unit) × (Int × Int × Unit) × (Int × Int × Int × Int × Int × Unit) × (D × D × Int × Unit) × Unit)) (
bif (leZ 9 a1) then (
some (.inl ((a1, (), (), (), a2_4, a0_2, v1, v3, (leZ a1 12), ()), ((v1, a2_4, ()), (v5.1, v5.2.1, ()), (a2_0, a2_1, a2_2, a2_3, a2_4, ()), (a0_0, a0_1, a0_2, ()), ())))) else (
some (.inl ((a1, (), (), (), a2_4, a0_2, v1, v3, false, ()), ((v1, a2_4, ()), (v5.1, v5.2.1, ()), (a2_0, a2_1, a2_2, a2_3, a2_4, ()), (a0_0, a0_1, a0_2, ()), ()))))) fun (((t1v7, _, _, _, t7v7, t8v7, t9v7, t10v7, t32v7, _), ((b2004v7_0, b2004v7_1, _), (b2v7_0, b2v7_1, _), (b1v7_0, b1v7_1, b1v7_2, b1v7_3, b1v7_4, _), (b0v7_0, b0v7_1, b0v7_2, _), _)) : (Int × Unit × Unit × Unit × Int × Int × Int × Int × Bool × Unit) × ((Int × Int × Unit) × (Int × Int × Unit) × (Int × Int × Int × Int × Int × Unit) × (D × D × Int × Unit) × Unit)) =>
bif t32v7 then (
bd (idxD 2 (.int .i64 (wrapD .i64 (b1v7_1 - 1)))) fun v8 =>
bd (inR (0 + v8 * 1) 1 2) fun _ =>
bd (Sh.gds [(.int .i64), (.int .i64)] (setQ [(.int .i64 b2v7_0), (.int .i64 b2v7_1)] (0 + v8 * 1) [(.int .i64 b0v7_2)])) fun (v9 : (Int × Int × Unit)) =>
some (.inl ((t1v7, (), (), (), t7v7, t8v7, t9v7, t10v7, ()), ((b2004v7_0, b2004v7_1, ()), v9, (b1v7_0, b1v7_1, b1v7_2, b1v7_3, b1v7_4, ()), (b0v7_0, b0v7_1, b0v7_2, ()), ())))) else (
some (.inl ((t1v7, (), (), (), t7v7, t8v7, t9v7, t10v7, ()), ((b2004v7_0, b2004v7_1, ()), (b2v7_0, b2v7_1, ()), (b1v7_0, b1v7_1, b1v7_2, b1v7_3, b1v7_4, ()), (b0v7_0, b0v7_1, b0v7_2, ()), ()))))) fun (((t1v6, _, _, _, t7v6, t8v6, t9v6, t10v6, _), ((b2004v6_0, b2004v6_1, _), (b2v6_0, b2v6_1, _), (b1v6_0, b1v6_1, b1v6_2, b1v6_3, b1v6_4, _), (b0v6_0, b0v6_1, b0v6_2, _), _)) : (Int × Unit × Unit × Unit × Int × Int × Int × Int × Unit) × ((Int × Int × Unit) × (Int × Int × Unit) × (Int × Int × Int × Int × Int × Unit) × (D × D × Int × Unit) × Unit)) =>
bj (α := (Unit × Unit × Unit × Int × Int × Int × Int × Int × Bool × Unit) × ((Int × Int × Unit) × (Int × Int × Unit) × (Int × Int × Int × Int × Int × Unit) × (D × D × Int × Unit) × Unit)) (
bif (eqZ t1v6 1) then (
some (.inl (((), (), (), t7v6, t8v6, t9v6, t10v6, t1v6, (eqZ t1v6 1), ()), ((b2004v6_0, b2004v6_1, ()), (b2v6_0, b2v6_1, ()), (b1v6_0, b1v6_1, b1v6_2, b1v6_3, b1v6_4, ()), (b0v6_0, b0v6_1, b0v6_2, ()), ())))) else (
some (.inl (((), (), (), t7v6, t8v6, t9v6, t10v6, t1v6, (eqZ t1v6 2), ()), ((b2004v6_0, b2004v6_1, ()), (b2v6_0, b2v6_1, ()), (b1v6_0, b1v6_1, b1v6_2, b1v6_3, b1v6_4, ()), (b0v6_0, b0v6_1, b0v6_2, ()), ()))))) fun (((_, _, _, t7v10, t8v10, t9v10, t10v10, t39v10, t40v10, _), ((b2004v10_0, b2004v10_1, _), (b2v10_0, b2v10_1, _), (b1v10_0, b1v10_1, b1v10_2, b1v10_3, b1v10_4, _), (b0v10_0, b0v10_1, b0v10_2, _), _)) : (Unit × Unit × Unit × Int × Int × Int × Int × Int × Bool × Unit) × ((Int × Int × Unit) × (Int × Int × Unit) × (Int × Int × Int × Int × Int × Unit) × (D × D × Int × Unit) × Unit)) =>
bif t40v10 then (
some (.tup [(.agg [(.int .i64 b2v10_0), (.int .i64 b2v10_1)]), (.int .i64 t7v10), (.int .i64 t10v10)])) else (
bif (eqZ t39v10 7) then (
some (.tup [(.agg [(.int .i64 b2v10_1), (.int .i64 b2v10_0)]), (.int .i64 t7v10), (.int .i64 t8v10)])) else (
bif (eqZ t39v10 4) then (
clT q18 (cl 55 [(.agg [b0v10_0, b0v10_1, (.int .i64 b0v10_2)]), .nils]) fun (v12 : (Int × Int × Unit)) =>
some (.tup [(.agg [(.int .i64 v12.1), (.int .i64 v12.2.1)]), (.int .i64 t9v10), (.int .i64 t8v10)])) else (
bif (eqZ t39v10 5) then (
clT q18 (cl 55 [(.agg [b0v10_0, b0v10_1, (.int .i64 b0v10_2)]), (.sl true 1 [(.int .i64 t9v10)])]) fun (v14 : (Int × Int × Unit)) =>
some (.tup [(.agg [(.int .i64 v14.1), (.int .i64 v14.2.1)]), (.int .i64 t7v10), (.int .i64 t8v10)])) else (
bif (eqZ t39v10 8) then (
clT q18 (cl 55 [(.agg [b0v10_0, b0v10_1, (.int .i64 b0v10_2)]), (.sl true 1 [(.int .i64 b1v10_4)])]) fun (v16 : (Int × Int × Unit)) =>
some (.tup [(.agg [(.int .i64 v16.1), (.int .i64 v16.2.1)]), (.int .i64 t7v10), (.int .i64 b1v10_4)])) else (
bif (eqZ t39v10 9) then (
bd (idxD 2 (.int .i64 (wrapD .i64 (b1v10_1 - 1)))) fun v17 =>
tkT q4 [(.int .i64 b1v10_0), (.int .i64 b1v10_1), (.int .i64 b1v10_2), (.int .i64 b1v10_3), (.int .i64 b1v10_4)] (2 + v17 * 1) none fun (v19 : Int) =>
clT q4 (cl 25 [(.agg [b0v10_0, b0v10_1, (.int .i64 b0v10_2)]), (.sl true 2 [(.int .i64 b1v10_4), (.int .i64 v19)])]) fun (v21 : Int) =>
some (.tup [(.agg [(.int .i64 b2v10_0), (.int .i64 b2v10_1)]), (.int .i64 v21), (.int .i64 t10v10)])) else (
bj (α := (Unit × Unit × Unit × Int × Int × Int × Int × Int × Bool × Unit) × ((Int × Int × Unit) × (Int × Int × Unit) × (Int × Int × Int × Int × Int × Unit) × (D × D × Int × Unit) × Unit)) (
bif (eqZ t39v10 10) then (
some (.inl (((), (), (), t7v10, t8v10, t9v10, t10v10, t39v10, (eqZ t39v10 10), ()), ((b2004v10_0, b2004v10_1, ()), (b2v10_0, b2v10_1, ()), (b1v10_0, b1v10_1, b1v10_2, b1v10_3, b1v10_4, ()), (b0v10_0, b0v10_1, b0v10_2, ()), ())))) else (
some (.inl (((), (), (), t7v10, t8v10, t9v10, t10v10, t39v10, (eqZ t39v10 11), ()), ((b2004v10_0, b2004v10_1, ()), (b2v10_0, b2v10_1, ()), (b1v10_0, b1v10_1, b1v10_2, b1v10_3, b1v10_4, ()), (b0v10_0, b0v10_1, b0v10_2, ()), ()))))) fun (((_, _, _, t7v22, t8v22, t9v22, t10v22, t39v22, t86v22, _), ((b2004v22_0, b2004v22_1, _), (b2v22_0, b2v22_1, _), (b1v22_0, b1v22_1, b1v22_2, b1v22_3, b1v22_4, _), (b0v22_0, b0v22_1, b0v22_2, _), _)) : (Unit × Unit × Unit × Int × Int × Int × Int × Int × Bool × Unit) × ((Int × Int × Unit) × (Int × Int × Unit) × (Int × Int × Int × Int × Int × Unit) × (D × D × Int × Unit) × Unit)) =>
bif t86v22 then (
bd (idxD 2 (.int .i64 (wrapD .i64 (b1v22_1 - 1)))) fun v23 =>
tkT q4 [(.int .i64 b1v22_0), (.int .i64 b1v22_1), (.int .i64 b1v22_2), (.int .i64 b1v22_3), (.int .i64 b1v22_4)] (2 + v23 * 1) none fun (v25 : Int) =>
clT q4 (cl 25 [(.agg [b0v22_0, b0v22_1, (.int .i64 b0v22_2)]), (.sl true 2 [(.int .i64 b1v22_4), (.int .i64 v25)])]) fun (v27 : Int) =>
some (.tup [(.agg [(.int .i64 b2v22_0), (.int .i64 b2v22_1)]), (.int .i64 v27), (.int .i64 t9v22)])) else (
bif (eqZ t39v22 12) then (
some (.tup [(.agg [(.int .i64 b2v22_0), (.int .i64 b2v22_1)]), (.int .i64 t9v22), (.int .i64 t8v22)])) else (
bif (eqZ t39v22 13) then (
some (.tup [(.agg [(.int .i64 b2v22_0), (.int .i64 b2v22_1)]), (.int .i64 t10v22), (.int .i64 t10v22)])) else (
bif (eqZ t39v22 14) then (
bd (idxD 2 (.int .i64 (wrapD .i64 (b1v22_1 - 1)))) fun v28 =>
tkT q4 [(.int .i64 b1v22_0), (.int .i64 b1v22_1), (.int .i64 b1v22_2), (.int .i64 b1v22_3), (.int .i64 b1v22_4)] (2 + v28 * 1) none fun (v30 : Int) =>
clT q4 (cl 25 [(.agg [b0v22_0, b0v22_1, (.int .i64 b0v22_2)]), (.sl true 2 [(.int .i64 b1v22_4), (.int .i64 v30)])]) fun (v32 : Int) =>
some (.tup [(.agg [(.int .i64 b2v22_0), (.int .i64 b2v22_1)]), (.int .i64 v32), (.int .i64 t8v22)])) else (
some (.tup [(.agg [(.int .i64 b2v22_0), (.int .i64 b2v22_1)]), (.int .i64 t7v22), (.int .i64 t8v22)])))))))))))
theorem S23_eq (lp : Lp) (cl : CL) (a0_0 : D) (a0_1 : D) (a0_2 : Int) (a1 : Int) (a2_0 : Int) (a2_1 : Int) (a2_2 : Int) (a2_3 : Int) (a2_4 : Int) : runS lp Tryz.prog TryzG cl 23 [(.agg [(.fz a0_0), (.fz a0_1), (.int .i64 a0_2)]), (.int .i64 a1), (.agg [(.int .i64 a2_0), (.int .i64 a2_1), (.int .i64 a2_2), (.int .i64 a2_3), (.int .i64 a2_4)])] = S23 lp cl a0_0 a0_1 a0_2 a1 a2_0 a2_1 a2_2 a2_3 a2_4 := by kernel_rfl
def S23_w (lp : Lp) (cl : CL) (args : List D) : Option D := bd (Sh.gds [(.agg [.fz, .fz, (.int .i64)]), (.int .i64), (.agg [(.int .i64), (.int .i64), (.int .i64), (.int .i64), (.int .i64)])] args) fun v => S23 lp cl v.1.1 v.1.2.1 v.1.2.2.1 v.2.1 v.2.2.1.1 v.2.2.1.2.1 v.2.2.1.2.2.1 v.2.2.1.2.2.2.1 v.2.2.1.2.2.2.2.1
theorem S23_t : TabE TryzE 23 S23_w := tab_of (by kernel_rfl) fun lp cl v => S23_eq lp cl v.1.1 v.1.2.1 v.1.2.2.1 v.2.1 v.2.2.1.1 v.2.2.1.2.1 v.2.2.1.2.2.1 v.2.2.1.2.2.2.1 v.2.2.1.2.2.2.2.1

/- 28 invigilator/invigilatorref27.labels -/
def S28 (lp : Lp) (cl : CL) (a0_0 : D) (a0_1 : D) (a1_0 : Int) (a1_1 : Int) (a1_2 : Int) (a1_3 : Int) (a1_4 : Int) : Option D :=
lp.run (fun (((_, _, t5v0, _), ((b1v0_0, b1v0_1, b1v0_2, b1v0_3, b1v0_4, _), (b0v0_0, b0v0_1, _), _)) : (Unit × Unit × Int × Unit) × ((Int × Int × Int × Int × Int × Unit) × (D × D × Unit) × Unit)) =>
bif (ltZ t5v0 b1v0_1) then (
bd (idxD 2 (.int .i64 t5v0)) fun v1 =>
tkT q4 [(.int .i64 b1v0_0), (.int .i64 b1v0_1), (.int .i64 b1v0_2), (.int .i64 b1v0_3), (.int .i64 b1v0_4)] (2 + v1 * 1) none fun (v3 : Int) =>
bif (ltZ v3 0) then (
rt (
some (.bool false))) else (
bd (idxD 2 (.int .i64 t5v0)) fun v4 =>
tkT q4 [(.int .i64 b1v0_0), (.int .i64 b1v0_1), (.int .i64 b1v0_2), (.int .i64 b1v0_3), (.int .i64 b1v0_4)] (2 + v4 * 1) none fun (v6 : Int) =>
bd (lenD false b0v0_0) fun v7 =>
bif (leZ (v7 : Int) v6) then (
rt (
some (.bool false))) else (
some (.inl (((), (), (wrapD .i64 (t5v0 + 1)), ()), ((b1v0_0, b1v0_1, b1v0_2, b1v0_3, b1v0_4, ()), (b0v0_0, b0v0_1, ()), ())))))) else (
rt (
bif (leZ 0 b1v0_4) then (
bd (lenD false b0v0_0) fun v8 =>
some (.bool (ltZ b1v0_4 (v8 : Int)))) else (
some (.bool false))))) (((), (), (0 : Int), ()), ((a1_0, a1_1, a1_2, a1_3, a1_4, ()), (a0_0, a0_1, ()), ()))
theorem S28_eq (lp : Lp) (cl : CL) (a0_0 : D) (a0_1 : D) (a1_0 : Int) (a1_1 : Int) (a1_2 : Int) (a1_3 : Int) (a1_4 : Int) : runS lp Tryz.prog TryzG cl 28 [(.agg [(.fz a0_0), (.fz a0_1)]), (.agg [(.int .i64 a1_0), (.int .i64 a1_1), (.int .i64 a1_2), (.int .i64 a1_3), (.int .i64 a1_4)])] = S28 lp cl a0_0 a0_1 a1_0 a1_1 a1_2 a1_3 a1_4 := by kernel_rfl
def S28_w (lp : Lp) (cl : CL) (args : List D) : Option D := bd (Sh.gds [(.agg [.fz, .fz]), (.agg [(.int .i64), (.int .i64), (.int .i64), (.int .i64), (.int .i64)])] args) fun v => S28 lp cl v.1.1 v.1.2.1 v.2.1.1 v.2.1.2.1 v.2.1.2.2.1 v.2.1.2.2.2.1 v.2.1.2.2.2.2.1
theorem S28_t : TabE TryzE 28 S28_w := tab_of (by kernel_rfl) fun lp cl v => S28_eq lp cl v.1.1 v.1.2.1 v.2.1.1 v.2.1.2.1 v.2.1.2.2.1 v.2.1.2.2.2.1 v.2.1.2.2.2.2.1

/- 29 invigilator/invigilatorref27.axes -/
def S29 (lp : Lp) (cl : CL) (a0_0 : D) (a0_1 : D) (a1_0 : Int) (a1_1 : Int) (a1_2 : Int) (a1_3 : Int) (a1_4 : Int) : Option D :=
clT q4 (cl 32 [(.agg [a0_0, a0_1]), .nils]) fun (v1 : Int) =>
lp.run (fun (((_, _, t5v2, t6v2, _), ((b1v2_0, b1v2_1, b1v2_2, b1v2_3, b1v2_4, _), (b0v2_0, b0v2_1, _), _)) : (Unit × Unit × Int × Int × Unit) × ((Int × Int × Int × Int × Int × Unit) × (D × D × Unit) × Unit)) =>
bif (ltZ t6v2 b1v2_1) then (
bd (idxD 2 (.int .i64 t6v2)) fun v3 =>
tkT q4 [(.int .i64 b1v2_0), (.int .i64 b1v2_1), (.int .i64 b1v2_2), (.int .i64 b1v2_3), (.int .i64 b1v2_4)] (2 + v3 * 1) none fun (v5 : Int) =>
clT q4 (cl 32 [(.agg [b0v2_0, b0v2_1]), (.sl true 2 [(.int .i64 t5v2), (.int .i64 v5)])]) fun (v7 : Int) =>
some (.inl (((), (), v7, (wrapD .i64 (t6v2 + 1)), ()), ((b1v2_0, b1v2_1, b1v2_2, b1v2_3, b1v2_4, ()), (b0v2_0, b0v2_1, ()), ())))) else (
rt (
some (.int .i64 t5v2)))) (((), (), v1, (0 : Int), ()), ((a1_0, a1_1, a1_2, a1_3, a1_4, ()), (a0_0, a0_1, ()), ()))
theorem S29_eq (lp : Lp) (cl : CL) (a0_0 : D) (a0_1 : D) (a1_0 : Int) (a1_1 : Int) (a1_2 : Int) (a1_3 : Int) (a1_4 : Int) : runS lp Tryz.prog TryzG cl 29 [(.agg [(.fz a0_0), (.fz a0_1)]), (.agg [(.int .i64 a1_0), (.int .i64 a1_1), (.int .i64 a1_2), (.int .i64 a1_3), (.int .i64 a1_4)])] = S29 lp cl a0_0 a0_1 a1_0 a1_1 a1_2 a1_3 a1_4 := by kernel_rfl
def S29_w (lp : Lp) (cl : CL) (args : List D) : Option D := bd (Sh.gds [(.agg [.fz, .fz]), (.agg [(.int .i64), (.int .i64), (.int .i64), (.int .i64), (.int .i64)])] args) fun v => S29 lp cl v.1.1 v.1.2.1 v.2.1.1 v.2.1.2.1 v.2.1.2.2.1 v.2.1.2.2.2.1 v.2.1.2.2.2.2.1
theorem S29_t : TabE TryzE 29 S29_w := tab_of (by kernel_rfl) fun lp cl v => S29_eq lp cl v.1.1 v.1.2.1 v.2.1.1 v.2.1.2.1 v.2.1.2.2.1 v.2.1.2.2.2.1 v.2.1.2.2.2.2.1

/- 48 invigilator/lattice.bound[invigilator/lattice.downs] -/
def S48 (lp : Lp) (cl : CL) (a0_0 : Int) (a0_1 : Int) (a0_2 : Int) (a0_3 : Int) (a0_4 : Int) (a0_5 : Int) (a0_6 : Int) (a0_7 : Int) (a1 : Int) (a2 : Int) (a3 : Int) : Option D :=
bd (idxD 8 (.int .i64 a2)) fun v0 =>
tkT q13 [(.int .u8 a0_0), (.int .u8 a0_1), (.int .u8 a0_2), (.int .u8 a0_3), (.int .u8 a0_4), (.int .u8 a0_5), (.int .u8 a0_6), (.int .u8 a0_7)] (0 + v0 * 1) none fun (v2 : Int) =>
bd (idxD 8 (.int .i64 a3)) fun v3 =>
tkT q13 [(.int .u8 a0_0), (.int .u8 a0_1), (.int .u8 a0_2), (.int .u8 a0_3), (.int .u8 a0_4), (.int .u8 a0_5), (.int .u8 a0_6), (.int .u8 a0_7)] (0 + v3 * 1) none fun (v5 : Int) =>
lp.run (fun (((_, t9v6, t18v6, t19v6, _), (b0v6, _)) : (Unit × Int × Int × Int × Unit) × (List D × Unit)) =>
bif (ltZ t19v6 t18v6) then (
bd (shrD .u8 t9v6 t19v6) fun v7 =>
bif (eqZ (andZ .u8 v7 1) 1) then (
bd (idxD 8 (.int .i64 t19v6)) fun v8 =>
tkT q13 b0v6 (0 + v8 * 1) none fun (v10 : Int) =>
bif (eqZ v10 t9v6) then (
rt (
some (.int .i64 t19v6))) else (
some (.inl (((), t9v6, t18v6, (wrapD .i64 (t19v6 + 1)), ()), (b0v6, ()))))) else (
some (.inl (((), t9v6, t18v6, (wrapD .i64 (t19v6 + 1)), ()), (b0v6, ()))))) else (
rt (
some (.int .i64 (-1))))) (((), (andZ .u8 v2 v5), a1, (0 : Int), ()), ([(.int .u8 a0_0), (.int .u8 a0_1), (.int .u8 a0_2), (.int .u8 a0_3), (.int .u8 a0_4), (.int .u8 a0_5), (.int .u8 a0_6), (.int .u8 a0_7)], ()))
theorem S48_eq (lp : Lp) (cl : CL) (a0_0 : Int) (a0_1 : Int) (a0_2 : Int) (a0_3 : Int) (a0_4 : Int) (a0_5 : Int) (a0_6 : Int) (a0_7 : Int) (a1 : Int) (a2 : Int) (a3 : Int) : runS lp Tryz.prog TryzG cl 48 [(.agg [(.int .u8 a0_0), (.int .u8 a0_1), (.int .u8 a0_2), (.int .u8 a0_3), (.int .u8 a0_4), (.int .u8 a0_5), (.int .u8 a0_6), (.int .u8 a0_7)]), (.int .i64 a1), (.int .i64 a2), (.int .i64 a3)] = S48 lp cl a0_0 a0_1 a0_2 a0_3 a0_4 a0_5 a0_6 a0_7 a1 a2 a3 := by kernel_rfl
def S48_w (lp : Lp) (cl : CL) (args : List D) : Option D := bd (Sh.gds [(.agg [(.int .u8), (.int .u8), (.int .u8), (.int .u8), (.int .u8), (.int .u8), (.int .u8), (.int .u8)]), (.int .i64), (.int .i64), (.int .i64)] args) fun v => S48 lp cl v.1.1 v.1.2.1 v.1.2.2.1 v.1.2.2.2.1 v.1.2.2.2.2.1 v.1.2.2.2.2.2.1 v.1.2.2.2.2.2.2.1 v.1.2.2.2.2.2.2.2.1 v.2.1 v.2.2.1 v.2.2.2.1
theorem S48_t : TabE TryzE 48 S48_w := tab_of (by kernel_rfl) fun lp cl v => S48_eq lp cl v.1.1 v.1.2.1 v.1.2.2.1 v.1.2.2.2.1 v.1.2.2.2.2.1 v.1.2.2.2.2.2.1 v.1.2.2.2.2.2.2.1 v.1.2.2.2.2.2.2.2.1 v.2.1 v.2.2.1 v.2.2.2.1

/- 51 invigilator/prims.match -/
def S51 (lp : Lp) (cl : CL) (a0 : List UInt8) (a1 : D) (a2 : D) : Option D :=
lp.run (fun (((t1v0, t2v0, t6v0, t7v0, t8v0, t9v0, t10v0, t11v0, _, _), ((b3001v0_s, b3001v0_p), _)) : (D × D × Int × Int × Bool × Bool × Int × Int × Unit × Unit) × ((List UInt8 × Nat) × Unit)) =>
bif Nat.blt b3001v0_p (List.length b3001v0_s) then (
bd (quoD .i64 (b3001v0_p : Int) 2) fun v1 =>
bd (lenD false t1v0) fun v2 =>
bif (eqZ v1 (v2 : Int)) then (
bif (eqZ (decR b3001v0_s b3001v0_p) 105) then (
some (.inl ((t1v0, t2v0, (1 : Int), t7v0, t8v0, t9v0, t10v0, t11v0, (), ()), ((b3001v0_s, (b3001v0_p + decW b3001v0_s b3001v0_p)), ())))) else (
bif (eqZ (decR b3001v0_s b3001v0_p) 107) then (
some (.inl ((t1v0, t2v0, t10v0, t7v0, t8v0, t9v0, t10v0, t11v0, (), ()), ((b3001v0_s, (b3001v0_p + decW b3001v0_s b3001v0_p)), ())))) else (
bif (eqZ (decR b3001v0_s b3001v0_p) 110) then (
some (.inl ((t1v0, t2v0, t6v0, t11v0, t8v0, t9v0, t10v0, t11v0, (), ()), ((b3001v0_s, (b3001v0_p + decW b3001v0_s b3001v0_p)), ())))) else (
some (.inl ((t1v0, t2v0, t6v0, (wrapD .i64 (wrapD .i32 ((decR b3001v0_s b3001v0_p) - 48))), t8v0, t9v0, t10v0, t11v0, (), ()), ((b3001v0_s, (b3001v0_p + decW b3001v0_s b3001v0_p)), ()))))))) else (
bif (eqZ (decR b3001v0_s b3001v0_p) 105) then (
bif t8v0 then (
ixT q4 1 t1v0 (.int .i64 v1) none fun (v5 : Int) =>
some (.inl ((t1v0, t2v0, t6v0, t7v0, (eqZ v5 1), t9v0, t10v0, t11v0, (), ()), ((b3001v0_s, (b3001v0_p + decW b3001v0_s b3001v0_p)), ())))) else (
some (.inl ((t1v0, t2v0, t6v0, t7v0, false, t9v0, t10v0, t11v0, (), ()), ((b3001v0_s, (b3001v0_p + decW b3001v0_s b3001v0_p)), ()))))) else (
bif (eqZ (decR b3001v0_s b3001v0_p) 107) then (
bif t8v0 then (
ixT q4 1 t1v0 (.int .i64 v1) none fun (v8 : Int) =>
bif (eqZ v8 1) then (
bif (eqZ t10v0 0) then (
ixT q4 1 t1v0 (.int .i64 v1) none fun (v11 : Int) =>
some (.inl ((t1v0, t2v0, t6v0, t7v0, true, t9v0, v11, t11v0, (), ()), ((b3001v0_s, (b3001v0_p + decW b3001v0_s b3001v0_p)), ())))) else (
ixT q4 1 t1v0 (.int .i64 v1) none fun (v14 : Int) =>
ixT q4 1 t1v0 (.int .i64 v1) none fun (v17 : Int) =>
some (.inl ((t1v0, t2v0, t6v0, t7v0, (eqZ t10v0 v14), t9v0, v17, t11v0, (), ()), ((b3001v0_s, (b3001v0_p + decW b3001v0_s b3001v0_p)), ()))))) else (
ixT q4 1 t1v0 (.int .i64 v1) none fun (v20 : Int) =>
bif (eqZ v20 2) then (
bif (eqZ t10v0 0) then (
ixT q4 1 t1v0 (.int .i64 v1) none fun (v23 : Int) =>
some (.inl ((t1v0, t2v0, t6v0, t7v0, true, t9v0, v23, t11v0, (), ()), ((b3001v0_s, (b3001v0_p + decW b3001v0_s b3001v0_p)), ())))) else (
ixT q4 1 t1v0 (.int .i64 v1) none fun (v26 : Int) =>
ixT q4 1 t1v0 (.int .i64 v1) none fun (v29 : Int) =>
some (.inl ((t1v0, t2v0, t6v0, t7v0, (eqZ t10v0 v26), t9v0, v29, t11v0, (), ()), ((b3001v0_s, (b3001v0_p + decW b3001v0_s b3001v0_p)), ()))))) else (
ixT q4 1 t1v0 (.int .i64 v1) none fun (v32 : Int) =>
some (.inl ((t1v0, t2v0, t6v0, t7v0, false, t9v0, v32, t11v0, (), ()), ((b3001v0_s, (b3001v0_p + decW b3001v0_s b3001v0_p)), ())))))) else (
ixT q4 1 t1v0 (.int .i64 v1) none fun (v35 : Int) =>
some (.inl ((t1v0, t2v0, t6v0, t7v0, false, t9v0, v35, t11v0, (), ()), ((b3001v0_s, (b3001v0_p + decW b3001v0_s b3001v0_p)), ()))))) else (
bif (eqZ (decR b3001v0_s b3001v0_p) 110) then (
bif t9v0 then (
ixT q4 1 t2v0 (.int .i64 v1) none fun (v38 : Int) =>
bif (leZ 0 v38) then (
ixT q4 1 t2v0 (.int .i64 v1) none fun (v41 : Int) =>
bif (leZ v41 2) then (
bif (ltZ t11v0 0) then (
ixT q4 1 t2v0 (.int .i64 v1) none fun (v44 : Int) =>
some (.inl ((t1v0, t2v0, t6v0, t7v0, t8v0, true, t10v0, v44, (), ()), ((b3001v0_s, (b3001v0_p + decW b3001v0_s b3001v0_p)), ())))) else (
ixT q4 1 t2v0 (.int .i64 v1) none fun (v47 : Int) =>
ixT q4 1 t2v0 (.int .i64 v1) none fun (v50 : Int) =>
some (.inl ((t1v0, t2v0, t6v0, t7v0, t8v0, (eqZ t11v0 v47), t10v0, v50, (), ()), ((b3001v0_s, (b3001v0_p + decW b3001v0_s b3001v0_p)), ()))))) else (
ixT q4 1 t2v0 (.int .i64 v1) none fun (v53 : Int) =>
some (.inl ((t1v0, t2v0, t6v0, t7v0, t8v0, false, t10v0, v53, (), ()), ((b3001v0_s, (b3001v0_p + decW b3001v0_s b3001v0_p)), ()))))) else (
ixT q4 1 t2v0 (.int .i64 v1) none fun (v56 : Int) =>
some (.inl ((t1v0, t2v0, t6v0, t7v0, t8v0, false, t10v0, v56, (), ()), ((b3001v0_s, (b3001v0_p + decW b3001v0_s b3001v0_p)), ()))))) else (
ixT q4 1 t2v0 (.int .i64 v1) none fun (v59 : Int) =>
some (.inl ((t1v0, t2v0, t6v0, t7v0, t8v0, false, t10v0, v59, (), ()), ((b3001v0_s, (b3001v0_p + decW b3001v0_s b3001v0_p)), ()))))) else (
bif t9v0 then (
ixT q4 1 t2v0 (.int .i64 v1) none fun (v62 : Int) =>
some (.inl ((t1v0, t2v0, t6v0, t7v0, t8v0, (eqZ v62 (wrapD .i64 (wrapD .i32 ((decR b3001v0_s b3001v0_p) - 48)))), t10v0, t11v0, (), ()), ((b3001v0_s, (b3001v0_p + decW b3001v0_s b3001v0_p)), ())))) else (
some (.inl ((t1v0, t2v0, t6v0, t7v0, t8v0, false, t10v0, t11v0, (), ()), ((b3001v0_s, (b3001v0_p + decW b3001v0_s b3001v0_p)), ()))))))))) else (
rt (
some (.tup [(.int .i64 t6v0), (.int .i64 t7v0), (.bool t8v0), (.bool t9v0)])))) ((a1, a2, (0 : Int), (0 : Int), true, true, (0 : Int), ((-1) : Int), (), ()), ((a0, 0), ()))
theorem S51_eq (lp : Lp) (cl : CL) (a0 : List UInt8) (a1 : D) (a2 : D) : runS lp Tryz.prog TryzG cl 51 [(.str a0), (.fz a1), (.fz a2)] = S51 lp cl a0 a1 a2 := by kernel_rfl
def S51_w (lp : Lp) (cl : CL) (args : List D) : Option D := bd (Sh.gds [.str, .fz, .fz] args) fun v => S51 lp cl v.1 v.2.1 v.2.2.1
theorem S51_t : TabE TryzE 51 S51_w := tab_of (by kernel_rfl) fun lp cl v => S51_eq lp cl v.1 v.2.1 v.2.2.1

/- 55 (invigilator/taint.rules).line -/
def S55 (lp : Lp) (cl : CL) (a0_0 : D) (a0_1 : D) (a0_2 : Int) (a1 : D) : Option D :=
clT q4 (cl 25 [(.agg [a0_0, a0_1, (.int .i64 a0_2)]), a1]) fun (v1 : Int) =>
some (.agg [(.int .i64 v1), (.int .i64 a0_2)])
theorem S55_eq (lp : Lp) (cl : CL) (a0_0 : D) (a0_1 : D) (a0_2 : Int) (a1 : D) : runS lp Tryz.prog TryzG cl 55 [(.agg [(.fz a0_0), (.fz a0_1), (.int .i64 a0_2)]), (.fz a1)] = S55 lp cl a0_0 a0_1 a0_2 a1 := by kernel_rfl
def S55_w (lp : Lp) (cl : CL) (args : List D) : Option D := bd (Sh.gds [(.agg [.fz, .fz, (.int .i64)]), .fz] args) fun v => S55 lp cl v.1.1 v.1.2.1 v.1.2.2.1 v.2.1
theorem S55_t : TabE TryzE 55 S55_w := tab_of (by kernel_rfl) fun lp cl v => S55_eq lp cl v.1.1 v.1.2.1 v.1.2.2.1 v.2.1

/- 57 invigilator/lattice.Join -/
def S57 (lp : Lp) (cl : CL) (a0_0 : D) (a0_1 : D) (a1 : Int) (a2 : Int) : Option D :=
clT q4 (cl 74 [(.iptr [a0_0, a0_1] 0), (.sl true 2 [(.int .i64 a1), (.int .i64 a2)])]) fun (v1 : Int) =>
bif (!(eqZ v1 0)) then (
some (.tup [(.int .i64 0), (.int .i64 v1)])) else (
clT q14 (cl 46 [(.iptr [a0_0, a0_1] 0)]) fun (v3 : (Int × Int × Int × Int × Int × Int × Int × Int × Int × Int × Int × Int × Int × Int × Int × Int × Int × Unit)) =>
clT q4 (cl 47 [(.agg [(.int .u8 v3.2.1), (.int .u8 v3.2.2.1), (.int .u8 v3.2.2.2.1), (.int .u8 v3.2.2.2.2.1), (.int .u8 v3.2.2.2.2.2.1), (.int .u8 v3.2.2.2.2.2.2.1), (.int .u8 v3.2.2.2.2.2.2.2.1), (.int .u8 v3.2.2.2.2.2.2.2.2.1)]), (.int .i64 v3.1), (.int .i64 a1), (.int .i64 a2)]) fun (v5 : Int) =>
some (.tup [(.int .i64 v5), (.int .i64 0)]))
theorem S57_eq (lp : Lp) (cl : CL) (a0_0 : D) (a0_1 : D) (a1 : Int) (a2 : Int) : runS lp Tryz.prog TryzG cl 57 [(.agg [(.fz a0_0), (.fz a0_1)]), (.int .i64 a1), (.int .i64 a2)] = S57 lp cl a0_0 a0_1 a1 a2 := by kernel_rfl
def S57_w (lp : Lp) (cl : CL) (args : List D) : Option D := bd (Sh.gds [(.agg [.fz, .fz]), (.int .i64), (.int .i64)] args) fun v => S57 lp cl v.1.1 v.1.2.1 v.2.1 v.2.2.1
theorem S57_t : TabE TryzE 57 S57_w := tab_of (by kernel_rfl) fun lp cl v => S57_eq lp cl v.1.1 v.1.2.1 v.2.1 v.2.2.1

/- 64 invigilator/invigilatorref03.asked -/
def S64 (lp : Lp) (cl : CL) (a0_0 : D) (a0_1 : D) (a1 : Int) (a2 : Int) : Option D :=
clT q7 (cl 27 [(.agg [a0_0, a0_1])]) fun (v1 : (Int × Int × Unit)) =>
bif (eqZ v1.2.1 0) then (
bif (ltZ a1 0) then (
some (.int .i64 7)) else (
bd (lenD false a0_0) fun v2 =>
bif (leZ (v2 : Int) a1) then (
some (.int .i64 7)) else (
bif (ltZ a2 0) then (
some (.int .i64 7)) else (
bd (lenD false a0_0) fun v3 =>
bif (leZ (v3 : Int) a2) then (
some (.int .i64 7)) else (
some (.int .i64 v1.2.1)))))) else (
some (.int .i64 v1.2.1))
theorem S64_eq (lp : Lp) (cl : CL) (a0_0 : D) (a0_1 : D) (a1 : Int) (a2 : Int) : runS lp Tryz.prog TryzG cl 64 [(.agg [(.fz a0_0), (.fz a0_1)]), (.int .i64 a1), (.int .i64 a2)] = S64 lp cl a0_0 a0_1 a1 a2 := by kernel_rfl
def S64_w (lp : Lp) (cl : CL) (args : List D) : Option D := bd (Sh.gds [(.agg [.fz, .fz]), (.int .i64), (.int .i64)] args) fun v => S64 lp cl v.1.1 v.1.2.1 v.2.1 v.2.2.1
theorem S64_t : TabE TryzE 64 S64_w := tab_of (by kernel_rfl) fun lp cl v => S64_eq lp cl v.1.1 v.1.2.1 v.2.1 v.2.2.1

/- 71 invigilator/words.Name -/
def S71 (lp : Lp) (cl : CL) (a0 : List UInt8) : Option D :=
bif (eqS a0 []) then (
some (.bool false)) else (
bif (ltZ 16 (List.length a0 : Int)) then (
some (.bool false)) else (
bd (ixStr a0 (.int .i64 0)) fun v0 =>
bif (ltZ v0 97) then (
some (.bool false)) else (
bd (ixStr a0 (.int .i64 0)) fun v1 =>
bif (ltZ 122 v1) then (
some (.bool false)) else (
clT q12 (cl 82 [(.str a0), (.str [97, 98, 99, 100, 101, 102, 103, 104, 105, 106, 107, 108, 109, 110, 111, 112, 113, 114, 115, 116, 117, 118, 119, 120, 121, 122, 48, 49, 50, 51, 52, 53, 54, 55, 56, 57, 45])]) fun (v3 : List UInt8) =>
some (.bool (eqS v3 []))))))
theorem S71_eq (lp : Lp) (cl : CL) (a0 : List UInt8) : runS lp Tryz.prog TryzG cl 71 [(.str a0)] = S71 lp cl a0 := by kernel_rfl
def S71_w (lp : Lp) (cl : CL) (args : List D) : Option D := bd (Sh.gds [.str] args) fun v => S71 lp cl v.1
theorem S71_t : TabE TryzE 71 S71_w := tab_of (by kernel_rfl) fun lp cl v => S71_eq lp cl v.1

/- 72 slices.Contains[[]string,string] -/
def S72 (lp : Lp) (cl : CL) (a0 : D) (a1 : List UInt8) : Option D :=
clT q4 (cl 83 [a0, (.str a1)]) fun (v1 : Int) =>
some (.bool (leZ 0 v1))
theorem S72_eq (lp : Lp) (cl : CL) (a0 : D) (a1 : List UInt8) : runS lp Tryz.prog TryzG cl 72 [(.fz a0), (.str a1)] = S72 lp cl a0 a1 := by kernel_rfl
def S72_w (lp : Lp) (cl : CL) (args : List D) : Option D := bd (Sh.gds [.fz, .str] args) fun v => S72 lp cl v.1 v.2.1
theorem S72_t : TabE TryzE 72 S72_w := tab_of (by kernel_rfl) fun lp cl v => S72_eq lp cl v.1 v.2.1

/- 74 invigilator/lattice.asked -/
def S74 (lp : Lp) (cl : CL) (a0 : D) (a1 : D) : Option D :=
bd (ptF a0) fun v0 =>
tkT q6 v0.1 v0.2 (some 2) fun (v2 : (D × D × Unit)) =>
clT q7 (cl 19 [(.agg [v2.1, v2.2.1])]) fun (v4 : (Int × Int × Unit)) =>
bif (!(eqZ v4.2.1 0)) then (
some (.int .i64 v4.2.1)) else (
bd (lenD false a1) fun v5 =>
lp.run (fun (((t0v6, t19v6, t20v6, t21v6, _), (_)) : (D × D × Int × Int × Unit) × (Unit)) =>
bif (ltZ t21v6 t20v6) then (
ixT q4 1 t19v6 (.int .i64 t21v6) none fun (v9 : Int) =>
bif (ltZ v9 0) then (
rt (
some (.int .i64 7))) else (
bd (ptF t0v6) fun v10 =>
tkT q19 v10.1 (v10.2 + 0) none fun (v12 : D) =>
bd (lenD false v12) fun v13 =>
bif (leZ (v13 : Int) v9) then (
rt (
some (.int .i64 7))) else (
some (.inl ((t0v6, t19v6, t20v6, (wrapD .i64 (t21v6 + 1)), ()), (())))))) else (
rt (
some (.int .i64 0)))) ((a0, a1, (v5 : Int), (0 : Int), ()), (())))
theorem S74_eq (lp : Lp) (cl : CL) (a0 : D) (a1 : D) : runS lp Tryz.prog TryzG cl 74 [(.fz a0), (.fz a1)] = S74 lp cl a0 a1 := by kernel_rfl
def S74_w (lp : Lp) (cl : CL) (args : List D) : Option D := bd (Sh.gds [.fz, .fz] args) fun v => S74 lp cl v.1 v.2.1
theorem S74_t : TabE TryzE 74 S74_w := tab_of (by kernel_rfl) fun lp cl v => S74_eq lp cl v.1 v.2.1

/- 82 strings.Trim -/
def S82 (lp : Lp) (cl : CL) (a0 : List UInt8) (a1 : List UInt8) : Option D :=
bj (α := (List UInt8 × List UInt8 × Unit) × (Unit)) (
bif (eqS a0 []) then (
rt (
some (.str a0))) else (
bif (eqS a1 []) then (
rt (
some (.str a0))) else (
some (.inl ((a0, a1, ()), (())))))) fun (((t0v0, t1v0, _), (_)) : (List UInt8 × List UInt8 × Unit) × (Unit)) =>
bj (α := (List UInt8 × List UInt8 × Unit) × (Unit)) (
bj (α := (List UInt8 × List UInt8 × Bool × Unit) × (Unit)) (
bif (eqZ (List.length t1v0 : Int) 1) then (
bd (ixStr t1v0 (.int .i64 0)) fun v3 =>
some (.inl ((t0v0, t1v0, (ltZ v3 128), ()), (())))) else (
some (.inl ((t0v0, t1v0, false, ()), (()))))) fun (((t0v2, t1v2, t21v2, _), (_)) : (List UInt8 × List UInt8 × Bool × Unit) × (Unit)) =>
bif t21v2 then (
bd (ixStr t1v2 (.int .i64 0)) fun v4 =>
clT q12 (cl 110 [(.str t0v2), (.int .u8 v4)]) fun (v6 : List UInt8) =>
bd (ixStr t1v2 (.int .i64 0)) fun v7 =>
clT q12 (cl 109 [(.str v6), (.int .u8 v7)]) fun (v9 : List UInt8) =>
rt (
some (.str v9))) else (
some (.inl ((t0v2, t1v2, ()), (()))))) fun (((t0v1, t1v1, _), (_)) : (List UInt8 × List UInt8 × Unit) × (Unit)) =>
clT q22 (cl 111 [(.str t1v1)]) fun (v11 : (D × Bool × Unit)) =>
bd (cellsF 256 v11.1) fun v12 =>
bd (inR 0 256 256) fun _ =>
bif v11.2.1 then (
clT q12 (cl 113 [(.str t0v1), (.iptr (setQ [(.bool false), (.bool false), (.bool false), (.bool false), (.bool false), (.bool false), (.bool false), (.bool false), (.bool false), (.bool false), (.bool false), (.bool false), (.bool false), (.bool false), (.bool false), (.bool false), (.bool false), (.bool false), (.bool false), (.bool false), (.bool false), (.bool false), (.bool false), (.bool false), (.bool false), (.bool false), (.bool false), (.bool false), (.bool false), (.bool false), (.bool false), (.bool false), (.bool false), (.bool false), (.bool false), (.bool false), (.bool false), (.bool false), (.bool false), (.bool false), (.bool false), (.bool false), (.bool false), (.bool false), (.bool false), (.bool false), (.bool false), (.bool false), (.bool false), (.bool false), (.bool false), (.bool false), (.bool false), (.bool false), (.bool false), (.bool false), (.bool false), (.bool false), (.bool false), (.bool false), (.bool false), (.bool false), (.bool false), (.bool false), (.bool false), (.bool false), (.bool false), (.bool false), (.bool false), (.bool false), (.bool false), (.bool false), (.bool false), (.bool false), (.bool false), (.bool false), (.bool false), (.bool false), (.bool false), (.bool false), (.bool false), (.bool false), (.bool false), (.bool false), (.bool false), (.bool false), (.bool false), (.bool false), (.bool false), (.bool false), (.bool false), (.bool false), (.bool false), (.bool false), (.bool false), (.bool false), (.bool false), (.bool false), (.bool false), (.bool false), (.bool false), (.bool false), (.bool false), (.bool false), (.bool false), (.bool false), (.bool false), (.bool false), (.bool false), (.bool false), (.bool false), (.bool false), (.bool false), (.bool false), (.bool false), (.bool false), (.bool false), (.bool false), (.bool false), (.bool false), (.bool false), (.bool false), (.bool false), (.bool false), (.bool false), (.bool false), (.bool false), (.bool false), (.bool false), (.bool false), (.bool false), (.bool false), (.bool false), (.bool false), (.bool false), (.bool false), (.bool false), (.bool false), (.bool false), (.bool false), (.bool false), (.bool false), (.bool false), (.bool false), (.bool false), (.bool false), (.bool false), (.bool false), (.bool false), (.bool false), (.bool false), (.bool false), (.bool false), (.bool false), (.bool false), (.bool false), (.bool false), (.bool false), (.bool false), (.bool false), (.bool false), (.bool false), (.bool false), (.bool false), (.bool false), (.bool false), (.bool false), (.bool false), (.bool false), (.bool false), (.bool false), (.bool false), (.bool false), (.bool false), (.bool false), (.bool false), (.bool false), (.bool false), (.bool false), (.bool false), (.bool false), (.bool false), (.bool false), (.bool false), (.bool false), (.bool false), (.bool false), (.bool false), (.bool false), (.bool false), (.bool false), (.bool false), (.bool false), (.bool false), (.bool false), (.bool false), (.bool false), (.bool false), (.bool false), (.bool false), (.bool false), (.bool false), (.bool false), (.bool false), (.bool false), (.bool false), (.bool false), (.bool false), (.bool false), (.bool false), (.bool false), (.bool false), (.bool false), (.bool false), (.bool false), (.bool false), (.bool false), (.bool false), (.bool false), (.bool false), (.bool false), (.bool false), (.bool false), (.bool false), (.bool false), (.bool false), (.bool false), (.bool false), (.bool false), (.bool false), (.bool false), (.bool false), (.bool false), (.bool false), (.bool false), (.bool false), (.bool false), (.bool false), (.bool false), (.bool false), (.bool false), (.bool false), (.bool false), (.bool false), (.bool false), (.bool false), (.bool false), (.bool false), (.bool false), (.bool false), (.bool false), (.bool false), (.bool false), (.bool false), (.bool false), (.bool false)] 0 v12) 0)]) fun (v14 : List UInt8) =>
clT q12 (cl 112 [(.str v14), (.iptr (setQ [(.bool false), (.bool false), (.bool false), (.bool false), (.bool false), (.bool false), (.bool false), (.bool false), (.bool false), (.bool false), (.bool false), (.bool false), (.bool false), (.bool false), (.bool false), (.bool false), (.bool false), (.bool false), (.bool false), (.bool false), (.bool false), (.bool false), (.bool false), (.bool false), (.bool false), (.bool false), (.bool false), (.bool false), (.bool false), (.bool false), (.bool false), (.bool false), (.bool false), (.bool false), (.bool false), (.bool false), (.bool false), (.bool false), (.bool false), (.bool false), (.bool false), (.bool false), (.bool false), (.bool false), (.bool false), (.bool false), (.bool false), (.bool false), (.bool false), (.bool false), (.bool false), (.bool false), (.bool false), (.bool false), (.bool false), (.bool false), (.bool false), (.bool false), (.bool false), (.bool false), (.bool false), (.bool false), (.bool false), (.bool false), (.bool false), (.bool false), (.bool false), (.bool false), (.bool false), (.bool false), (.bool false), (.bool false), (.bool false), (.bool false), (.bool false), (.bool false), (.bool false), (.bool false), (.bool false), (.bool false), (.bool false), (.bool false), (.bool false), (.bool false), (.bool false), (.bool false), (.bool false), (.bool false), (.bool false), (.bool false), (.bool false), (.bool false), (.bool false), (.bool false), (.bool false), (.bool false), (.bool false), (.bool false), (.bool false), (.bool false), (.bool false), (.bool false), (.bool false), (.bool false), (.bool false), (.bool false), (.bool false), (.bool false), (.bool false), (.bool false), (.bool false), (.bool false), (.bool false), (.bool false), (.bool false), (.bool false), (.bool false), (.bool false), (.bool false), (.bool false), (.bool false), (.bool false), (.bool false), (.bool false), (.bool false), (.bool false), (.bool false), (.bool false), (.bool false), (.bool false), (.bool false), (.bool false), (.bool false), (.bool false), (.bool false), (.bool false), (.bool false), (.bool false), (.bool false), (.bool false), (.bool false), (.bool false), (.bool false), (.bool false), (.bool false), (.bool false), (.bool false), (.bool false), (.bool false), (.bool false), (.bool false), (.bool false), (.bool false), (.bool false), (.bool false), (.bool false), (.bool false), (.bool false), (.bool false), (.bool false), (.bool false), (.bool false), (.bool false), (.bool false), (.bool false), (.bool false), (.bool false), (.bool false), (.bool false), (.bool false), (.bool false), (.bool false), (.bool false), (.bool false), (.bool false), (.bool false), (.bool false), (.bool false), (.bool false), (.bool false), (.bool false), (.bool false), (.bool false), (.bool false), (.bool false), (.bool false), (.bool false), (.bool false), (.bool false), (.bool false), (.bool false), (.bool false), (.bool false), (.bool false), (.bool false), (.bool false), (.bool false), (.bool false), (.bool false), (.bool false), (.bool false), (.bool false), (.bool false), (.bool false), (.bool false), (.bool false), (.bool false), (.bool false), (.bool false), (.bool false), (.bool false), (.bool false), (.bool false), (.bool false), (.bool false), (.bool false), (.bool false), (.bool false), (.bool false), (.bool false), (.bool false), (.bool false), (.bool false), (.bool false), (.bool false), (.bool false), (.bool false), (.bool false), (.bool false), (.bool false), (.bool false), (.bool false), (.bool false), (.bool false), (.bool false), (.bool false), (.bool false), (.bool false), (.bool false), (.bool false), (.bool false), (.bool false), (.bool false), (.bool false), (.bool false), (.bool false), (.bool false), (.bool false), (.bool false), (.bool false), (.bool false), (.bool false), (.bool false), (.bool false), (.bool false), (.bool false)] 0 v12) 0)]) fun (v16 : List UInt8) =>
some (.str v16)) else (
clT q12 (cl 115 [(.str t0v1), (.str t1v1)]) fun (v18 : List UInt8) =>
clT q12 (cl 114 [(.str v18), (.str t1v1)]) fun (v20 : List UInt8) =>
some (.str v20))
theorem S82_eq (lp : Lp) (cl : CL) (a0 : List UInt8) (a1 : List UInt8) : runS lp Tryz.prog TryzG cl 82 [(.str a0), (.str a1)] = S82 lp cl a0 a1 := by kernel_rfl
def S82_w (lp : Lp) (cl : CL) (args : List D) : Option D := bd (Sh.gds [.str, .str] args) fun v => S82 lp cl v.1 v.2.1
theorem S82_t : TabE TryzE 82 S82_w := tab_of (by kernel_rfl) fun lp cl v => S82_eq lp cl v.1 v.2.1

/- 83 slices.Index[[]string,string] -/
def S83 (lp : Lp) (cl : CL) (a0 : D) (a1 : List UInt8) : Option D :=
bd (lenD false a0) fun v0 =>
lp.run (fun (((t0v1, t1v1, t7v1, t8v1, _), (_)) : (D × List UInt8 × Int × Int × Unit) × (Unit)) =>
bif (ltZ t8v1 t7v1) then (
ixT q12 1 t0v1 (.int .i64 t8v1) none fun (v4 : List UInt8) =>
bif (eqS t1v1 v4) then (
rt (
some (.int .i64 t8v1))) else (
some (.inl ((t0v1, t1v1, t7v1, (wrapD .i64 (t8v1 + 1)), ()), (()))))) else (
rt (
some (.int .i64 (-1))))) ((a0, a1, (v0 : Int), (0 : Int), ()), (()))
theorem S83_eq (lp : Lp) (cl : CL) (a0 : D) (a1 : List UInt8) : runS lp Tryz.prog TryzG cl 83 [(.fz a0), (.str a1)] = S83 lp cl a0 a1 := by kernel_rfl
def S83_w (lp : Lp) (cl : CL) (args : List D) : Option D := bd (Sh.gds [.fz, .str] args) fun v => S83 lp cl v.1 v.2.1
theorem S83_t : TabE TryzE 83 S83_w := tab_of (by kernel_rfl) fun lp cl v => S83_eq lp cl v.1 v.2.1

/- 84 invigilator/prims.errs -/
def S84 (lp : Lp) (cl : CL) (a0 : D) : Option D :=
some a0
theorem S84_eq (lp : Lp) (cl : CL) (a0 : D) : runS lp Tryz.prog TryzG cl 84 [(.fz a0)] = S84 lp cl a0 := by kernel_rfl
def S84_w (lp : Lp) (cl : CL) (args : List D) : Option D := bd (Sh.gds [.fz] args) fun v => S84 lp cl v.1
theorem S84_t : TabE TryzE 84 S84_w := tab_of (by kernel_rfl) fun lp cl v => S84_eq lp cl v.1

/- 109 strings.trimLeftByte -/
def S109 (lp : Lp) (cl : CL) (a0 : List UInt8) (a1 : Int) : Option D :=
lp.run (fun (((t0v0, t1v0, _), (_)) : (List UInt8 × Int × Unit) × (Unit)) =>
bif (ltZ 0 (List.length t0v0 : Int)) then (
bd (ixStr t0v0 (.int .i64 0)) fun v1 =>
bif (eqZ v1 t1v0) then (
bd (slStr t0v0 (some (.int .i64 1)) none) fun v2 =>
some (.inl ((v2, t1v0, ()), (())))) else (
rt (
some (.str t0v0)))) else (
rt (
some (.str t0v0)))) ((a0, a1, ()), (()))
theorem S109_eq (lp : Lp) (cl : CL) (a0 : List UInt8) (a1 : Int) : runS lp Tryz.prog TryzG cl 109 [(.str a0), (.int .u8 a1)] = S109 lp cl a0 a1 := by kernel_rfl
def S109_w (lp : Lp) (cl : CL) (args : List D) : Option D := bd (Sh.gds [.str, (.int .u8)] args) fun v => S109 lp cl v.1 v.2.1
theorem S109_t : TabE TryzE 109 S109_w := tab_of (by kernel_rfl) fun lp cl v => S109_eq lp cl v.1 v.2.1

/- 142 (*strings.asciiSet).contains -/
def S142 (lp : Lp) (cl : CL) (a0 : D) (a1 : Int) : Option D :=
bd (ptF a0) fun v0 =>
bd (idxD 256 (.int .u8 a1)) fun v1 =>
tkT q0 v0.1 (v0.2 + v1 * 1) none fun (v3 : Bool) =>
some (.bool v3)
theorem S142_eq (lp : Lp) (cl : CL) (a0 : D) (a1 : Int) : runS lp Tryz.prog TryzG cl 142 [(.fz a0), (.int .u8 a1)] = S142 lp cl a0 a1 := by kernel_rfl
def S142_w (lp : Lp) (cl : CL) (args : List D) : Option D := bd (Sh.gds [.fz, (.int .u8)] args) fun v => S142 lp cl v.1 v.2.1
theorem S142_t : TabE TryzE 142 S142_w := tab_of (by kernel_rfl) fun lp cl v => S142_eq lp cl v.1 v.2.1

/- 143 unicode/utf8.DecodeRuneInString -/
def S143 (lp : Lp) (cl : CL) (a0 : List UInt8) : Option D :=
bj (α := (List UInt8 × Bool × Unit) × (Unit)) (
bif (!(eqS a0 [])) then (
bd (ixStr a0 (.int .i64 0)) fun v1 =>
some (.inl ((a0, (ltZ v1 128), ()), (())))) else (
some (.inl ((a0, false, ()), (()))))) fun (((t0v0, t10v0, _), (_)) : (List UInt8 × Bool × Unit) × (Unit)) =>
bif t10v0 then (
bd (ixStr t0v0 (.int .i64 0)) fun v2 =>
some (.tup [(.int .i32 (wrapD .i32 v2)), (.int .i64 1)])) else (
clT q28 (cl 156 [(.str t0v0)]) fun (v4 : (Int × Int × Unit)) =>
some (.tup [(.int .i32 v4.1), (.int .i64 v4.2.1)]))
theorem S143_eq (lp : Lp) (cl : CL) (a0 : List UInt8) : runS lp Tryz.prog TryzG cl 143 [(.str a0)] = S143 lp cl a0 := by kernel_rfl
def S143_w (lp : Lp) (cl : CL) (args : List D) : Option D := bd (Sh.gds [.str] args) fun v => S143 lp cl v.1
theorem S143_t : TabE TryzE 143 S143_w := tab_of (by kernel_rfl) fun lp cl v => S143_eq lp cl v.1

/- 145 unicode/utf8.DecodeLastRuneInString -/
def S145 (lp : Lp) (cl : CL) (a0 : List UInt8) : Option D :=
bif (eqZ (List.length a0 : Int) 0) then (
some (.tup [(.int .i32 65533), (.int .i64 0)])) else (
bd (ixStr a0 (.int .i64 (wrapD .i64 ((List.length a0 : Int) - 1)))) fun v0 =>
bif (ltZ (wrapD .i32 v0) 128) then (
some (.tup [(.int .i32 (wrapD .i32 v0)), (.int .i64 1)])) else (
bj (α := (List UInt8 × Int × Int × Unit) × (Unit)) (
lp.run (fun (((t0v2, t4v2, t5v2, t6v2, _), (_)) : (List UInt8 × Int × Int × Int × Unit) × (Unit)) =>
bif (leZ t6v2 t5v2) then (
bd (ixStr t0v2 (.int .i64 t5v2)) fun v3 =>
clT q0 (cl 158 [(.int .u8 v3)]) fun (v5 : Bool) =>
bif v5 then (
rt (
some (.inl ((t0v2, t4v2, t5v2, ()), (()))))) else (
some (.inl ((t0v2, t4v2, (wrapD .i64 (t5v2 - 1)), t6v2, ()), (()))))) else (
rt (
some (.inl ((t0v2, t4v2, t5v2, ()), (())))))) ((a0, (List.length a0 : Int), (wrapD .i64 ((wrapD .i64 ((List.length a0 : Int) - 1)) - 1)), (mmZ true (wrapD .i64 ((List.length a0 : Int) - 4)) 0), ()), (()))) fun (((t0v1, t4v1, t5v1, _), (_)) : (List UInt8 × Int × Int × Unit) × (Unit)) =>
bj (α := (List UInt8 × Int × Int × Unit) × (Unit)) (
bif (ltZ t5v1 0) then (
some (.inl ((t0v1, t4v1, (0 : Int), ()), (())))) else (
some (.inl ((t0v1, t4v1, t5v1, ()), (()))))) fun (((t0v6, t4v6, t5v6, _), (_)) : (List UInt8 × Int × Int × Unit) × (Unit)) =>
bd (slStr t0v6 (some (.int .i64 t5v6)) (some (.int .i64 t4v6))) fun v7 =>
clT q28 (cl 143 [(.str v7)]) fun (v9 : (Int × Int × Unit)) =>
bif (!(eqZ (wrapD .i64 (t5v6 + v9.2.1)) t4v6)) then (
some (.tup [(.int .i32 65533), (.int .i64 1)])) else (
some (.tup [(.int .i32 v9.1), (.int .i64 v9.2.1)]))))
theorem S145_eq (lp : Lp) (cl : CL) (a0 : List UInt8) : runS lp Tryz.prog TryzG cl 145 [(.str a0)] = S145 lp cl a0 := by kernel_rfl
def S145_w (lp : Lp) (cl : CL) (args : List D) : Option D := bd (Sh.gds [.str] args) fun v => S145 lp cl v.1
theorem S145_t : TabE TryzE 145 S145_w := tab_of (by kernel_rfl) fun lp cl v => S145_eq lp cl v.1

end Go.Proofs.YtblbgjfkbcdlfaaGreatDoor
