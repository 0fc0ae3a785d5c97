/- What the functions come to. -/
import Derived.Test.YtblbgjfkbcdlfaaGreatDoorSH
set_option linter.unusedVariables false
set_option maxRecDepth 100000
namespace Go.Proofs.YtblbgjfkbcdlfaaGreatDoor
open Go Iv
/- 5 invigilator/invigilatorlaw27.TaintRules -/
def S5 (lp : Lp) (cl : CL) (a0_0 : D) (a0_1 : D) (a1 : Int) (a2 : D) : Option D :=
bj (α := (Int × D × Unit × Unit) × ((D × D × Unit) × Unit)) (
clT q0 (cl 6 [(.agg [a0_0, a0_1])]) fun (v2 : Bool) =>
bif v2 then (
clT q0 (cl 7 []) fun (v4 : Bool) =>
rt (
some (.bool v4))) else (
bd (lenD false a2) fun v5 =>
bif (ltZ 2 (v5 : Int)) then (
clT q0 (cl 7 []) fun (v7 : Bool) =>
rt (
some (.bool v7))) else (
some (.inl ((a1, a2, (), ()), ((a0_0, a0_1, ()), ())))))) fun (((t1v0, t2v0, _, _), ((b0v0_0, b0v0_1, _), _)) : (Int × D × Unit × Unit) × ((D × D × Unit) × Unit)) =>
lp.run (fun (((t1v8, t2v8, _, t7v8, t8v8, t9v8, _), (b900008v8, b900007v8, (b0v8_0, b0v8_1, _), _)) : (Int × D × Unit × Nat × Nat × Int × Unit) × (List D × List D × (D × D × Unit) × Unit)) =>
bd (lenD false t2v8) fun v9 =>
bif (ltZ t9v8 (v9 : Int)) then (
ixT q2 5 t2v8 (.int .i64 t9v8) (some 5) fun (v12 : (Int × Int × Int × Int × Int × Unit)) =>
clT q4 (cl 13 [(.agg [b0v8_0, b0v8_1]), (.agg [(.int .i64 v12.1), (.int .i64 v12.2.1), (.int .i64 v12.2.2.1), (.int .i64 v12.2.2.2.1), (.int .i64 v12.2.2.2.2.1)])]) fun (v14 : Int) =>
bif (!(eqZ v14 0)) then (
clT q0 (cl 7 []) fun (v16 : Bool) =>
rt (
some (.bool v16))) else (
bd (elF 5 t2v8 (.int .i64 t9v8)) fun v17 =>
tkT q4 v17.1 (v17.2 + 0) none fun (v19 : Int) =>
bd (apG true (t7v8 * 1) (List.length b900007v8) (t7v8 + 1) 8) fun _ =>
bd (elF 5 t2v8 (.int .i64 t9v8)) fun v20 =>
tkT q4 v20.1 (v20.2 + 1) none fun (v22 : Int) =>
bd (apG true (t8v8 * 1) (List.length b900008v8) (t8v8 + 1) 8) fun _ =>
some (.inl ((t1v8, t2v8, (), (t7v8 + 1), (t8v8 + 1), (wrapD .i64 (t9v8 + 1)), ()), ((b900008v8 ++ [(.int .i64 v22)]), (b900007v8 ++ [(.int .i64 v19)]), (b0v8_0, b0v8_1, ()), ()))))) else (
rt (
clT q1 (cl 8 [(.agg [b0v8_0, b0v8_1]), (.int .i64 t1v8), t2v8]) fun (v24 : ((Int × Int × Int × Int × Int × Int × Int × Unit) × Int × Unit)) =>
clT q1 (cl 14 [(.agg [b0v8_0, b0v8_1]), (.int .i64 t1v8), t2v8]) fun (v26 : ((Int × Int × Int × Int × Int × Int × Int × Unit) × Int × Unit)) =>
bd (frSl false 0 1 t7v8 b900007v8) fun v27 =>
bd (frSl false 0 1 t8v8 b900008v8) fun v28 =>
clT q5 (cl 15 [(.int .i64 t1v8), v27, v28]) fun (v30 : (Int × Int × Int × Unit)) =>
bj (α := (Unit × Unit × Unit × Int × Int × Int × Int × Unit) × (List D × List D × List D × List D × (D × D × Unit) × Unit)) (
bj (α := (D × Unit × Unit × Int × Unit × Int × Int × Int × Int × Bool × Unit) × (List D × List D × List D × List D × (D × D × Unit) × Unit)) (
bd (lenD false t2v8) fun v33 =>
bif (eqZ (v33 : Int) 0) then (
some (.inl ((t2v8, (), (), v24.2.1, (), v26.2.1, v30.1, v30.2.1, v30.2.2.1, true, ()), ([(.int .i64 v26.1.1), (.int .i64 v26.1.2.1), (.int .i64 v26.1.2.2.1), (.int .i64 v26.1.2.2.2.1), (.int .i64 v26.1.2.2.2.2.1), (.int .i64 v26.1.2.2.2.2.2.1), (.int .i64 v26.1.2.2.2.2.2.2.1)], [(.int .i64 v24.1.1), (.int .i64 v24.1.2.1), (.int .i64 v24.1.2.2.1), (.int .i64 v24.1.2.2.2.1), (.int .i64 v24.1.2.2.2.2.1), (.int .i64 v24.1.2.2.2.2.2.1), (.int .i64 v24.1.2.2.2.2.2.2.1)], b900008v8, b900007v8, (b0v8_0, b0v8_1, ()), ())))) else (
some (.inl ((t2v8, (), (), v24.2.1, (), v26.2.1, v30.1, v30.2.1, v30.2.2.1, (!(eqZ v24.2.1 0)), ()), ([(.int .i64 v26.1.1), (.int .i64 v26.1.2.1), (.int .i64 v26.1.2.2.1), (.int .i64 v26.1.2.2.2.1), (.int .i64 v26.1.2.2.2.2.1), (.int .i64 v26.1.2.2.2.2.2.1), (.int .i64 v26.1.2.2.2.2.2.2.1)], [(.int .i64 v24.1.1), (.int .i64 v24.1.2.1), (.int .i64 v24.1.2.2.1), (.int .i64 v24.1.2.2.2.1), (.int .i64 v24.1.2.2.2.2.1), (.int .i64 v24.1.2.2.2.2.2.1), (.int .i64 v24.1.2.2.2.2.2.2.1)], b900008v8, b900007v8, (b0v8_0, b0v8_1, ()), ()))))) fun (((t2v32, _, _, t11v32, _, t13v32, t14v32, t15v32, t16v32, t83v32, _), (b11007v32, b10007v32, b900008v32, b900007v32, (b0v32_0, b0v32_1, _), _)) : (D × Unit × Unit × Int × Unit × Int × Int × Int × Int × Bool × Unit) × (List D × List D × List D × List D × (D × D × Unit) × Unit)) =>
bif t83v32 then (
bif (!(eqZ t11v32 0)) then (
bif (!(eqZ t13v32 0)) then (
bd (lenD false t2v32) fun v34 =>
bif (eqZ (v34 : Int) 0) then (
clT q0 (cl 7 []) fun (v36 : Bool) =>
rt (
some (.bool v36))) else (
bif (eqZ t11v32 t16v32) then (
clT q0 (cl 7 []) fun (v38 : Bool) =>
rt (
some (.bool v38))) else (
rt (
some (.bool false))))) else (
rt (
some (.bool false)))) else (
rt (
some (.bool false)))) else (
some (.inl (((), (), (), t13v32, t14v32, t15v32, t16v32, ()), (b11007v32, b10007v32, b900008v32, b900007v32, (b0v32_0, b0v32_1, ()), ()))))) fun (((_, _, _, t13v31, t14v31, t15v31, t16v31, _), (b11007v31, b10007v31, b900008v31, b900007v31, (b0v31_0, b0v31_1, _), _)) : (Unit × Unit × Unit × Int × Int × Int × Int × Unit) × (List D × List D × List D × List D × (D × D × Unit) × Unit)) =>
bif (eqZ t13v31 0) then (
bif (eqZ t16v31 0) then (
tkT q4 b10007v31 0 none fun (v40 : Int) =>
bif (eqZ v40 t14v31) then (
tkT q4 b10007v31 1 none fun (v42 : Int) =>
bif (eqZ v42 t15v31) then (
tkT q2 b10007v31 0 (some 5) fun (v44 : (Int × Int × Int × Int × Int × Unit)) =>
clT q4 (cl 13 [(.agg [b0v31_0, b0v31_1]), (.agg [(.int .i64 v44.1), (.int .i64 v44.2.1), (.int .i64 v44.2.2.1), (.int .i64 v44.2.2.2.1), (.int .i64 v44.2.2.2.2.1)])]) fun (v46 : Int) =>
bif (eqZ v46 0) then (
tkT q2 b10007v31 0 (some 5) fun (v48 : (Int × Int × Int × Int × Int × Unit)) =>
tkT q2 b11007v31 0 (some 5) fun (v50 : (Int × Int × Int × Int × Int × Unit)) =>
clT q0 (cl 11 [(.agg [b0v31_0, b0v31_1]), (.agg [(.int .i64 v48.1), (.int .i64 v48.2.1), (.int .i64 v48.2.2.1), (.int .i64 v48.2.2.2.1), (.int .i64 v48.2.2.2.2.1)]), (.agg [(.int .i64 v50.1), (.int .i64 v50.2.1), (.int .i64 v50.2.2.1), (.int .i64 v50.2.2.2.1), (.int .i64 v50.2.2.2.2.1)])]) fun (v52 : Bool) =>
bif v52 then (
tkT q4 b10007v31 5 none fun (v54 : Int) =>
tkT q4 b11007v31 5 none fun (v56 : Int) =>
clT q0 (cl 12 [(.agg [b0v31_0, b0v31_1]), (.int .i64 v54), (.int .i64 v56)]) fun (v58 : Bool) =>
bif v58 then (
tkT q4 b10007v31 6 none fun (v60 : Int) =>
tkT q4 b11007v31 6 none fun (v62 : Int) =>
clT q0 (cl 12 [(.agg [b0v31_0, b0v31_1]), (.int .i64 v60), (.int .i64 v62)]) fun (v64 : Bool) =>
bif v64 then (
clT q0 (cl 7 []) fun (v66 : Bool) =>
some (.bool v66)) else (
some (.bool false))) else (
some (.bool false))) else (
some (.bool false))) else (
some (.bool false))) else (
some (.bool false))) else (
some (.bool false))) else (
some (.bool false))) else (
some (.bool false))))) ((t1v0, t2v0, (), 0, 0, (0 : Int), ()), ([], [], (b0v0_0, b0v0_1, ()), ()))
theorem S5_eq (lp : Lp) (cl : CL) (a0_0 : D) (a0_1 : D) (a1 : Int) (a2 : D) : runS lp Tryz.prog TryzG cl 5 [(.agg [(.fz a0_0), (.fz a0_1)]), (.int .i64 a1), (.fz a2)] = S5 lp cl a0_0 a0_1 a1 a2 := by kernel_rfl
def S5_w (lp : Lp) (cl : CL) (args : List D) : Option D := bd (Sh.gds [(.agg [.fz, .fz]), (.int .i64), .fz] args) fun v => S5 lp cl v.1.1 v.1.2.1 v.2.1 v.2.2.1
theorem S5_t : TabE TryzE 5 S5_w := tab_of (by kernel_rfl) fun lp cl v => S5_eq lp cl v.1.1 v.1.2.1 v.2.1 v.2.2.1

/- 7 invigilator/invigilatorlaw27.awake -/
def S7 (lp : Lp) (cl : CL)  : Option D :=
clT q2 (cl 17 [(.int .i64 1), (.int .i64 0), (.int .i64 1)]) fun (v1 : (Int × Int × Int × Int × Int × Unit)) =>
clT q2 (cl 17 [(.int .i64 0), (.int .i64 0), (.int .i64 0)]) fun (v3 : (Int × Int × Int × Int × Int × Unit)) =>
clT q6 (cl 18 []) fun (v5 : (D × D × Unit)) =>
clT q1 (cl 8 [(.agg [v5.1, v5.2.1]), (.int .i64 15), (.sl true 2 [(.int .i64 v1.1), (.int .i64 v1.2.1), (.int .i64 v1.2.2.1), (.int .i64 v1.2.2.2.1), (.int .i64 v1.2.2.2.2.1), (.int .i64 v3.1), (.int .i64 v3.2.1), (.int .i64 v3.2.2.1), (.int .i64 v3.2.2.2.1), (.int .i64 v3.2.2.2.2.1)])]) fun (v7 : ((Int × Int × Int × Int × Int × Int × Int × Unit) × Int × Unit)) =>
clT q6 (cl 18 []) fun (v9 : (D × D × Unit)) =>
clT q1 (cl 8 [(.agg [v9.1, v9.2.1]), (.int .i64 27), (.sl true 2 [(.int .i64 v1.1), (.int .i64 v1.2.1), (.int .i64 v1.2.2.1), (.int .i64 v1.2.2.2.1), (.int .i64 v1.2.2.2.2.1), (.int .i64 v3.1), (.int .i64 v3.2.1), (.int .i64 v3.2.2.1), (.int .i64 v3.2.2.2.1), (.int .i64 v3.2.2.2.2.1)])]) fun (v11 : ((Int × Int × Int × Int × Int × Int × Int × Unit) × Int × Unit)) =>
clT q6 (cl 18 []) fun (v13 : (D × D × Unit)) =>
clT q1 (cl 8 [(.agg [v13.1, v13.2.1]), (.int .i64 40), (.sl true 2 [(.int .i64 v1.1), (.int .i64 v1.2.1), (.int .i64 v1.2.2.1), (.int .i64 v1.2.2.2.1), (.int .i64 v1.2.2.2.2.1), (.int .i64 v1.1), (.int .i64 v1.2.1), (.int .i64 v1.2.2.1), (.int .i64 v1.2.2.2.1), (.int .i64 v1.2.2.2.2.1)])]) fun (v15 : ((Int × Int × Int × Int × Int × Int × Int × Unit) × Int × Unit)) =>
clT q6 (cl 18 []) fun (v17 : (D × D × Unit)) =>
clT q1 (cl 8 [(.agg [v17.1, v17.2.1]), (.int .i64 12), (.sl true 1 [(.int .i64 v1.1), (.int .i64 v1.2.1), (.int .i64 v1.2.2.1), (.int .i64 v1.2.2.2.1), (.int .i64 v1.2.2.2.2.1)])]) fun (v19 : ((Int × Int × Int × Int × Int × Int × Int × Unit) × Int × Unit)) =>
clT q6 (cl 18 []) fun (v21 : (D × D × Unit)) =>
clT q2 (cl 17 [(.int .i64 0), (.int .i64 0), (.int .i64 1)]) fun (v23 : (Int × Int × Int × Int × Int × Unit)) =>
clT q1 (cl 8 [(.agg [v21.1, v21.2.1]), (.int .i64 8), (.sl true 1 [(.int .i64 v23.1), (.int .i64 v23.2.1), (.int .i64 v23.2.2.1), (.int .i64 v23.2.2.2.1), (.int .i64 v23.2.2.2.2.1)])]) fun (v25 : ((Int × Int × Int × Int × Int × Int × Int × Unit) × Int × Unit)) =>
bif (((eqZ v7.1.1 v1.1) && ((eqZ v7.1.2.1 v1.2.1) && (((eqZ v7.1.2.2.1 v1.2.2.1) && ((eqZ v7.1.2.2.2.1 v1.2.2.2.1) && true)) && ((eqZ v7.1.2.2.2.2.1 v1.2.2.2.2.1) && true)))) && ((eqZ v7.1.2.2.2.2.2.1 1) && ((eqZ v7.1.2.2.2.2.2.2.1 0) && true))) then (
bif (eqZ v7.2.1 0) then (
bif (((eqZ v11.1.1 v1.1) && ((eqZ v11.1.2.1 v1.2.1) && (((eqZ v11.1.2.2.1 v1.2.2.1) && ((eqZ v11.1.2.2.2.1 v1.2.2.2.1) && true)) && ((eqZ v11.1.2.2.2.2.1 v1.2.2.2.2.1) && true)))) && ((eqZ v11.1.2.2.2.2.2.1 0) && ((eqZ v11.1.2.2.2.2.2.2.1 0) && true))) then (
bif (eqZ v11.2.1 0) then (
clT q2 (cl 17 [(.int .i64 1), (.int .i64 1), (.int .i64 1)]) fun (v27 : (Int × Int × Int × Int × Int × Unit)) =>
bif (((eqZ v15.1.1 v27.1) && ((eqZ v15.1.2.1 v27.2.1) && (((eqZ v15.1.2.2.1 v27.2.2.1) && ((eqZ v15.1.2.2.2.1 v27.2.2.2.1) && true)) && ((eqZ v15.1.2.2.2.2.1 v27.2.2.2.2.1) && true)))) && ((eqZ v15.1.2.2.2.2.2.1 0) && ((eqZ v15.1.2.2.2.2.2.2.1 0) && true))) then (
bif (eqZ v15.2.1 0) then (
bif (((eqZ v19.1.1 v3.1) && ((eqZ v19.1.2.1 v3.2.1) && (((eqZ v19.1.2.2.1 v3.2.2.1) && ((eqZ v19.1.2.2.2.1 v3.2.2.2.1) && true)) && ((eqZ v19.1.2.2.2.2.1 v3.2.2.2.2.1) && true)))) && ((eqZ v19.1.2.2.2.2.2.1 0) && ((eqZ v19.1.2.2.2.2.2.2.1 0) && true))) then (
bif (eqZ v19.2.1 0) then (
clT q2 (cl 17 [(.int .i64 1), (.int .i64 1), (.int .i64 1)]) fun (v29 : (Int × Int × Int × Int × Int × Unit)) =>
bif (((eqZ v25.1.1 v29.1) && ((eqZ v25.1.2.1 v29.2.1) && (((eqZ v25.1.2.2.1 v29.2.2.1) && ((eqZ v25.1.2.2.2.1 v29.2.2.2.1) && true)) && ((eqZ v25.1.2.2.2.2.1 v29.2.2.2.2.1) && true)))) && ((eqZ v25.1.2.2.2.2.2.1 1) && ((eqZ v25.1.2.2.2.2.2.2.1 1) && true))) then (
some (.bool (eqZ v25.2.1 0))) else (
some (.bool false))) else (
some (.bool false))) else (
some (.bool false))) else (
some (.bool false))) else (
some (.bool false))) else (
some (.bool false))) else (
some (.bool false))) else (
some (.bool false))) else (
some (.bool false))
theorem S7_eq (lp : Lp) (cl : CL)  : runS lp Tryz.prog TryzG cl 7 [] = S7 lp cl  := by kernel_rfl
def S7_w (lp : Lp) (cl : CL) (args : List D) : Option D := bd (Sh.gds [] args) fun v => S7 lp cl 
theorem S7_t : TabE TryzE 7 S7_w := tab_of (by kernel_rfl) fun lp cl v => S7_eq lp cl 

/- 14 invigilator/invigilatorref21.Rule -/
def S14 (lp : Lp) (cl : CL) (a0_0 : D) (a0_1 : D) (a1 : Int) (a2 : D) : Option D :=
bd (lenD false a2) fun v0 =>
bif (ltZ 2 (v0 : Int)) then (
some (.tup [(.agg [(.int .i64 0), (.int .i64 0), (.int .i64 0), (.int .i64 0), (.int .i64 0), (.int .i64 0), (.int .i64 0)]), (.int .i64 3)])) else (
clT q7 (cl 27 [(.agg [a0_0, a0_1])]) fun (v2 : (Int × Int × Unit)) =>
bif (!(eqZ v2.2.1 0)) then (
some (.tup [(.agg [(.int .i64 0), (.int .i64 0), (.int .i64 0), (.int .i64 0), (.int .i64 0), (.int .i64 0), (.int .i64 0)]), (.int .i64 v2.2.1)])) else (
lp.run (fun (((t1v3, t2v3, _, _, t10v3, t11v3, t12v3, _), (b900011v3, b900010v3, b1v3, (b0v3_0, b0v3_1, _), _)) : (Int × D × Unit × Unit × Nat × Nat × Int × Unit) × (List D × List D × List D × (D × D × Unit) × Unit)) =>
bd (lenD false t2v3) fun v4 =>
bif (ltZ t12v3 (v4 : Int)) then (
ixT q2 5 t2v3 (.int .i64 t12v3) (some 5) fun (v7 : (Int × Int × Int × Int × Int × Unit)) =>
clT q4 (cl 38 [(.agg [b0v3_0, b0v3_1]), (.agg [(.int .i64 v7.1), (.int .i64 v7.2.1), (.int .i64 v7.2.2.1), (.int .i64 v7.2.2.2.1), (.int .i64 v7.2.2.2.2.1)])]) fun (v9 : Int) =>
bif (!(eqZ v9 0)) then (
bd (inR 0 7 (List.length b1v3)) fun _ =>
rt (
bd (takeAt (setQ b1v3 0 [(.int .i64 0), (.int .i64 0), (.int .i64 0), (.int .i64 0), (.int .i64 0), (.int .i64 0), (.int .i64 0)]) 0 (some 7)) fun v10 =>
some (.tup [v10, (.int .i64 v9)]))) else (
bd (elF 5 t2v3 (.int .i64 t12v3)) fun v11 =>
tkT q4 v11.1 (v11.2 + 0) none fun (v13 : Int) =>
bd (apG true (t10v3 * 1) (List.length b900010v3) (t10v3 + 1) 8) fun _ =>
bd (elF 5 t2v3 (.int .i64 t12v3)) fun v14 =>
tkT q4 v14.1 (v14.2 + 1) none fun (v16 : Int) =>
bd (apG true (t11v3 * 1) (List.length b900011v3) (t11v3 + 1) 8) fun _ =>
some (.inl ((t1v3, t2v3, (), (), (t10v3 + 1), (t11v3 + 1), (wrapD .i64 (t12v3 + 1)), ()), ((b900011v3 ++ [(.int .i64 v16)]), (b900010v3 ++ [(.int .i64 v13)]), b1v3, (b0v3_0, b0v3_1, ()), ()))))) else (
rt (
bd (frSl false 0 1 t10v3 b900010v3) fun v17 =>
bd (frSl false 0 1 t11v3 b900011v3) fun v18 =>
clT q5 (cl 15 [(.int .i64 t1v3), v17, v18]) fun (v20 : (Int × Int × Int × Unit)) =>
bif (!(eqZ v20.2.2.1 0)) then (
bd (inR 0 7 (List.length b1v3)) fun _ =>
bd (takeAt (setQ b1v3 0 [(.int .i64 0), (.int .i64 0), (.int .i64 0), (.int .i64 0), (.int .i64 0), (.int .i64 0), (.int .i64 0)]) 0 (some 7)) fun v21 =>
some (.tup [v21, (.int .i64 v20.2.2.1)])) else (
clT q10 (cl 39 [(.agg [b0v3_0, b0v3_1]), (.int .i64 t1v3), t2v3]) fun (v23 : (Int × Int × Int × Int × Int × Int × Int × Unit)) =>
bd (inR 0 7 (List.length b1v3)) fun _ =>
bd (takeAt (setQ b1v3 0 [(.int .i64 v23.1), (.int .i64 v23.2.1), (.int .i64 v23.2.2.1), (.int .i64 v23.2.2.2.1), (.int .i64 v23.2.2.2.2.1), (.int .i64 v23.2.2.2.2.2.1), (.int .i64 v23.2.2.2.2.2.2.1)]) 0 (some 7)) fun v24 =>
some (.tup [v24, (.int .i64 0)]))))) ((a1, a2, (), (), 0, 0, (0 : Int), ()), ([], [], [(.int .i64 0), (.int .i64 0), (.int .i64 0), (.int .i64 0), (.int .i64 0), (.int .i64 0), (.int .i64 0)], (a0_0, a0_1, ()), ()))))
theorem S14_eq (lp : Lp) (cl : CL) (a0_0 : D) (a0_1 : D) (a1 : Int) (a2 : D) : runS lp Tryz.prog TryzG cl 14 [(.agg [(.fz a0_0), (.fz a0_1)]), (.int .i64 a1), (.fz a2)] = S14 lp cl a0_0 a0_1 a1 a2 := by kernel_rfl
def S14_w (lp : Lp) (cl : CL) (args : List D) : Option D := bd (Sh.gds [(.agg [.fz, .fz]), (.int .i64), .fz] args) fun v => S14 lp cl v.1.1 v.1.2.1 v.2.1 v.2.2.1
theorem S14_t : TabE TryzE 14 S14_w := tab_of (by kernel_rfl) fun lp cl v => S14_eq lp cl v.1.1 v.1.2.1 v.2.1 v.2.2.1

/- 22 invigilator/taint.of -/
def S22 (lp : Lp) (cl : CL) (a0_0 : D) (a0_1 : D) : Option D :=
clT q7 (cl 53 [(.agg [a0_0, a0_1])]) fun (v1 : (Int × Int × Unit)) =>
some (.agg [a0_0, a0_1, (.int .i64 v1.1)])
theorem S22_eq (lp : Lp) (cl : CL) (a0_0 : D) (a0_1 : D) : runS lp Tryz.prog TryzG cl 22 [(.agg [(.fz a0_0), (.fz a0_1)])] = S22 lp cl a0_0 a0_1 := by kernel_rfl
def S22_w (lp : Lp) (cl : CL) (args : List D) : Option D := bd (Sh.gds [(.agg [.fz, .fz])] args) fun v => S22 lp cl v.1.1 v.1.2.1
theorem S22_t : TabE TryzE 22 S22_w := tab_of (by kernel_rfl) fun lp cl v => S22_eq lp cl v.1.1 v.1.2.1

/- 25 (invigilator/taint.rules).join -/
def S25 (lp : Lp) (cl : CL) (a0_0 : D) (a0_1 : D) (a0_2 : Int) (a1 : D) : Option D :=
bd (lenD false a1) fun v0 =>
lp.run (fun (((_, t5v1, t10v1, t11v1, t12v1, _), ((b0v1_0, b0v1_1, b0v1_2, _), _)) : (Unit × Int × D × Int × Int × Unit) × ((D × D × Int × Unit) × Unit)) =>
bif (ltZ t12v1 t11v1) then (
ixT q4 1 t10v1 (.int .i64 t12v1) none fun (v4 : Int) =>
clT q7 (cl 57 [(.agg [b0v1_0, b0v1_1]), (.int .i64 t5v1), (.int .i64 v4)]) fun (v6 : (Int × Int × Unit)) =>
some (.inl (((), v6.1, t10v1, t11v1, (wrapD .i64 (t12v1 + 1)), ()), ((b0v1_0, b0v1_1, b0v1_2, ()), ())))) else (
rt (
some (.int .i64 t5v1)))) (((), a0_2, a1, (v0 : Int), (0 : Int), ()), ((a0_0, a0_1, a0_2, ()), ()))
theorem S25_eq (lp : Lp) (cl : CL) (a0_0 : D) (a0_1 : D) (a0_2 : Int) (a1 : D) : runS lp Tryz.prog TryzG cl 25 [(.agg [(.fz a0_0), (.fz a0_1), (.int .i64 a0_2)]), (.fz a1)] = S25 lp cl a0_0 a0_1 a0_2 a1 := by kernel_rfl
def S25_w (lp : Lp) (cl : CL) (args : List D) : Option D := bd (Sh.gds [(.agg [.fz, .fz, (.int .i64)]), .fz] args) fun v => S25 lp cl v.1.1 v.1.2.1 v.1.2.2.1 v.2.1
theorem S25_t : TabE TryzE 25 S25_w := tab_of (by kernel_rfl) fun lp cl v => S25_eq lp cl v.1.1 v.1.2.1 v.1.2.2.1 v.2.1

/- 29 invigilator/invigilatorref27.axes -/
def S29 (lp : Lp) (cl : CL) (a0_0 : D) (a0_1 : D) (a1_0 : Int) (a1_1 : Int) (a1_2 : Int) (a1_3 : Int) (a1_4 : Int) : Option D :=
clT q4 (cl 32 [(.agg [a0_0, a0_1]), .nils]) fun (v1 : Int) =>
lp.run (fun (((_, _, t5v2, t6v2, _), ((b1v2_0, b1v2_1, b1v2_2, b1v2_3, b1v2_4, _), (b0v2_0, b0v2_1, _), _)) : (Unit × Unit × Int × Int × Unit) × ((Int × Int × Int × Int × Int × Unit) × (D × D × Unit) × Unit)) =>
bif (ltZ t6v2 b1v2_1) then (
bd (idxD 2 (.int .i64 t6v2)) fun v3 =>
tkT q4 [(.int .i64 b1v2_0), (.int .i64 b1v2_1), (.int .i64 b1v2_2), (.int .i64 b1v2_3), (.int .i64 b1v2_4)] (2 + v3 * 1) none fun (v5 : Int) =>
clT q4 (cl 32 [(.agg [b0v2_0, b0v2_1]), (.sl true 2 [(.int .i64 t5v2), (.int .i64 v5)])]) fun (v7 : Int) =>
some (.inl (((), (), v7, (wrapD .i64 (t6v2 + 1)), ()), ((b1v2_0, b1v2_1, b1v2_2, b1v2_3, b1v2_4, ()), (b0v2_0, b0v2_1, ()), ())))) else (
rt (
some (.int .i64 t5v2)))) (((), (), v1, (0 : Int), ()), ((a1_0, a1_1, a1_2, a1_3, a1_4, ()), (a0_0, a0_1, ()), ()))
theorem S29_eq (lp : Lp) (cl : CL) (a0_0 : D) (a0_1 : D) (a1_0 : Int) (a1_1 : Int) (a1_2 : Int) (a1_3 : Int) (a1_4 : Int) : runS lp Tryz.prog TryzG cl 29 [(.agg [(.fz a0_0), (.fz a0_1)]), (.agg [(.int .i64 a1_0), (.int .i64 a1_1), (.int .i64 a1_2), (.int .i64 a1_3), (.int .i64 a1_4)])] = S29 lp cl a0_0 a0_1 a1_0 a1_1 a1_2 a1_3 a1_4 := by kernel_rfl
def S29_w (lp : Lp) (cl : CL) (args : List D) : Option D := bd (Sh.gds [(.agg [.fz, .fz]), (.agg [(.int .i64), (.int .i64), (.int .i64), (.int .i64), (.int .i64)])] args) fun v => S29 lp cl v.1.1 v.1.2.1 v.2.1.1 v.2.1.2.1 v.2.1.2.2.1 v.2.1.2.2.2.1 v.2.1.2.2.2.2.1
theorem S29_t : TabE TryzE 29 S29_w := tab_of (by kernel_rfl) fun lp cl v => S29_eq lp cl v.1.1 v.1.2.1 v.2.1.1 v.2.1.2.1 v.2.1.2.2.1 v.2.1.2.2.2.1 v.2.1.2.2.2.2.1

/- 41 invigilator/invigilatorref12.kinds -/
def S41 (lp : Lp) (cl : CL) (a0 : Int) (a1 : D) : Option D :=
lp.run (fun (((t0v0, t1v0, t5v0, _), (_)) : (Int × D × Int × Unit) × (Unit)) =>
bd (lenD false t1v0) fun v1 =>
bif (ltZ t5v0 (v1 : Int)) then (
ixT q4 1 t1v0 (.int .i64 t5v0) none fun (v4 : Int) =>
bif (!(eqZ v4 1)) then (
ixT q4 1 t1v0 (.int .i64 t5v0) none fun (v7 : Int) =>
bif (!(eqZ v7 2)) then (
rt (
some (.bool false))) else (
some (.inl ((t0v0, t1v0, (wrapD .i64 (t5v0 + 1)), ()), (()))))) else (
some (.inl ((t0v0, t1v0, (wrapD .i64 (t5v0 + 1)), ()), (()))))) else (
rt (
clT q20 (cl 70 [(.int .i64 t0v0)]) fun (v9 : (Bool × Bool × Unit)) =>
bj (α := (Int × D × Unit) × (Unit)) (
bif v9.1 then (
ixT q4 1 t1v0 (.int .i64 0) none fun (v13 : Int) =>
bif (!(eqZ v13 1)) then (
rt (
some (.bool false))) else (
bd (lenD false t1v0) fun v14 =>
bif (eqZ (v14 : Int) 2) then (
bif v9.2.1 then (
ixT q4 1 t1v0 (.int .i64 1) none fun (v17 : Int) =>
bif (!(eqZ v17 1)) then (
rt (
some (.bool false))) else (
some (.inl ((t0v0, t1v0, ()), (()))))) else (
some (.inl ((t0v0, t1v0, ()), (()))))) else (
some (.inl ((t0v0, t1v0, ()), (())))))) else (
bd (lenD false t1v0) fun v18 =>
bif (eqZ (v18 : Int) 2) then (
bif v9.2.1 then (
ixT q4 1 t1v0 (.int .i64 1) none fun (v21 : Int) =>
bif (!(eqZ v21 1)) then (
rt (
some (.bool false))) else (
some (.inl ((t0v0, t1v0, ()), (()))))) else (
some (.inl ((t0v0, t1v0, ()), (()))))) else (
some (.inl ((t0v0, t1v0, ()), (())))))) fun (((t0v10, t1v10, _), (_)) : (Int × D × Unit) × (Unit)) =>
bif (!(eqZ t0v10 23)) then (
bif (!(eqZ t0v10 24)) then (
bif (!(eqZ t0v10 37)) then (
bif (!(eqZ t0v10 39)) then (
some (.bool true)) else (
ixT q4 1 t1v10 (.int .i64 0) none fun (v24 : Int) =>
ixT q4 1 t1v10 (.int .i64 1) none fun (v27 : Int) =>
some (.bool (eqZ v24 v27)))) else (
ixT q4 1 t1v10 (.int .i64 0) none fun (v30 : Int) =>
ixT q4 1 t1v10 (.int .i64 1) none fun (v33 : Int) =>
some (.bool (eqZ v30 v33)))) else (
ixT q4 1 t1v10 (.int .i64 0) none fun (v36 : Int) =>
ixT q4 1 t1v10 (.int .i64 1) none fun (v39 : Int) =>
some (.bool (eqZ v36 v39)))) else (
ixT q4 1 t1v10 (.int .i64 0) none fun (v42 : Int) =>
ixT q4 1 t1v10 (.int .i64 1) none fun (v45 : Int) =>
some (.bool (eqZ v42 v45)))))) ((a0, a1, (0 : Int), ()), (()))
theorem S41_eq (lp : Lp) (cl : CL) (a0 : Int) (a1 : D) : runS lp Tryz.prog TryzG cl 41 [(.int .i64 a0), (.fz a1)] = S41 lp cl a0 a1 := by kernel_rfl
def S41_w (lp : Lp) (cl : CL) (args : List D) : Option D := bd (Sh.gds [(.int .i64), .fz] args) fun v => S41 lp cl v.1 v.2.1
theorem S41_t : TabE TryzE 41 S41_w := tab_of (by kernel_rfl) fun lp cl v => S41_eq lp cl v.1 v.2.1

/- 42 invigilator/invigilatorref12.ranks -/
def S42 (lp : Lp) (cl : CL) (a0 : Int) (a1 : D) : Option D :=
lp.run (fun (((t0v0, t1v0, t5v0, _), (_)) : (Int × D × Int × Unit) × (Unit)) =>
bd (lenD false t1v0) fun v1 =>
bif (ltZ t5v0 (v1 : Int)) then (
ixT q4 1 t1v0 (.int .i64 t5v0) none fun (v4 : Int) =>
bif (ltZ v4 0) then (
rt (
some (.int .i64 (-1)))) else (
ixT q4 1 t1v0 (.int .i64 t5v0) none fun (v7 : Int) =>
bif (ltZ 2 v7) then (
rt (
some (.int .i64 (-1)))) else (
some (.inl ((t0v0, t1v0, (wrapD .i64 (t5v0 + 1)), ()), (())))))) else (
rt (
ixT q4 1 t1v0 (.int .i64 0) none fun (v10 : Int) =>
bd (lenD false t1v0) fun v11 =>
ixT q4 1 t1v0 (.int .i64 (wrapD .i64 ((v11 : Int) - 1))) none fun (v14 : Int) =>
bj (α := (Bool × Int × Unit) × (Unit)) (
bj (α := (Int × Int × Bool × Int × Int × Bool × Unit) × (Unit)) (
bif (eqZ t0v0 1) then (
some (.inl ((v10, v14, true, (1 : Int), t0v0, (eqZ t0v0 1), ()), (())))) else (
bif (eqZ t0v0 2) then (
some (.inl ((v10, v14, true, (1 : Int), t0v0, (eqZ t0v0 2), ()), (())))) else (
some (.inl ((v10, v14, true, (1 : Int), t0v0, (eqZ t0v0 3), ()), (())))))) fun (((t6v16, t7v16, t8v16, t9v16, t37v16, t52v16, _), (_)) : (Int × Int × Bool × Int × Int × Bool × Unit) × (Unit)) =>
bif t52v16 then (
some (.inl ((t8v16, t6v16, ()), (())))) else (
bj (α := (Int × Int × Bool × Int × Int × Bool × Unit) × (Unit)) (
bif (eqZ t37v16 4) then (
some (.inl ((t6v16, t7v16, t8v16, t9v16, t37v16, (eqZ t37v16 4), ()), (())))) else (
some (.inl ((t6v16, t7v16, t8v16, t9v16, t37v16, (eqZ t37v16 5), ()), (()))))) fun (((t6v17, t7v17, t8v17, t9v17, t37v17, t57v17, _), (_)) : (Int × Int × Bool × Int × Int × Bool × Unit) × (Unit)) =>
bif t57v17 then (
some (.inl ((t8v17, t9v17, ()), (())))) else (
bj (α := (Int × Int × Int × Int × Bool × Unit) × (Unit)) (
bif (eqZ t37v17 6) then (
some (.inl ((t6v17, t7v17, t9v17, t37v17, (eqZ t37v17 6), ()), (())))) else (
some (.inl ((t6v17, t7v17, t9v17, t37v17, (eqZ t37v17 13), ()), (()))))) fun (((t6v18, t7v18, t9v18, t37v18, t60v18, _), (_)) : (Int × Int × Int × Int × Bool × Unit) × (Unit)) =>
bif t60v18 then (
some (.inl (((ltZ 0 t6v18), t6v18, ()), (())))) else (
bif (eqZ t37v18 7) then (
some (.inl (((eqZ t6v18 2), (2 : Int), ()), (())))) else (
bif (eqZ t37v18 8) then (
some (.inl (((eqZ t6v18 0), t9v18, ()), (())))) else (
bj (α := (Int × Int × Int × Int × Bool × Unit) × (Unit)) (
bif (eqZ t37v18 9) then (
some (.inl ((t6v18, t7v18, t9v18, t37v18, (eqZ t37v18 9), ()), (())))) else (
bif (eqZ t37v18 10) then (
some (.inl ((t6v18, t7v18, t9v18, t37v18, (eqZ t37v18 10), ()), (())))) else (
bif (eqZ t37v18 11) then (
some (.inl ((t6v18, t7v18, t9v18, t37v18, (eqZ t37v18 11), ()), (())))) else (
some (.inl ((t6v18, t7v18, t9v18, t37v18, (eqZ t37v18 12), ()), (()))))))) fun (((t6v19, t7v19, t9v19, t37v19, t74v19, _), (_)) : (Int × Int × Int × Int × Bool × Unit) × (Unit)) =>
bif t74v19 then (
some (.inl (((ltZ 0 t6v19), (wrapD .i64 (t6v19 - 1)), ()), (())))) else (
bif (eqZ t37v19 14) then (
some (.inl (((eqZ t6v19 1), t9v19, ()), (())))) else (
bj (α := (Int × Int × Int × Int × Bool × Unit) × (Unit)) (
bif (eqZ t37v19 33) then (
some (.inl ((t6v19, t7v19, t9v19, t37v19, (eqZ t37v19 33), ()), (())))) else (
some (.inl ((t6v19, t7v19, t9v19, t37v19, (eqZ t37v19 34), ()), (()))))) fun (((t6v20, t7v20, t9v20, t37v20, t87v20, _), (_)) : (Int × Int × Int × Int × Bool × Unit) × (Unit)) =>
bif t87v20 then (
bif (eqZ t6v20 0) then (
some (.inl (((eqZ t7v20 1), t9v20, ()), (())))) else (
some (.inl ((false, t9v20, ()), (()))))) else (
bif (eqZ t37v20 35) then (
bif (eqZ t6v20 0) then (
some (.inl (((eqZ t7v20 0), t9v20, ()), (())))) else (
some (.inl ((false, t9v20, ()), (()))))) else (
bif (eqZ t37v20 36) then (
bif (eqZ t6v20 1) then (
some (.inl (((eqZ t7v20 1), (2 : Int), ()), (())))) else (
some (.inl ((false, (2 : Int), ()), (()))))) else (
bif (eqZ t37v20 37) then (
bif (eqZ t6v20 t7v20) then (
some (.inl (((ltZ 0 t6v20), t6v20, ()), (())))) else (
some (.inl ((false, t6v20, ()), (()))))) else (
bif (eqZ t37v20 38) then (
bif (eqZ t6v20 1) then (
some (.inl (((ltZ t7v20 2), t7v20, ()), (())))) else (
some (.inl ((false, t7v20, ()), (()))))) else (
bif (eqZ t37v20 39) then (
some (.inl (((eqZ t7v20 1), t6v20, ()), (())))) else (
bif (eqZ t37v20 40) then (
bif (eqZ t6v20 1) then (
some (.inl (((eqZ t7v20 1), t9v20, ()), (())))) else (
some (.inl ((false, t9v20, ()), (()))))) else (
bif (eqZ t6v20 t7v20) then (
some (.inl ((true, (mmZ true t6v20 t7v20), ()), (())))) else (
bif (eqZ t6v20 0) then (
some (.inl ((true, (mmZ true t6v20 t7v20), ()), (())))) else (
some (.inl (((eqZ t7v20 0), (mmZ true t6v20 t7v20), ()), (())))))))))))))))))))) fun (((t8v15, t9v15, _), (_)) : (Bool × Int × Unit) × (Unit)) =>
bif (!t8v15) then (
some (.int .i64 (-1))) else (
some (.int .i64 t9v15))))) ((a0, a1, (0 : Int), ()), (()))
theorem S42_eq (lp : Lp) (cl : CL) (a0 : Int) (a1 : D) : runS lp Tryz.prog TryzG cl 42 [(.int .i64 a0), (.fz a1)] = S42 lp cl a0 a1 := by kernel_rfl
def S42_w (lp : Lp) (cl : CL) (args : List D) : Option D := bd (Sh.gds [(.int .i64), .fz] args) fun v => S42 lp cl v.1 v.2.1
theorem S42_t : TabE TryzE 42 S42_w := tab_of (by kernel_rfl) fun lp cl v => S42_eq lp cl v.1 v.2.1

/- 49 invigilator/prims.find -/
def S49 (lp : Lp) (cl : CL) (a0 : Int) : Option D :=
bif (ltZ a0 1) then (
some (.tup [(.agg [(.str []), .nils, .nils, .nilfn, .nilfn]), (.int .i64 2)])) else (
bif (ltZ 40 a0) then (
some (.tup [(.agg [(.str []), .nils, .nils, .nilfn, .nilfn]), (.int .i64 2)])) else (
clT q19 (cl 73 []) fun (v1 : D) =>
ixT q21 5 v1 (.int .i64 a0) (some 5) fun (v4 : (List UInt8 × D × D × D × D × Unit)) =>
some (.tup [(.agg [(.str v4.1), v4.2.1, v4.2.2.1, v4.2.2.2.1, v4.2.2.2.2.1]), (.int .i64 0)])))
theorem S49_eq (lp : Lp) (cl : CL) (a0 : Int) : runS lp Tryz.prog TryzG cl 49 [(.int .i64 a0)] = S49 lp cl a0 := by kernel_rfl
def S49_w (lp : Lp) (cl : CL) (args : List D) : Option D := bd (Sh.gds [(.int .i64)] args) fun v => S49 lp cl v.1
theorem S49_t : TabE TryzE 49 S49_w := tab_of (by kernel_rfl) fun lp cl v => S49_eq lp cl v.1

/- 56 (invigilator/taint.rules).extended -/
def S56 (lp : Lp) (cl : CL) (a0_0 : D) (a0_1 : D) (a0_2 : Int) (a1_0 : Int) (a1_1 : Int) (a1_2 : Int) (a1_3 : Int) (a1_4 : Int) (a2_0 : Int) (a2_1 : Int) (a2_2 : Int) (a2_3 : Int) (a2_4 : Int) : Option D :=
bif (ltZ a2_1 a1_1) then (
clT q18 (cl 54 [(.agg [a0_0, a0_1, (.int .i64 a0_2)]), (.agg [(.int .i64 a1_0), (.int .i64 a1_1), (.int .i64 a1_2), (.int .i64 a1_3), (.int .i64 a1_4)])]) fun (v1 : (Int × Int × Unit)) =>
some (.agg [(.int .i64 v1.1), (.int .i64 v1.2.1)])) else (
bif (ltZ a1_1 a2_1) then (
clT q18 (cl 54 [(.agg [a0_0, a0_1, (.int .i64 a0_2)]), (.agg [(.int .i64 a2_0), (.int .i64 a2_1), (.int .i64 a2_2), (.int .i64 a2_3), (.int .i64 a2_4)])]) fun (v3 : (Int × Int × Unit)) =>
some (.agg [(.int .i64 v3.1), (.int .i64 v3.2.1)])) else (
clT q18 (cl 54 [(.agg [a0_0, a0_1, (.int .i64 a0_2)]), (.agg [(.int .i64 a1_0), (.int .i64 a1_1), (.int .i64 a1_2), (.int .i64 a1_3), (.int .i64 a1_4)])]) fun (v5 : (Int × Int × Unit)) =>
clT q18 (cl 54 [(.agg [a0_0, a0_1, (.int .i64 a0_2)]), (.agg [(.int .i64 a2_0), (.int .i64 a2_1), (.int .i64 a2_2), (.int .i64 a2_3), (.int .i64 a2_4)])]) fun (v7 : (Int × Int × Unit)) =>
clT q4 (cl 25 [(.agg [a0_0, a0_1, (.int .i64 a0_2)]), (.sl true 2 [(.int .i64 v5.1), (.int .i64 v7.1)])]) fun (v9 : Int) =>
clT q4 (cl 25 [(.agg [a0_0, a0_1, (.int .i64 a0_2)]), (.sl true 2 [(.int .i64 v5.2.1), (.int .i64 v7.2.1)])]) fun (v11 : Int) =>
some (.agg [(.int .i64 v9), (.int .i64 v11)])))
theorem S56_eq (lp : Lp) (cl : CL) (a0_0 : D) (a0_1 : D) (a0_2 : Int) (a1_0 : Int) (a1_1 : Int) (a1_2 : Int) (a1_3 : Int) (a1_4 : Int) (a2_0 : Int) (a2_1 : Int) (a2_2 : Int) (a2_3 : Int) (a2_4 : Int) : runS lp Tryz.prog TryzG cl 56 [(.agg [(.fz a0_0), (.fz a0_1), (.int .i64 a0_2)]), (.agg [(.int .i64 a1_0), (.int .i64 a1_1), (.int .i64 a1_2), (.int .i64 a1_3), (.int .i64 a1_4)]), (.agg [(.int .i64 a2_0), (.int .i64 a2_1), (.int .i64 a2_2), (.int .i64 a2_3), (.int .i64 a2_4)])] = S56 lp cl a0_0 a0_1 a0_2 a1_0 a1_1 a1_2 a1_3 a1_4 a2_0 a2_1 a2_2 a2_3 a2_4 := by kernel_rfl
def S56_w (lp : Lp) (cl : CL) (args : List D) : Option D := bd (Sh.gds [(.agg [.fz, .fz, (.int .i64)]), (.agg [(.int .i64), (.int .i64), (.int .i64), (.int .i64), (.int .i64)]), (.agg [(.int .i64), (.int .i64), (.int .i64), (.int .i64), (.int .i64)])] args) fun v => S56 lp cl v.1.1 v.1.2.1 v.1.2.2.1 v.2.1.1 v.2.1.2.1 v.2.1.2.2.1 v.2.1.2.2.2.1 v.2.1.2.2.2.2.1 v.2.2.1.1 v.2.2.1.2.1 v.2.2.1.2.2.1 v.2.2.1.2.2.2.1 v.2.2.1.2.2.2.2.1
theorem S56_t : TabE TryzE 56 S56_w := tab_of (by kernel_rfl) fun lp cl v => S56_eq lp cl v.1.1 v.1.2.1 v.1.2.2.1 v.2.1.1 v.2.1.2.1 v.2.1.2.2.1 v.2.1.2.2.2.1 v.2.1.2.2.2.2.1 v.2.2.1.1 v.2.2.1.2.1 v.2.2.1.2.2.1 v.2.2.1.2.2.2.1 v.2.2.1.2.2.2.2.1

/- 60 invigilator/invigilatorref03.downs -/
def S60 (lp : Lp) (cl : CL) (a0_0 : D) (a0_1 : D) : Option D :=
bd (lenD false a0_0) fun v0 =>
bd (mkN 1 (v0 : Int) (v0 : Int)) fun v1 =>
lp.run (fun (((_, (t3v2_l, t3v2_c), t4v2, _), (b1003v2, (b0v2_0, b0v2_1, _), _)) : (Unit × (Nat × Nat) × Int × Unit) × (List D × (D × D × Unit) × Unit)) =>
bd (lenD false b0v2_0) fun v3 =>
bif (ltZ t4v2 (v3 : Int)) then (
lp.run (fun (((_, (t3v4_l, t3v4_c), t4v4, t5v4, _), (b1003v4, (b0v4_0, b0v4_1, _), _)) : (Unit × (Nat × Nat) × Int × Int × Unit) × (List D × (D × D × Unit) × Unit)) =>
bd (lenD false b0v4_0) fun v5 =>
bif (ltZ t5v4 (v5 : Int)) then (
clT q0 (cl 37 [(.agg [b0v4_0, b0v4_1]), (.int .i64 t4v4), (.int .i64 t5v4)]) fun (v7 : Bool) =>
bif v7 then (
bd (idxD t3v4_l (.int .i64 t5v4)) fun v8 =>
tkT q13 b1003v4 (0 + v8 * 1) none fun (v10 : Int) =>
bd (shlD .u8 1 t4v4) fun v11 =>
bd (idxD t3v4_l (.int .i64 t5v4)) fun v12 =>
bd (inR (0 + v12 * 1) 1 (List.length b1003v4)) fun _ =>
some (.inl (((), (t3v4_l, t3v4_c), t4v4, (wrapD .i64 (t5v4 + 1)), ()), ((setQ b1003v4 (0 + v12 * 1) [(.int .u8 (orZ .u8 v10 v11))]), (b0v4_0, b0v4_1, ()), ())))) else (
some (.inl (((), (t3v4_l, t3v4_c), t4v4, (wrapD .i64 (t5v4 + 1)), ()), (b1003v4, (b0v4_0, b0v4_1, ()), ()))))) else (
rt (
some (.inl (((), (t3v4_l, t3v4_c), (wrapD .i64 (t4v4 + 1)), ()), (b1003v4, (b0v4_0, b0v4_1, ()), ())))))) (((), (t3v2_l, t3v2_c), t4v2, (0 : Int), ()), (b1003v2, (b0v2_0, b0v2_1, ()), ()))) else (
rt (
bd (frSl (Nat.beq t3v2_c t3v2_l) 0 1 t3v2_l b1003v2) fun v13 =>
some v13))) (((), (v1.1, v1.2), (0 : Int), ()), ((rep v1.2 [(.int .u8 0)]), (a0_0, a0_1, ()), ()))
theorem S60_eq (lp : Lp) (cl : CL) (a0_0 : D) (a0_1 : D) : runS lp Tryz.prog TryzG cl 60 [(.agg [(.fz a0_0), (.fz a0_1)])] = S60 lp cl a0_0 a0_1 := by kernel_rfl
def S60_w (lp : Lp) (cl : CL) (args : List D) : Option D := bd (Sh.gds [(.agg [.fz, .fz])] args) fun v => S60 lp cl v.1.1 v.1.2.1
theorem S60_t : TabE TryzE 60 S60_w := tab_of (by kernel_rfl) fun lp cl v => S60_eq lp cl v.1.1 v.1.2.1

/- 61 invigilator/invigilatorref03.nearest -/
def S61 (lp : Lp) (cl : CL) (a0 : D) (a1 : Int) (a2 : Int) : Option D :=
ixT q13 1 a0 (.int .i64 a1) none fun (v2 : Int) =>
ixT q13 1 a0 (.int .i64 a2) none fun (v5 : Int) =>
lp.run (fun (((t0v6, t7v6, t8v6, _), (_)) : (D × Int × Int × Unit) × (Unit)) =>
bd (lenD false t0v6) fun v7 =>
bif (ltZ t8v6 (v7 : Int)) then (
ixT q13 1 t0v6 (.int .i64 t8v6) none fun (v10 : Int) =>
bif (eqZ v10 t7v6) then (
rt (
some (.int .i64 t8v6))) else (
some (.inl ((t0v6, t7v6, (wrapD .i64 (t8v6 + 1)), ()), (()))))) else (
rt (
some (.int .i64 (-1))))) ((a0, (andZ .u8 v2 v5), (0 : Int), ()), (()))
theorem S61_eq (lp : Lp) (cl : CL) (a0 : D) (a1 : Int) (a2 : Int) : runS lp Tryz.prog TryzG cl 61 [(.fz a0), (.int .i64 a1), (.int .i64 a2)] = S61 lp cl a0 a1 a2 := by kernel_rfl
def S61_w (lp : Lp) (cl : CL) (args : List D) : Option D := bd (Sh.gds [.fz, (.int .i64), (.int .i64)] args) fun v => S61 lp cl v.1 v.2.1 v.2.2.1
theorem S61_t : TabE TryzE 61 S61_w := tab_of (by kernel_rfl) fun lp cl v => S61_eq lp cl v.1 v.2.1 v.2.2.1

/- 65 invigilator/invigilatorref03.join -/
def S65 (lp : Lp) (cl : CL) (a0_0 : D) (a0_1 : D) (a1 : Int) (a2 : Int) : Option D :=
clT q4 (cl 61 [a0_1, (.int .i64 a1), (.int .i64 a2)]) fun (v1 : Int) =>
some (.int .i64 v1)
theorem S65_eq (lp : Lp) (cl : CL) (a0_0 : D) (a0_1 : D) (a1 : Int) (a2 : Int) : runS lp Tryz.prog TryzG cl 65 [(.agg [(.fz a0_0), (.fz a0_1)]), (.int .i64 a1), (.int .i64 a2)] = S65 lp cl a0_0 a0_1 a1 a2 := by kernel_rfl
def S65_w (lp : Lp) (cl : CL) (args : List D) : Option D := bd (Sh.gds [(.agg [.fz, .fz]), (.int .i64), (.int .i64)] args) fun v => S65 lp cl v.1.1 v.1.2.1 v.2.1 v.2.2.1
theorem S65_t : TabE TryzE 65 S65_w := tab_of (by kernel_rfl) fun lp cl v => S65_eq lp cl v.1.1 v.1.2.1 v.2.1 v.2.2.1

/- 70 invigilator/invigilatorref12.ints -/
def S70 (lp : Lp) (cl : CL) (a0 : Int) : Option D :=
bj (α := (Int × Bool × Unit) × (Unit)) (
bif (eqZ a0 4) then (
some (.inl ((a0, (eqZ a0 4), ()), (())))) else (
bif (eqZ a0 5) then (
some (.inl ((a0, (eqZ a0 5), ()), (())))) else (
bif (eqZ a0 6) then (
some (.inl ((a0, (eqZ a0 6), ()), (())))) else (
bif (eqZ a0 7) then (
some (.inl ((a0, (eqZ a0 7), ()), (())))) else (
bif (eqZ a0 12) then (
some (.inl ((a0, (eqZ a0 12), ()), (())))) else (
bif (eqZ a0 23) then (
some (.inl ((a0, (eqZ a0 23), ()), (())))) else (
bif (eqZ a0 24) then (
some (.inl ((a0, (eqZ a0 24), ()), (())))) else (
bif (eqZ a0 37) then (
some (.inl ((a0, (eqZ a0 37), ()), (())))) else (
some (.inl ((a0, (eqZ a0 39), ()), (())))))))))))) fun (((t4v0, t5v0, _), (_)) : (Int × Bool × Unit) × (Unit)) =>
bif t5v0 then (
some (.tup [(.bool false), (.bool false)])) else (
bj (α := (Int × Bool × Unit) × (Unit)) (
bif (eqZ t4v0 33) then (
some (.inl ((t4v0, (eqZ t4v0 33), ()), (())))) else (
bif (eqZ t4v0 34) then (
some (.inl ((t4v0, (eqZ t4v0 34), ()), (())))) else (
bif (eqZ t4v0 35) then (
some (.inl ((t4v0, (eqZ t4v0 35), ()), (())))) else (
bif (eqZ t4v0 36) then (
some (.inl ((t4v0, (eqZ t4v0 36), ()), (())))) else (
some (.inl ((t4v0, (eqZ t4v0 40), ()), (())))))))) fun (((t4v1, t15v1, _), (_)) : (Int × Bool × Unit) × (Unit)) =>
bif t15v1 then (
some (.tup [(.bool true), (.bool false)])) else (
bif (eqZ t4v1 38) then (
some (.tup [(.bool false), (.bool true)])) else (
some (.tup [(.bool true), (.bool true)]))))
theorem S70_eq (lp : Lp) (cl : CL) (a0 : Int) : runS lp Tryz.prog TryzG cl 70 [(.int .i64 a0)] = S70 lp cl a0 := by kernel_rfl
def S70_w (lp : Lp) (cl : CL) (args : List D) : Option D := bd (Sh.gds [(.int .i64)] args) fun v => S70 lp cl v.1
theorem S70_t : TabE TryzE 70 S70_w := tab_of (by kernel_rfl) fun lp cl v => S70_eq lp cl v.1

/- 76 invigilator/invigilatorref01.Name -/
def S76 (lp : Lp) (cl : CL) (a0 : List UInt8) : Option D :=
bj (α := (List UInt8 × Unit) × (Unit)) (
bif (ltZ (List.length a0 : Int) 1) then (
rt (
some (.bool false))) else (
bif (ltZ 16 (List.length a0 : Int)) then (
rt (
some (.bool false))) else (
bd (ixStr a0 (.int .i64 0)) fun v1 =>
clT q0 (cl 106 [(.int .u8 v1)]) fun (v3 : Bool) =>
bif (!v3) then (
rt (
some (.bool false))) else (
some (.inl ((a0, ()), (()))))))) fun (((t0v0, _), (_)) : (List UInt8 × Unit) × (Unit)) =>
lp.run (fun (((t0v4, t3v4, _), (_)) : (List UInt8 × Int × Unit) × (Unit)) =>
bif (ltZ t3v4 (List.length t0v4 : Int)) then (
bd (ixStr t0v4 (.int .i64 t3v4)) fun v5 =>
clT q0 (cl 106 [(.int .u8 v5)]) fun (v7 : Bool) =>
bif (!v7) then (
bd (ixStr t0v4 (.int .i64 t3v4)) fun v8 =>
clT q0 (cl 107 [(.int .u8 v8)]) fun (v10 : Bool) =>
bif (!v10) then (
bd (ixStr t0v4 (.int .i64 t3v4)) fun v11 =>
bif (!(eqZ v11 45)) then (
rt (
some (.bool false))) else (
some (.inl ((t0v4, (wrapD .i64 (t3v4 + 1)), ()), (()))))) else (
some (.inl ((t0v4, (wrapD .i64 (t3v4 + 1)), ()), (()))))) else (
some (.inl ((t0v4, (wrapD .i64 (t3v4 + 1)), ()), (()))))) else (
rt (
some (.bool true)))) ((t0v0, (0 : Int), ()), (()))
theorem S76_eq (lp : Lp) (cl : CL) (a0 : List UInt8) : runS lp Tryz.prog TryzG cl 76 [(.str a0)] = S76 lp cl a0 := by kernel_rfl
def S76_w (lp : Lp) (cl : CL) (args : List D) : Option D := bd (Sh.gds [.str] args) fun v => S76 lp cl v.1
theorem S76_t : TabE TryzE 76 S76_w := tab_of (by kernel_rfl) fun lp cl v => S76_eq lp cl v.1

/- 78 invigilator/invigilatorref21.shape -/
def S78 (lp : Lp) (cl : CL) (a0_0 : D) (a0_1 : D) (a1_0 : Int) (a1_1 : Int) (a1_2 : Int) (a1_3 : Int) (a1_4 : Int) : Option D :=
clT q4 (cl 77 [(.agg [a0_0, a0_1]), (.int .i64 a1_2), (.int .i64 a1_3)]) fun (v1 : Int) =>
some (.int .i64 v1)
theorem S78_eq (lp : Lp) (cl : CL) (a0_0 : D) (a0_1 : D) (a1_0 : Int) (a1_1 : Int) (a1_2 : Int) (a1_3 : Int) (a1_4 : Int) : runS lp Tryz.prog TryzG cl 78 [(.agg [(.fz a0_0), (.fz a0_1)]), (.agg [(.int .i64 a1_0), (.int .i64 a1_1), (.int .i64 a1_2), (.int .i64 a1_3), (.int .i64 a1_4)])] = S78 lp cl a0_0 a0_1 a1_0 a1_1 a1_2 a1_3 a1_4 := by kernel_rfl
def S78_w (lp : Lp) (cl : CL) (args : List D) : Option D := bd (Sh.gds [(.agg [.fz, .fz]), (.agg [(.int .i64), (.int .i64), (.int .i64), (.int .i64), (.int .i64)])] args) fun v => S78 lp cl v.1.1 v.1.2.1 v.2.1.1 v.2.1.2.1 v.2.1.2.2.1 v.2.1.2.2.2.1 v.2.1.2.2.2.2.1
theorem S78_t : TabE TryzE 78 S78_w := tab_of (by kernel_rfl) fun lp cl v => S78_eq lp cl v.1.1 v.1.2.1 v.2.1.1 v.2.1.2.1 v.2.1.2.2.1 v.2.1.2.2.2.1 v.2.1.2.2.2.2.1

/- 82 strings.Trim -/
def S82 (lp : Lp) (cl : CL) (a0 : List UInt8) (a1 : List UInt8) : Option D :=
bj (α := (List UInt8 × List UInt8 × Unit) × (Unit)) (
bif (eqS a0 []) then (
rt (
some (.str a0))) else (
bif (eqS a1 []) then (
rt (
some (.str a0))) else (
some (.inl ((a0, a1, ()), (())))))) fun (((t0v0, t1v0, _), (_)) : (List UInt8 × List UInt8 × Unit) × (Unit)) =>
bj (α := (List UInt8 × List UInt8 × Unit) × (Unit)) (
bj (α := (List UInt8 × List UInt8 × Bool × Unit) × (Unit)) (
bif (eqZ (List.length t1v0 : Int) 1) then (
bd (ixStr t1v0 (.int .i64 0)) fun v3 =>
some (.inl ((t0v0, t1v0, (ltZ v3 128), ()), (())))) else (
some (.inl ((t0v0, t1v0, false, ()), (()))))) fun (((t0v2, t1v2, t21v2, _), (_)) : (List UInt8 × List UInt8 × Bool × Unit) × (Unit)) =>
bif t21v2 then (
bd (ixStr t1v2 (.int .i64 0)) fun v4 =>
clT q12 (cl 110 [(.str t0v2), (.int .u8 v4)]) fun (v6 : List UInt8) =>
bd (ixStr t1v2 (.int .i64 0)) fun v7 =>
clT q12 (cl 109 [(.str v6), (.int .u8 v7)]) fun (v9 : List UInt8) =>
rt (
some (.str v9))) else (
some (.inl ((t0v2, t1v2, ()), (()))))) fun (((t0v1, t1v1, _), (_)) : (List UInt8 × List UInt8 × Unit) × (Unit)) =>
clT q22 (cl 111 [(.str t1v1)]) fun (v11 : (D × Bool × Unit)) =>
bd (cellsF 256 v11.1) fun v12 =>
bd (inR 0 256 256) fun _ =>
bif v11.2.1 then (
clT q12 (cl 113 [(.str t0v1), (.iptr (setQ [(.bool false), (.bool false), (.bool false), (.bool false), (.bool false), (.bool false), (.bool false), (.bool false), (.bool false), (.bool false), (.bool false), (.bool false), (.bool false), (.bool false), (.bool false), (.bool false), (.bool false), (.bool false), (.bool false), (.bool false), (.bool false), (.bool false), (.bool false), (.bool false), (.bool false), (.bool false), (.bool false), (.bool false), (.bool false), (.bool false), (.bool false), (.bool false), (.bool false), (.bool false), (.bool false), (.bool false), (.bool false), (.bool false), (.bool false), (.bool false), (.bool false), (.bool false), (.bool false), (.bool false), (.bool false), (.bool false), (.bool false), (.bool false), (.bool false), (.bool false), (.bool false), (.bool false), (.bool false), (.bool false), (.bool false), (.bool false), (.bool false), (.bool false), (.bool false), (.bool false), (.bool false), (.bool false), (.bool false), (.bool false), (.bool false), (.bool false), (.bool false), (.bool false), (.bool false), (.bool false), (.bool false), (.bool false), (.bool false), (.bool false), (.bool false), (.bool false), (.bool false), (.bool false), (.bool false), (.bool false), (.bool false), (.bool false), (.bool false), (.bool false), (.bool false), (.bool false), (.bool false), (.bool false), (.bool false), (.bool false), (.bool false), (.bool false), (.bool false), (.bool false), (.bool false), (.bool false), (.bool false), (.bool false), (.bool false), (.bool false), (.bool false), (.bool false), (.bool false), (.bool false), (.bool false), (.bool false), (.bool false), (.bool false), (.bool false), (.bool false), (.bool false), (.bool false), (.bool false), (.bool false), (.bool false), (.bool false), (.bool false), (.bool false), (.bool false), (.bool false), (.bool false), (.bool false), (.bool false), (.bool false), (.bool false), (.bool false), (.bool false), (.bool false), (.bool false), (.bool false), (.bool false), (.bool false), (.bool false), (.bool false), (.bool false), (.bool false), (.bool false), (.bool false), (.bool false), (.bool false), (.bool false), (.bool false), (.bool false), (.bool false), (.bool false), (.bool false), (.bool false), (.bool false), (.bool false), (.bool false), (.bool false), (.bool false), (.bool false), (.bool false), (.bool false), (.bool false), (.bool false), (.bool false), (.bool false), (.bool false), (.bool false), (.bool false), (.bool false), (.bool false), (.bool false), (.bool false), (.bool false), (.bool false), (.bool false), (.bool false), (.bool false), (.bool false), (.bool false), (.bool false), (.bool false), (.bool false), (.bool false), (.bool false), (.bool false), (.bool false), (.bool false), (.bool false), (.bool false), (.bool false), (.bool false), (.bool false), (.bool false), (.bool false), (.bool false), (.bool false), (.bool false), (.bool false), (.bool false), (.bool false), (.bool false), (.bool false), (.bool false), (.bool false), (.bool false), (.bool false), (.bool false), (.bool false), (.bool false), (.bool false), (.bool false), (.bool false), (.bool false), (.bool false), (.bool false), (.bool false), (.bool false), (.bool false), (.bool false), (.bool false), (.bool false), (.bool false), (.bool false), (.bool false), (.bool false), (.bool false), (.bool false), (.bool false), (.bool false), (.bool false), (.bool false), (.bool false), (.bool false), (.bool false), (.bool false), (.bool false), (.bool false), (.bool false), (.bool false), (.bool false), (.bool false), (.bool false), (.bool false), (.bool false), (.bool false), (.bool false), (.bool false), (.bool false), (.bool false), (.bool false), (.bool false), (.bool false), (.bool false), (.bool false), (.bool false), (.bool false), (.bool false), (.bool false), (.bool false), (.bool false), (.bool false), (.bool false)] 0 v12) 0)]) fun (v14 : List UInt8) =>
clT q12 (cl 112 [(.str v14), (.iptr (setQ [(.bool false), (.bool false), (.bool false), (.bool false), (.bool false), (.bool false), (.bool false), (.bool false), (.bool false), (.bool false), (.bool false), (.bool false), (.bool false), (.bool false), (.bool false), (.bool false), (.bool false), (.bool false), (.bool false), (.bool false), (.bool false), (.bool false), (.bool false), (.bool false), (.bool false), (.bool false), (.bool false), (.bool false), (.bool false), (.bool false), (.bool false), (.bool false), (.bool false), (.bool false), (.bool false), (.bool false), (.bool false), (.bool false), (.bool false), (.bool false), (.bool false), (.bool false), (.bool false), (.bool false), (.bool false), (.bool false), (.bool false), (.bool false), (.bool false), (.bool false), (.bool false), (.bool false), (.bool false), (.bool false), (.bool false), (.bool false), (.bool false), (.bool false), (.bool false), (.bool false), (.bool false), (.bool false), (.bool false), (.bool false), (.bool false), (.bool false), (.bool false), (.bool false), (.bool false), (.bool false), (.bool false), (.bool false), (.bool false), (.bool false), (.bool false), (.bool false), (.bool false), (.bool false), (.bool false), (.bool false), (.bool false), (.bool false), (.bool false), (.bool false), (.bool false), (.bool false), (.bool false), (.bool false), (.bool false), (.bool false), (.bool false), (.bool false), (.bool false), (.bool false), (.bool false), (.bool false), (.bool false), (.bool false), (.bool false), (.bool false), (.bool false), (.bool false), (.bool false), (.bool false), (.bool false), (.bool false), (.bool false), (.bool false), (.bool false), (.bool false), (.bool false), (.bool false), (.bool false), (.bool false), (.bool false), (.bool false), (.bool false), (.bool false), (.bool false), (.bool false), (.bool false), (.bool false), (.bool false), (.bool false), (.bool false), (.bool false), (.bool false), (.bool false), (.bool false), (.bool false), (.bool false), (.bool false), (.bool false), (.bool false), (.bool false), (.bool false), (.bool false), (.bool false), (.bool false), (.bool false), (.bool false), (.bool false), (.bool false), (.bool false), (.bool false), (.bool false), (.bool false), (.bool false), (.bool false), (.bool false), (.bool false), (.bool false), (.bool false), (.bool false), (.bool false), (.bool false), (.bool false), (.bool false), (.bool false), (.bool false), (.bool false), (.bool false), (.bool false), (.bool false), (.bool false), (.bool false), (.bool false), (.bool false), (.bool false), (.bool false), (.bool false), (.bool false), (.bool false), (.bool false), (.bool false), (.bool false), (.bool false), (.bool false), (.bool false), (.bool false), (.bool false), (.bool false), (.bool false), (.bool false), (.bool false), (.bool false), (.bool false), (.bool false), (.bool false), (.bool false), (.bool false), (.bool false), (.bool false), (.bool false), (.bool false), (.bool false), (.bool false), (.bool false), (.bool false), (.bool false), (.bool false), (.bool false), (.bool false), (.bool false), (.bool false), (.bool false), (.bool false), (.bool false), (.bool false), (.bool false), (.bool false), (.bool false), (.bool false), (.bool false), (.bool false), (.bool false), (.bool false), (.bool false), (.bool false), (.bool false), (.bool false), (.bool false), (.bool false), (.bool false), (.bool false), (.bool false), (.bool false), (.bool false), (.bool false), (.bool false), (.bool false), (.bool false), (.bool false), (.bool false), (.bool false), (.bool false), (.bool false), (.bool false), (.bool false), (.bool false), (.bool false), (.bool false), (.bool false), (.bool false), (.bool false), (.bool false), (.bool false), (.bool false), (.bool false), (.bool false), (.bool false), (.bool false), (.bool false), (.bool false), (.bool false), (.bool false)] 0 v12) 0)]) fun (v16 : List UInt8) =>
some (.str v16)) else (
clT q12 (cl 115 [(.str t0v1), (.str t1v1)]) fun (v18 : List UInt8) =>
clT q12 (cl 114 [(.str v18), (.str t1v1)]) fun (v20 : List UInt8) =>
some (.str v20))
theorem S82_eq (lp : Lp) (cl : CL) (a0 : List UInt8) (a1 : List UInt8) : runS lp Tryz.prog TryzG cl 82 [(.str a0), (.str a1)] = S82 lp cl a0 a1 := by kernel_rfl
def S82_w (lp : Lp) (cl : CL) (args : List D) : Option D := bd (Sh.gds [.str, .str] args) fun v => S82 lp cl v.1 v.2.1
theorem S82_t : TabE TryzE 82 S82_w := tab_of (by kernel_rfl) fun lp cl v => S82_eq lp cl v.1 v.2.1

/- 83 slices.Index[[]string,string] -/
def S83 (lp : Lp) (cl : CL) (a0 : D) (a1 : List UInt8) : Option D :=
bd (lenD false a0) fun v0 =>
lp.run (fun (((t0v1, t1v1, t7v1, t8v1, _), (_)) : (D × List UInt8 × Int × Int × Unit) × (Unit)) =>
bif (ltZ t8v1 t7v1) then (
ixT q12 1 t0v1 (.int .i64 t8v1) none fun (v4 : List UInt8) =>
bif (eqS t1v1 v4) then (
rt (
some (.int .i64 t8v1))) else (
some (.inl ((t0v1, t1v1, t7v1, (wrapD .i64 (t8v1 + 1)), ()), (()))))) else (
rt (
some (.int .i64 (-1))))) ((a0, a1, (v0 : Int), (0 : Int), ()), (()))
theorem S83_eq (lp : Lp) (cl : CL) (a0 : D) (a1 : List UInt8) : runS lp Tryz.prog TryzG cl 83 [(.fz a0), (.str a1)] = S83 lp cl a0 a1 := by kernel_rfl
def S83_w (lp : Lp) (cl : CL) (args : List D) : Option D := bd (Sh.gds [.fz, .str] args) fun v => S83 lp cl v.1 v.2.1
theorem S83_t : TabE TryzE 83 S83_w := tab_of (by kernel_rfl) fun lp cl v => S83_eq lp cl v.1 v.2.1

/- 105 math/bits.OnesCount8 -/
def S105 (lp : Lp) (cl : CL) (a0 : Int) : Option D :=
bd (ixStr [0, 1, 1, 2, 1, 2, 2, 3, 1, 2, 2, 3, 2, 3, 3, 4, 1, 2, 2, 3, 2, 3, 3, 4, 2, 3, 3, 4, 3, 4, 4, 5, 1, 2, 2, 3, 2, 3, 3, 4, 2, 3, 3, 4, 3, 4, 4, 5, 2, 3, 3, 4, 3, 4, 4, 5, 3, 4, 4, 5, 4, 5, 5, 6, 1, 2, 2, 3, 2, 3, 3, 4, 2, 3, 3, 4, 3, 4, 4, 5, 2, 3, 3, 4, 3, 4, 4, 5, 3, 4, 4, 5, 4, 5, 5, 6, 2, 3, 3, 4, 3, 4, 4, 5, 3, 4, 4, 5, 4, 5, 5, 6, 3, 4, 4, 5, 4, 5, 5, 6, 4, 5, 5, 6, 5, 6, 6, 7, 1, 2, 2, 3, 2, 3, 3, 4, 2, 3, 3, 4, 3, 4, 4, 5, 2, 3, 3, 4, 3, 4, 4, 5, 3, 4, 4, 5, 4, 5, 5, 6, 2, 3, 3, 4, 3, 4, 4, 5, 3, 4, 4, 5, 4, 5, 5, 6, 3, 4, 4, 5, 4, 5, 5, 6, 4, 5, 5, 6, 5, 6, 6, 7, 2, 3, 3, 4, 3, 4, 4, 5, 3, 4, 4, 5, 4, 5, 5, 6, 3, 4, 4, 5, 4, 5, 5, 6, 4, 5, 5, 6, 5, 6, 6, 7, 3, 4, 4, 5, 4, 5, 5, 6, 4, 5, 5, 6, 5, 6, 6, 7, 4, 5, 5, 6, 5, 6, 6, 7, 5, 6, 6, 7, 6, 7, 7, 8] (.int .u8 a0)) fun v0 =>
some (.int .i64 (wrapD .i64 v0))
theorem S105_eq (lp : Lp) (cl : CL) (a0 : Int) : runS lp Tryz.prog TryzG cl 105 [(.int .u8 a0)] = S105 lp cl a0 := by kernel_rfl
def S105_w (lp : Lp) (cl : CL) (args : List D) : Option D := bd (Sh.gds [(.int .u8)] args) fun v => S105 lp cl v.1
theorem S105_t : TabE TryzE 105 S105_w := tab_of (by kernel_rfl) fun lp cl v => S105_eq lp cl v.1

/- 106 invigilator/invigilatorref01.lower -/
def S106 (lp : Lp) (cl : CL) (a0 : Int) : Option D :=
bif (leZ 97 a0) then (
some (.bool (leZ a0 122))) else (
some (.bool false))
theorem S106_eq (lp : Lp) (cl : CL) (a0 : Int) : runS lp Tryz.prog TryzG cl 106 [(.int .u8 a0)] = S106 lp cl a0 := by kernel_rfl
def S106_w (lp : Lp) (cl : CL) (args : List D) : Option D := bd (Sh.gds [(.int .u8)] args) fun v => S106 lp cl v.1
theorem S106_t : TabE TryzE 106 S106_w := tab_of (by kernel_rfl) fun lp cl v => S106_eq lp cl v.1

/- 109 strings.trimLeftByte -/
def S109 (lp : Lp) (cl : CL) (a0 : List UInt8) (a1 : Int) : Option D :=
lp.run (fun (((t0v0, t1v0, _), (_)) : (List UInt8 × Int × Unit) × (Unit)) =>
bif (ltZ 0 (List.length t0v0 : Int)) then (
bd (ixStr t0v0 (.int .i64 0)) fun v1 =>
bif (eqZ v1 t1v0) then (
bd (slStr t0v0 (some (.int .i64 1)) none) fun v2 =>
some (.inl ((v2, t1v0, ()), (())))) else (
rt (
some (.str t0v0)))) else (
rt (
some (.str t0v0)))) ((a0, a1, ()), (()))
theorem S109_eq (lp : Lp) (cl : CL) (a0 : List UInt8) (a1 : Int) : runS lp Tryz.prog TryzG cl 109 [(.str a0), (.int .u8 a1)] = S109 lp cl a0 a1 := by kernel_rfl
def S109_w (lp : Lp) (cl : CL) (args : List D) : Option D := bd (Sh.gds [.str, (.int .u8)] args) fun v => S109 lp cl v.1 v.2.1
theorem S109_t : TabE TryzE 109 S109_w := tab_of (by kernel_rfl) fun lp cl v => S109_eq lp cl v.1 v.2.1

/- 110 strings.trimRightByte -/
def S110 (lp : Lp) (cl : CL) (a0 : List UInt8) (a1 : Int) : Option D :=
lp.run (fun (((t0v0, t1v0, _), (_)) : (List UInt8 × Int × Unit) × (Unit)) =>
bif (ltZ 0 (List.length t0v0 : Int)) then (
bd (ixStr t0v0 (.int .i64 (wrapD .i64 ((List.length t0v0 : Int) - 1)))) fun v1 =>
bif (eqZ v1 t1v0) then (
bd (slStr t0v0 none (some (.int .i64 (wrapD .i64 ((List.length t0v0 : Int) - 1))))) fun v2 =>
some (.inl ((v2, t1v0, ()), (())))) else (
rt (
some (.str t0v0)))) else (
rt (
some (.str t0v0)))) ((a0, a1, ()), (()))
theorem S110_eq (lp : Lp) (cl : CL) (a0 : List UInt8) (a1 : Int) : runS lp Tryz.prog TryzG cl 110 [(.str a0), (.int .u8 a1)] = S110 lp cl a0 a1 := by kernel_rfl
def S110_w (lp : Lp) (cl : CL) (args : List D) : Option D := bd (Sh.gds [.str, (.int .u8)] args) fun v => S110 lp cl v.1 v.2.1
theorem S110_t : TabE TryzE 110 S110_w := tab_of (by kernel_rfl) fun lp cl v => S110_eq lp cl v.1 v.2.1

/- 142 (*strings.asciiSet).contains -/
def S142 (lp : Lp) (cl : CL) (a0 : D) (a1 : Int) : Option D :=
bd (ptF a0) fun v0 =>
bd (idxD 256 (.int .u8 a1)) fun v1 =>
tkT q0 v0.1 (v0.2 + v1 * 1) none fun (v3 : Bool) =>
some (.bool v3)
theorem S142_eq (lp : Lp) (cl : CL) (a0 : D) (a1 : Int) : runS lp Tryz.prog TryzG cl 142 [(.fz a0), (.int .u8 a1)] = S142 lp cl a0 a1 := by kernel_rfl
def S142_w (lp : Lp) (cl : CL) (args : List D) : Option D := bd (Sh.gds [.fz, (.int .u8)] args) fun v => S142 lp cl v.1 v.2.1
theorem S142_t : TabE TryzE 142 S142_w := tab_of (by kernel_rfl) fun lp cl v => S142_eq lp cl v.1 v.2.1

/- 158 unicode/utf8.RuneStart -/
def S158 (lp : Lp) (cl : CL) (a0 : Int) : Option D :=
some (.bool (!(eqZ (andZ .u8 a0 192) 128)))
theorem S158_eq (lp : Lp) (cl : CL) (a0 : Int) : runS lp Tryz.prog TryzG cl 158 [(.int .u8 a0)] = S158 lp cl a0 := by kernel_rfl
def S158_w (lp : Lp) (cl : CL) (args : List D) : Option D := bd (Sh.gds [(.int .u8)] args) fun v => S158 lp cl v.1
theorem S158_t : TabE TryzE 158 S158_w := tab_of (by kernel_rfl) fun lp cl v => S158_eq lp cl v.1

end Go.Proofs.YtblbgjfkbcdlfaaGreatDoor
