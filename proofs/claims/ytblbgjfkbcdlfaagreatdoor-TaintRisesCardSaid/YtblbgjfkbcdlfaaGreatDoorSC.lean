/- What the functions come to. -/
import Derived.Test.YtblbgjfkbcdlfaaGreatDoorSH
set_option linter.unusedVariables false
set_option maxRecDepth 100000
namespace Go.Proofs.YtblbgjfkbcdlfaaGreatDoor
open Go Iv
/- 7 invigilator/invigilatorlaw27.awake -/
def S7 (lp : Lp) (cl : CL)  : Option D :=
clT q2 (cl 17 [(.int .i64 1), (.int .i64 0), (.int .i64 1)]) fun (v1 : (Int × Int × Int × Int × Int × Unit)) =>
clT q2 (cl 17 [(.int .i64 0), (.int .i64 0), (.int .i64 0)]) fun (v3 : (Int × Int × Int × Int × Int × Unit)) =>
clT q6 (cl 18 []) fun (v5 : (D × D × Unit)) =>
clT q1 (cl 8 [(.agg [v5.1, v5.2.1]), (.int .i64 15), (.sl true 2 [(.int .i64 v1.1), (.int .i64 v1.2.1), (.int .i64 v1.2.2.1), (.int .i64 v1.2.2.2.1), (.int .i64 v1.2.2.2.2.1), (.int .i64 v3.1), (.int .i64 v3.2.1), (.int .i64 v3.2.2.1), (.int .i64 v3.2.2.2.1), (.int .i64 v3.2.2.2.2.1)])]) fun (v7 : ((Int × Int × Int × Int × Int × Int × Int × Unit) × Int × Unit)) =>
clT q6 (cl 18 []) fun (v9 : (D × D × Unit)) =>
clT q1 (cl 8 [(.agg [v9.1, v9.2.1]), (.int .i64 27), (.sl true 2 [(.int .i64 v1.1), (.int .i64 v1.2.1), (.int .i64 v1.2.2.1), (.int .i64 v1.2.2.2.1), (.int .i64 v1.2.2.2.2.1), (.int .i64 v3.1), (.int .i64 v3.2.1), (.int .i64 v3.2.2.1), (.int .i64 v3.2.2.2.1), (.int .i64 v3.2.2.2.2.1)])]) fun (v11 : ((Int × Int × Int × Int × Int × Int × Int × Unit) × Int × Unit)) =>
clT q6 (cl 18 []) fun (v13 : (D × D × Unit)) =>
clT q1 (cl 8 [(.agg [v13.1, v13.2.1]), (.int .i64 40), (.sl true 2 [(.int .i64 v1.1), (.int .i64 v1.2.1), (.int .i64 v1.2.2.1), (.int .i64 v1.2.2.2.1), (.int .i64 v1.2.2.2.2.1), (.int .i64 v1.1), (.int .i64 v1.2.1), (.int .i64 v1.2.2.1), (.int .i64 v1.2.2.2.1), (.int .i64 v1.2.2.2.2.1)])]) fun (v15 : ((Int × Int × Int × Int × Int × Int × Int × Unit) × Int × Unit)) =>
clT q6 (cl 18 []) fun (v17 : (D × D × Unit)) =>
clT q1 (cl 8 [(.agg [v17.1, v17.2.1]), (.int .i64 12), (.sl true 1 [(.int .i64 v1.1), (.int .i64 v1.2.1), (.int .i64 v1.2.2.1), (.int .i64 v1.2.2.2.1), (.int .i64 v1.2.2.2.2.1)])]) fun (v19 : ((Int × Int × Int × Int × Int × Int × Int × Unit) × Int × Unit)) =>
clT q6 (cl 18 []) fun (v21 : (D × D × Unit)) =>
clT q2 (cl 17 [(.int .i64 0), (.int .i64 0), (.int .i64 1)]) fun (v23 : (Int × Int × Int × Int × Int × Unit)) =>
clT q1 (cl 8 [(.agg [v21.1, v21.2.1]), (.int .i64 8), (.sl true 1 [(.int .i64 v23.1), (.int .i64 v23.2.1), (.int .i64 v23.2.2.1), (.int .i64 v23.2.2.2.1), (.int .i64 v23.2.2.2.2.1)])]) fun (v25 : ((Int × Int × Int × Int × Int × Int × Int × Unit) × Int × Unit)) =>
bif (((eqZ v7.1.1 v1.1) && ((eqZ v7.1.2.1 v1.2.1) && (((eqZ v7.1.2.2.1 v1.2.2.1) && ((eqZ v7.1.2.2.2.1 v1.2.2.2.1) && true)) && ((eqZ v7.1.2.2.2.2.1 v1.2.2.2.2.1) && true)))) && ((eqZ v7.1.2.2.2.2.2.1 1) && ((eqZ v7.1.2.2.2.2.2.2.1 0) && true))) then (
bif (eqZ v7.2.1 0) then (
bif (((eqZ v11.1.1 v1.1) && ((eqZ v11.1.2.1 v1.2.1) && (((eqZ v11.1.2.2.1 v1.2.2.1) && ((eqZ v11.1.2.2.2.1 v1.2.2.2.1) && true)) && ((eqZ v11.1.2.2.2.2.1 v1.2.2.2.2.1) && true)))) && ((eqZ v11.1.2.2.2.2.2.1 0) && ((eqZ v11.1.2.2.2.2.2.2.1 0) && true))) then (
bif (eqZ v11.2.1 0) then (
clT q2 (cl 17 [(.int .i64 1), (.int .i64 1), (.int .i64 1)]) fun (v27 : (Int × Int × Int × Int × Int × Unit)) =>
bif (((eqZ v15.1.1 v27.1) && ((eqZ v15.1.2.1 v27.2.1) && (((eqZ v15.1.2.2.1 v27.2.2.1) && ((eqZ v15.1.2.2.2.1 v27.2.2.2.1) && true)) && ((eqZ v15.1.2.2.2.2.1 v27.2.2.2.2.1) && true)))) && ((eqZ v15.1.2.2.2.2.2.1 0) && ((eqZ v15.1.2.2.2.2.2.2.1 0) && true))) then (
bif (eqZ v15.2.1 0) then (
bif (((eqZ v19.1.1 v3.1) && ((eqZ v19.1.2.1 v3.2.1) && (((eqZ v19.1.2.2.1 v3.2.2.1) && ((eqZ v19.1.2.2.2.1 v3.2.2.2.1) && true)) && ((eqZ v19.1.2.2.2.2.1 v3.2.2.2.2.1) && true)))) && ((eqZ v19.1.2.2.2.2.2.1 0) && ((eqZ v19.1.2.2.2.2.2.2.1 0) && true))) then (
bif (eqZ v19.2.1 0) then (
clT q2 (cl 17 [(.int .i64 1), (.int .i64 1), (.int .i64 1)]) fun (v29 : (Int × Int × Int × Int × Int × Unit)) =>
bif (((eqZ v25.1.1 v29.1) && ((eqZ v25.1.2.1 v29.2.1) && (((eqZ v25.1.2.2.1 v29.2.2.1) && ((eqZ v25.1.2.2.2.1 v29.2.2.2.1) && true)) && ((eqZ v25.1.2.2.2.2.1 v29.2.2.2.2.1) && true)))) && ((eqZ v25.1.2.2.2.2.2.1 1) && ((eqZ v25.1.2.2.2.2.2.2.1 1) && true))) then (
some (.bool (eqZ v25.2.1 0))) else (
some (.bool false))) else (
some (.bool false))) else (
some (.bool false))) else (
some (.bool false))) else (
some (.bool false))) else (
some (.bool false))) else (
some (.bool false))) else (
some (.bool false))) else (
some (.bool false))
theorem S7_eq (lp : Lp) (cl : CL)  : runS lp Tryz.prog TryzG cl 7 [] = S7 lp cl  := by kernel_rfl
def S7_w (lp : Lp) (cl : CL) (args : List D) : Option D := bd (Sh.gds [] args) fun v => S7 lp cl 
theorem S7_t : TabE TryzE 7 S7_w := tab_of (by kernel_rfl) fun lp cl v => S7_eq lp cl 

/- 11 invigilator/invigilatorlaw27.within -/
def S11 (lp : Lp) (cl : CL) (a0_0 : D) (a0_1 : D) (a1_0 : Int) (a1_1 : Int) (a1_2 : Int) (a1_3 : Int) (a1_4 : Int) (a2_0 : Int) (a2_1 : Int) (a2_2 : Int) (a2_3 : Int) (a2_4 : Int) : Option D :=
lp.run (fun (((_, _, _, t7v0, _), ((b2v0_0, b2v0_1, b2v0_2, b2v0_3, b2v0_4, _), (b1v0_0, b1v0_1, b1v0_2, b1v0_3, b1v0_4, _), (b0v0_0, b0v0_1, _), _)) : (Unit × Unit × Unit × Int × Unit) × ((Int × Int × Int × Int × Int × Unit) × (Int × Int × Int × Int × Int × Unit) × (D × D × Unit) × Unit)) =>
bif (ltZ t7v0 b1v0_1) then (
bd (idxD 2 (.int .i64 t7v0)) fun v1 =>
tkT q4 [(.int .i64 b1v0_0), (.int .i64 b1v0_1), (.int .i64 b1v0_2), (.int .i64 b1v0_3), (.int .i64 b1v0_4)] (2 + v1 * 1) none fun (v3 : Int) =>
bd (idxD 2 (.int .i64 t7v0)) fun v4 =>
tkT q4 [(.int .i64 b2v0_0), (.int .i64 b2v0_1), (.int .i64 b2v0_2), (.int .i64 b2v0_3), (.int .i64 b2v0_4)] (2 + v4 * 1) none fun (v6 : Int) =>
clT q0 (cl 12 [(.agg [b0v0_0, b0v0_1]), (.int .i64 v3), (.int .i64 v6)]) fun (v8 : Bool) =>
bif (!v8) then (
rt (
some (.bool false))) else (
some (.inl (((), (), (), (wrapD .i64 (t7v0 + 1)), ()), ((b2v0_0, b2v0_1, b2v0_2, b2v0_3, b2v0_4, ()), (b1v0_0, b1v0_1, b1v0_2, b1v0_3, b1v0_4, ()), (b0v0_0, b0v0_1, ()), ()))))) else (
rt (
clT q0 (cl 12 [(.agg [b0v0_0, b0v0_1]), (.int .i64 b1v0_4), (.int .i64 b2v0_4)]) fun (v10 : Bool) =>
some (.bool v10)))) (((), (), (), (0 : Int), ()), ((a2_0, a2_1, a2_2, a2_3, a2_4, ()), (a1_0, a1_1, a1_2, a1_3, a1_4, ()), (a0_0, a0_1, ()), ()))
theorem S11_eq (lp : Lp) (cl : CL) (a0_0 : D) (a0_1 : D) (a1_0 : Int) (a1_1 : Int) (a1_2 : Int) (a1_3 : Int) (a1_4 : Int) (a2_0 : Int) (a2_1 : Int) (a2_2 : Int) (a2_3 : Int) (a2_4 : Int) : runS lp Tryz.prog TryzG cl 11 [(.agg [(.fz a0_0), (.fz a0_1)]), (.agg [(.int .i64 a1_0), (.int .i64 a1_1), (.int .i64 a1_2), (.int .i64 a1_3), (.int .i64 a1_4)]), (.agg [(.int .i64 a2_0), (.int .i64 a2_1), (.int .i64 a2_2), (.int .i64 a2_3), (.int .i64 a2_4)])] = S11 lp cl a0_0 a0_1 a1_0 a1_1 a1_2 a1_3 a1_4 a2_0 a2_1 a2_2 a2_3 a2_4 := by kernel_rfl
def S11_w (lp : Lp) (cl : CL) (args : List D) : Option D := bd (Sh.gds [(.agg [.fz, .fz]), (.agg [(.int .i64), (.int .i64), (.int .i64), (.int .i64), (.int .i64)]), (.agg [(.int .i64), (.int .i64), (.int .i64), (.int .i64), (.int .i64)])] args) fun v => S11 lp cl v.1.1 v.1.2.1 v.2.1.1 v.2.1.2.1 v.2.1.2.2.1 v.2.1.2.2.2.1 v.2.1.2.2.2.2.1 v.2.2.1.1 v.2.2.1.2.1 v.2.2.1.2.2.1 v.2.2.1.2.2.2.1 v.2.2.1.2.2.2.2.1
theorem S11_t : TabE TryzE 11 S11_w := tab_of (by kernel_rfl) fun lp cl v => S11_eq lp cl v.1.1 v.1.2.1 v.2.1.1 v.2.1.2.1 v.2.1.2.2.1 v.2.1.2.2.2.1 v.2.1.2.2.2.2.1 v.2.2.1.1 v.2.2.1.2.1 v.2.2.1.2.2.1 v.2.2.1.2.2.2.1 v.2.2.1.2.2.2.2.1

/- 18 invigilator/invigilatorlaw27.two -/
def S18 (lp : Lp) (cl : CL)  : Option D :=
some (.agg [(.sl true 2 [(.str [108, 111, 119]), (.str [104, 105, 103, 104])]), (.sl true 2 [(.int .u8 3), (.int .u8 2)])])
theorem S18_eq (lp : Lp) (cl : CL)  : runS lp Tryz.prog TryzG cl 18 [] = S18 lp cl  := by kernel_rfl
def S18_w (lp : Lp) (cl : CL) (args : List D) : Option D := bd (Sh.gds [] args) fun v => S18 lp cl 
theorem S18_t : TabE TryzE 18 S18_w := tab_of (by kernel_rfl) fun lp cl v => S18_eq lp cl 

/- 19 invigilator/lattice.Check -/
def S19 (lp : Lp) (cl : CL) (a0_0 : D) (a0_1 : D) : Option D :=
clT q7 (cl 44 [a0_0]) fun (v1 : (Int × Int × Unit)) =>
bif (!(eqZ v1.2.1 0)) then (
some (.tup [(.int .i64 v1.1), (.int .i64 v1.2.1)])) else (
bd (lenD false a0_0) fun v2 =>
bd (lenD false a0_1) fun v3 =>
bif (!(eqZ (v3 : Int) (v2 : Int))) then (
some (.tup [(.int .i64 (-1)), (.int .i64 6)])) else (
bd (shlD .u8 1 (v2 : Int)) fun v4 =>
bd (lenD false a0_1) fun v5 =>
lp.run (fun (((_, t6v6, t7v6, t37v6, t38v6, t39v6, _), ((b0v6_0, b0v6_1, _), _)) : (Unit × Int × Int × D × Int × Int × Unit) × ((D × D × Unit) × Unit)) =>
bif (ltZ t39v6 t38v6) then (
ixT q13 1 t37v6 (.int .i64 t39v6) none fun (v9 : Int) =>
bj (α := (Unit × Int × Int × Int × Int × D × Int × Int × Unit) × ((D × D × Unit) × Unit)) (
clT q4 (cl 45 [(.int .u8 v9)]) fun (v12 : Int) =>
bif (ltZ t6v6 v12) then (
rt (
rt (
some (.tup [(.int .i64 t39v6), (.int .i64 6)])))) else (
bd (shrD .u8 v9 t39v6) fun v13 =>
bif (eqZ (andZ .u8 v13 1) 0) then (
rt (
rt (
some (.tup [(.int .i64 t39v6), (.int .i64 6)])))) else (
some (.inl (((), t6v6, t7v6, t39v6, v9, t37v6, t38v6, t39v6, ()), ((b0v6_0, b0v6_1, ()), ())))))) fun (((_, t6v10, t7v10, t8v10, t9v10, t37v10, t38v10, t39v10, _), ((b0v10_0, b0v10_1, _), _)) : (Unit × Int × Int × Int × Int × D × Int × Int × Unit) × ((D × D × Unit) × Unit)) =>
bd (lenD false b0v10_1) fun v14 =>
lp.run (fun (((_, t6v15, t7v15, t8v15, t9v15, t37v15, t38v15, t39v15, t57v15, t58v15, t59v15, _), ((b0v15_0, b0v15_1, _), _)) : (Unit × Int × Int × Int × Int × D × Int × Int × D × Int × Int × Unit) × ((D × D × Unit) × Unit)) =>
bif (ltZ t59v15 t58v15) then (
ixT q13 1 t57v15 (.int .i64 t59v15) none fun (v18 : Int) =>
bd (shrD .u8 t9v15 t59v15) fun v19 =>
bif (eqZ (andZ .u8 v19 1) 0) then (
bif (eqZ t59v15 (wrapD .i64 (t6v15 - 1))) then (
rt (
some (.inl (((), t6v15, t7v15, t37v15, t38v15, (wrapD .i64 (t39v15 + 1)), ()), ((b0v15_0, b0v15_1, ()), ()))))) else (
some (.inl (((), t6v15, t7v15, t8v15, t9v15, t37v15, t38v15, t39v15, t57v15, t58v15, (wrapD .i64 (t59v15 + 1)), ()), ((b0v15_0, b0v15_1, ()), ()))))) else (
bj (α := (Unit × Int × Int × Int × Int × Int × Int × D × Int × Int × D × Int × Int × Bool × Unit) × ((D × D × Unit) × Unit)) (
bif (!(eqZ t59v15 t8v15)) then (
bd (shrD .u8 v18 t8v15) fun v21 =>
some (.inl (((), t6v15, t7v15, t8v15, t9v15, t59v15, v18, t37v15, t38v15, t39v15, t57v15, t58v15, t59v15, (eqZ (andZ .u8 v21 1) 1), ()), ((b0v15_0, b0v15_1, ()), ())))) else (
some (.inl (((), t6v15, t7v15, t8v15, t9v15, t59v15, v18, t37v15, t38v15, t39v15, t57v15, t58v15, t59v15, false, ()), ((b0v15_0, b0v15_1, ()), ()))))) fun (((_, t6v20, t7v20, t8v20, t9v20, t10v20, t11v20, t37v20, t38v20, t39v20, t57v20, t58v20, t59v20, t70v20, _), ((b0v20_0, b0v20_1, _), _)) : (Unit × Int × Int × Int × Int × Int × Int × D × Int × Int × D × Int × Int × Bool × Unit) × ((D × D × Unit) × Unit)) =>
bif t70v20 then (
bif t70v20 then (
rt (
rt (
some (.tup [(.int .i64 t8v20), (.int .i64 6)])))) else (
bif (eqZ t10v20 (wrapD .i64 (t6v20 - 1))) then (
rt (
some (.inl (((), t6v20, t7v20, t37v20, t38v20, (wrapD .i64 (t39v20 + 1)), ()), ((b0v20_0, b0v20_1, ()), ()))))) else (
some (.inl (((), t6v20, t7v20, t8v20, t9v20, t37v20, t38v20, t39v20, t57v20, t58v20, (wrapD .i64 (t59v20 + 1)), ()), ((b0v20_0, b0v20_1, ()), ())))))) else (
bif (!(eqZ (andNotZ .u8 (andZ .u8 t11v20 t7v20) t9v20) 0)) then (
rt (
rt (
some (.tup [(.int .i64 t8v20), (.int .i64 6)])))) else (
bif (eqZ t10v20 (wrapD .i64 (t6v20 - 1))) then (
rt (
some (.inl (((), t6v20, t7v20, t37v20, t38v20, (wrapD .i64 (t39v20 + 1)), ()), ((b0v20_0, b0v20_1, ()), ()))))) else (
some (.inl (((), t6v20, t7v20, t8v20, t9v20, t37v20, t38v20, t39v20, t57v20, t58v20, (wrapD .i64 (t59v20 + 1)), ()), ((b0v20_0, b0v20_1, ()), ())))))))) else (
rt (
some (.inl (((), t6v15, t7v15, t37v15, t38v15, (wrapD .i64 (t39v15 + 1)), ()), ((b0v15_0, b0v15_1, ()), ())))))) (((), t6v10, t7v10, t8v10, t9v10, t37v10, t38v10, t39v10, b0v10_1, (v14 : Int), (0 : Int), ()), ((b0v10_0, b0v10_1, ()), ()))) else (
rt (
clT q14 (cl 46 [(.iptr [b0v6_0, b0v6_1] 0)]) fun (v23 : (Int × Int × Int × Int × Int × Int × Int × Int × Int × Int × Int × Int × Int × Int × Int × Int × Int × Unit)) =>
lp.run (fun (((t6v24, _, t95v24, t96v24, _), (b23001v24, _)) : (Int × Unit × Int × Int × Unit) × (List D × Unit)) =>
bif (ltZ t96v24 t95v24) then (
lp.run (fun (((t6v25, _, t13v25, t95v25, t96v25, t99v25, t100v25, _), (b23001v25, _)) : (Int × Unit × Int × Int × Int × Int × Int × Unit) × (List D × Unit)) =>
bif (ltZ t100v25 t99v25) then (
tkT q15 b23001v25 1 (some 8) fun (v27 : (Int × Int × Int × Int × Int × Int × Int × Int × Unit)) =>
clT q4 (cl 47 [(.agg [(.int .u8 v27.1), (.int .u8 v27.2.1), (.int .u8 v27.2.2.1), (.int .u8 v27.2.2.2.1), (.int .u8 v27.2.2.2.2.1), (.int .u8 v27.2.2.2.2.2.1), (.int .u8 v27.2.2.2.2.2.2.1), (.int .u8 v27.2.2.2.2.2.2.2.1)]), (.int .i64 t6v25), (.int .i64 t13v25), (.int .i64 t100v25)]) fun (v29 : Int) =>
bif (ltZ v29 0) then (
rt (
rt (
some (.tup [(.int .i64 t13v25), (.int .i64 4)])))) else (
tkT q15 b23001v25 9 (some 8) fun (v31 : (Int × Int × Int × Int × Int × Int × Int × Int × Unit)) =>
clT q4 (cl 48 [(.agg [(.int .u8 v31.1), (.int .u8 v31.2.1), (.int .u8 v31.2.2.1), (.int .u8 v31.2.2.2.1), (.int .u8 v31.2.2.2.2.1), (.int .u8 v31.2.2.2.2.2.1), (.int .u8 v31.2.2.2.2.2.2.1), (.int .u8 v31.2.2.2.2.2.2.2.1)]), (.int .i64 t6v25), (.int .i64 t13v25), (.int .i64 t100v25)]) fun (v33 : Int) =>
bif (ltZ v33 0) then (
rt (
rt (
some (.tup [(.int .i64 t13v25), (.int .i64 4)])))) else (
some (.inl ((t6v25, (), t13v25, t95v25, t96v25, t99v25, (wrapD .i64 (t100v25 + 1)), ()), (b23001v25, ())))))) else (
rt (
some (.inl ((t6v25, (), t95v25, (wrapD .i64 (t96v25 + 1)), ()), (b23001v25, ())))))) ((t6v24, (), t96v24, t95v24, t96v24, t6v24, (0 : Int), ()), (b23001v24, ()))) else (
rt (
some (.tup [(.int .i64 0), (.int .i64 0)])))) ((t6v6, (), t6v6, (0 : Int), ()), ([(.int .i64 v23.1), (.int .u8 v23.2.1), (.int .u8 v23.2.2.1), (.int .u8 v23.2.2.2.1), (.int .u8 v23.2.2.2.2.1), (.int .u8 v23.2.2.2.2.2.1), (.int .u8 v23.2.2.2.2.2.2.1), (.int .u8 v23.2.2.2.2.2.2.2.1), (.int .u8 v23.2.2.2.2.2.2.2.2.1), (.int .u8 v23.2.2.2.2.2.2.2.2.2.1), (.int .u8 v23.2.2.2.2.2.2.2.2.2.2.1), (.int .u8 v23.2.2.2.2.2.2.2.2.2.2.2.1), (.int .u8 v23.2.2.2.2.2.2.2.2.2.2.2.2.1), (.int .u8 v23.2.2.2.2.2.2.2.2.2.2.2.2.2.1), (.int .u8 v23.2.2.2.2.2.2.2.2.2.2.2.2.2.2.1), (.int .u8 v23.2.2.2.2.2.2.2.2.2.2.2.2.2.2.2.1), (.int .u8 v23.2.2.2.2.2.2.2.2.2.2.2.2.2.2.2.2.1)], ()))))) (((), (v2 : Int), (wrapD .u8 (v4 - 1)), a0_1, (v5 : Int), (0 : Int), ()), ((a0_0, a0_1, ()), ()))))
theorem S19_eq (lp : Lp) (cl : CL) (a0_0 : D) (a0_1 : D) : runS lp Tryz.prog TryzG cl 19 [(.agg [(.fz a0_0), (.fz a0_1)])] = S19 lp cl a0_0 a0_1 := by kernel_rfl
def S19_w (lp : Lp) (cl : CL) (args : List D) : Option D := bd (Sh.gds [(.agg [.fz, .fz])] args) fun v => S19 lp cl v.1.1 v.1.2.1
theorem S19_t : TabE TryzE 19 S19_w := tab_of (by kernel_rfl) fun lp cl v => S19_eq lp cl v.1.1 v.1.2.1

/- 23 (invigilator/taint.rules).one -/
def S23 (lp : Lp) (cl : CL) (a0_0 : D) (a0_1 : D) (a0_2 : Int) (a1 : Int) (a2_0 : Int) (a2_1 : Int) (a2_2 : Int) (a2_3 : Int) (a2_4 : Int) : Option D :=
clT q4 (cl 26 [(.agg [a0_0, a0_1, (.int .i64 a0_2)]), (.agg [(.int .i64 a2_0), (.int .i64 a2_1), (.int .i64 a2_2), (.int .i64 a2_3), (.int .i64 a2_4)])]) fun (v1 : Int) =>
clT q4 (cl 25 [(.agg [a0_0, a0_1, (.int .i64 a0_2)]), (.sl true 2 [(.int .i64 v1), (.int .i64 a2_4)])]) fun (v3 : Int) =>
clT q18 (cl 54 [(.agg [a0_0, a0_1, (.int .i64 a0_2)]), (.agg [(.int .i64 a2_0), (.int .i64 a2_1), (.int .i64 a2_2), (.int .i64 a2_3), (.int .i64 a2_4)])]) fun (v5 : (Int × Int × Unit)) =>
bj (α := (Int × Unit × Unit × Unit × Int × Int × Int × Int × Unit) × ((Int × Int × Unit) × (Int × Int × Unit) × (Int × Int × Int × Int × Int × Unit) × (D × D × Int × Unit) × Unit)) (
bj (α := (Int × Unit × Unit × Unit × Int × Int × Int × Int × Bool × Unit) × ((Int × Int × Unit) × (Int × Int × Unit) × (Int × Int × Int × Int × Int × Unit) × (D × D × Int × Unit) × Unit)) (
bif (leZ 9 a1) then (
some (.inl ((a1, (), (), (), a2_4, a0_2, v1, v3, (leZ a1 12), ()), ((v1, a2_4, ()), (v5.1, v5.2.1, ()), (a2_0, a2_1, a2_2, a2_3, a2_4, ()), (a0_0, a0_1, a0_2, ()), ())))) else (
some (.inl ((a1, (), (), (), a2_4, a0_2, v1, v3, false, ()), ((v1, a2_4, ()), (v5.1, v5.2.1, ()), (a2_0, a2_1, a2_2, a2_3, a2_4, ()), (a0_0, a0_1, a0_2, ()), ()))))) fun (((t1v7, _, _, _, t7v7, t8v7, t9v7, t10v7, t32v7, _), ((b2004v7_0, b2004v7_1, _), (b2v7_0, b2v7_1, _), (b1v7_0, b1v7_1, b1v7_2, b1v7_3, b1v7_4, _), (b0v7_0, b0v7_1, b0v7_2, _), _)) : (Int × Unit × Unit × Unit × Int × Int × Int × Int × Bool × Unit) × ((Int × Int × Unit) × (Int × Int × Unit) × (Int × Int × Int × Int × Int × Unit) × (D × D × Int × Unit) × Unit)) =>
bif t32v7 then (
bd (idxD 2 (.int .i64 (wrapD .i64 (b1v7_1 - 1)))) fun v8 =>
bd (inR (0 + v8 * 1) 1 2) fun _ =>
bd (Sh.gds [(.int .i64), (.int .i64)] (setQ [(.int .i64 b2v7_0), (.int .i64 b2v7_1)] (0 + v8 * 1) [(.int .i64 b0v7_2)])) fun (v9 : (Int × Int × Unit)) =>
some (.inl ((t1v7, (), (), (), t7v7, t8v7, t9v7, t10v7, ()), ((b2004v7_0, b2004v7_1, ()), v9, (b1v7_0, b1v7_1, b1v7_2, b1v7_3, b1v7_4, ()), (b0v7_0, b0v7_1, b0v7_2, ()), ())))) else (
some (.inl ((t1v7, (), (), (), t7v7, t8v7, t9v7, t10v7, ()), ((b2004v7_0, b2004v7_1, ()), (b2v7_0, b2v7_1, ()), (b1v7_0, b1v7_1, b1v7_2, b1v7_3, b1v7_4, ()), (b0v7_0, b0v7_1, b0v7_2, ()), ()))))) fun (((t1v6, _, _, _, t7v6, t8v6, t9v6, t10v6, _), ((b2004v6_0, b2004v6_1, _), (b2v6_0, b2v6_1, _), (b1v6_0, b1v6_1, b1v6_2, b1v6_3, b1v6_4, _), (b0v6_0, b0v6_1, b0v6_2, _), _)) : (Int × Unit × Unit × Unit × Int × Int × Int × Int × Unit) × ((Int × Int × Unit) × (Int × Int × Unit) × (Int × Int × Int × Int × Int × Unit) × (D × D × Int × Unit) × Unit)) =>
bj (α := (Unit × Unit × Unit × Int × Int × Int × Int × Int × Bool × Unit) × ((Int × Int × Unit) × (Int × Int × Unit) × (Int × Int × Int × Int × Int × Unit) × (D × D × Int × Unit) × Unit)) (
bif (eqZ t1v6 1) then (
some (.inl (((), (), (), t7v6, t8v6, t9v6, t10v6, t1v6, (eqZ t1v6 1), ()), ((b2004v6_0, b2004v6_1, ()), (b2v6_0, b2v6_1, ()), (b1v6_0, b1v6_1, b1v6_2, b1v6_3, b1v6_4, ()), (b0v6_0, b0v6_1, b0v6_2, ()), ())))) else (
some (.inl (((), (), (), t7v6, t8v6, t9v6, t10v6, t1v6, (eqZ t1v6 2), ()), ((b2004v6_0, b2004v6_1, ()), (b2v6_0, b2v6_1, ()), (b1v6_0, b1v6_1, b1v6_2, b1v6_3, b1v6_4, ()), (b0v6_0, b0v6_1, b0v6_2, ()), ()))))) fun (((_, _, _, t7v10, t8v10, t9v10, t10v10, t39v10, t40v10, _), ((b2004v10_0, b2004v10_1, _), (b2v10_0, b2v10_1, _), (b1v10_0, b1v10_1, b1v10_2, b1v10_3, b1v10_4, _), (b0v10_0, b0v10_1, b0v10_2, _), _)) : (Unit × Unit × Unit × Int × Int × Int × Int × Int × Bool × Unit) × ((Int × Int × Unit) × (Int × Int × Unit) × (Int × Int × Int × Int × Int × Unit) × (D × D × Int × Unit) × Unit)) =>
bif t40v10 then (
some (.tup [(.agg [(.int .i64 b2v10_0), (.int .i64 b2v10_1)]), (.int .i64 t7v10), (.int .i64 t10v10)])) else (
bif (eqZ t39v10 7) then (
some (.tup [(.agg [(.int .i64 b2v10_1), (.int .i64 b2v10_0)]), (.int .i64 t7v10), (.int .i64 t8v10)])) else (
bif (eqZ t39v10 4) then (
clT q18 (cl 55 [(.agg [b0v10_0, b0v10_1, (.int .i64 b0v10_2)]), .nils]) fun (v12 : (Int × Int × Unit)) =>
some (.tup [(.agg [(.int .i64 v12.1), (.int .i64 v12.2.1)]), (.int .i64 t9v10), (.int .i64 t8v10)])) else (
bif (eqZ t39v10 5) then (
clT q18 (cl 55 [(.agg [b0v10_0, b0v10_1, (.int .i64 b0v10_2)]), (.sl true 1 [(.int .i64 t9v10)])]) fun (v14 : (Int × Int × Unit)) =>
some (.tup [(.agg [(.int .i64 v14.1), (.int .i64 v14.2.1)]), (.int .i64 t7v10), (.int .i64 t8v10)])) else (
bif (eqZ t39v10 8) then (
clT q18 (cl 55 [(.agg [b0v10_0, b0v10_1, (.int .i64 b0v10_2)]), (.sl true 1 [(.int .i64 b1v10_4)])]) fun (v16 : (Int × Int × Unit)) =>
some (.tup [(.agg [(.int .i64 v16.1), (.int .i64 v16.2.1)]), (.int .i64 t7v10), (.int .i64 b1v10_4)])) else (
bif (eqZ t39v10 9) then (
bd (idxD 2 (.int .i64 (wrapD .i64 (b1v10_1 - 1)))) fun v17 =>
tkT q4 [(.int .i64 b1v10_0), (.int .i64 b1v10_1), (.int .i64 b1v10_2), (.int .i64 b1v10_3), (.int .i64 b1v10_4)] (2 + v17 * 1) none fun (v19 : Int) =>
clT q4 (cl 25 [(.agg [b0v10_0, b0v10_1, (.int .i64 b0v10_2)]), (.sl true 2 [(.int .i64 b1v10_4), (.int .i64 v19)])]) fun (v21 : Int) =>
some (.tup [(.agg [(.int .i64 b2v10_0), (.int .i64 b2v10_1)]), (.int .i64 v21), (.int .i64 t10v10)])) else (
bj (α := (Unit × Unit × Unit × Int × Int × Int × Int × Int × Bool × Unit) × ((Int × Int × Unit) × (Int × Int × Unit) × (Int × Int × Int × Int × Int × Unit) × (D × D × Int × Unit) × Unit)) (
bif (eqZ t39v10 10) then (
some (.inl (((), (), (), t7v10, t8v10, t9v10, t10v10, t39v10, (eqZ t39v10 10), ()), ((b2004v10_0, b2004v10_1, ()), (b2v10_0, b2v10_1, ()), (b1v10_0, b1v10_1, b1v10_2, b1v10_3, b1v10_4, ()), (b0v10_0, b0v10_1, b0v10_2, ()), ())))) else (
some (.inl (((), (), (), t7v10, t8v10, t9v10, t10v10, t39v10, (eqZ t39v10 11), ()), ((b2004v10_0, b2004v10_1, ()), (b2v10_0, b2v10_1, ()), (b1v10_0, b1v10_1, b1v10_2, b1v10_3, b1v10_4, ()), (b0v10_0, b0v10_1, b0v10_2, ()), ()))))) fun (((_, _, _, t7v22, t8v22, t9v22, t10v22, t39v22, t86v22, _), ((b2004v22_0, b2004v22_1, _), (b2v22_0, b2v22_1, _), (b1v22_0, b1v22_1, b1v22_2, b1v22_3, b1v22_4, _), (b0v22_0, b0v22_1, b0v22_2, _), _)) : (Unit × Unit × Unit × Int × Int × Int × Int × Int × Bool × Unit) × ((Int × Int × Unit) × (Int × Int × Unit) × (Int × Int × Int × Int × Int × Unit) × (D × D × Int × Unit) × Unit)) =>
bif t86v22 then (
bd (idxD 2 (.int .i64 (wrapD .i64 (b1v22_1 - 1)))) fun v23 =>
tkT q4 [(.int .i64 b1v22_0), (.int .i64 b1v22_1), (.int .i64 b1v22_2), (.int .i64 b1v22_3), (.int .i64 b1v22_4)] (2 + v23 * 1) none fun (v25 : Int) =>
clT q4 (cl 25 [(.agg [b0v22_0, b0v22_1, (.int .i64 b0v22_2)]), (.sl true 2 [(.int .i64 b1v22_4), (.int .i64 v25)])]) fun (v27 : Int) =>
some (.tup [(.agg [(.int .i64 b2v22_0), (.int .i64 b2v22_1)]), (.int .i64 v27), (.int .i64 t9v22)])) else (
bif (eqZ t39v22 12) then (
some (.tup [(.agg [(.int .i64 b2v22_0), (.int .i64 b2v22_1)]), (.int .i64 t9v22), (.int .i64 t8v22)])) else (
bif (eqZ t39v22 13) then (
some (.tup [(.agg [(.int .i64 b2v22_0), (.int .i64 b2v22_1)]), (.int .i64 t10v22), (.int .i64 t10v22)])) else (
bif (eqZ t39v22 14) then (
bd (idxD 2 (.int .i64 (wrapD .i64 (b1v22_1 - 1)))) fun v28 =>
tkT q4 [(.int .i64 b1v22_0), (.int .i64 b1v22_1), (.int .i64 b1v22_2), (.int .i64 b1v22_3), (.int .i64 b1v22_4)] (2 + v28 * 1) none fun (v30 : Int) =>
clT q4 (cl 25 [(.agg [b0v22_0, b0v22_1, (.int .i64 b0v22_2)]), (.sl true 2 [(.int .i64 b1v22_4), (.int .i64 v30)])]) fun (v32 : Int) =>
some (.tup [(.agg [(.int .i64 b2v22_0), (.int .i64 b2v22_1)]), (.int .i64 v32), (.int .i64 t8v22)])) else (
some (.tup [(.agg [(.int .i64 b2v22_0), (.int .i64 b2v22_1)]), (.int .i64 t7v22), (.int .i64 t8v22)])))))))))))
theorem S23_eq (lp : Lp) (cl : CL) (a0_0 : D) (a0_1 : D) (a0_2 : Int) (a1 : Int) (a2_0 : Int) (a2_1 : Int) (a2_2 : Int) (a2_3 : Int) (a2_4 : Int) : runS lp Tryz.prog TryzG cl 23 [(.agg [(.fz a0_0), (.fz a0_1), (.int .i64 a0_2)]), (.int .i64 a1), (.agg [(.int .i64 a2_0), (.int .i64 a2_1), (.int .i64 a2_2), (.int .i64 a2_3), (.int .i64 a2_4)])] = S23 lp cl a0_0 a0_1 a0_2 a1 a2_0 a2_1 a2_2 a2_3 a2_4 := by kernel_rfl
def S23_w (lp : Lp) (cl : CL) (args : List D) : Option D := bd (Sh.gds [(.agg [.fz, .fz, (.int .i64)]), (.int .i64), (.agg [(.int .i64), (.int .i64), (.int .i64), (.int .i64), (.int .i64)])] args) fun v => S23 lp cl v.1.1 v.1.2.1 v.1.2.2.1 v.2.1 v.2.2.1.1 v.2.2.1.2.1 v.2.2.1.2.2.1 v.2.2.1.2.2.2.1 v.2.2.1.2.2.2.2.1
theorem S23_t : TabE TryzE 23 S23_w := tab_of (by kernel_rfl) fun lp cl v => S23_eq lp cl v.1.1 v.1.2.1 v.1.2.2.1 v.2.1 v.2.2.1.1 v.2.2.1.2.1 v.2.2.1.2.2.1 v.2.2.1.2.2.2.1 v.2.2.1.2.2.2.2.1

/- 26 (invigilator/taint.rules).lens -/
def S26 (lp : Lp) (cl : CL) (a0_0 : D) (a0_1 : D) (a0_2 : Int) (a1_0 : Int) (a1_1 : Int) (a1_2 : Int) (a1_3 : Int) (a1_4 : Int) : Option D :=
bd (bndO 2 2 (some (.int .i64 a1_1))) fun v0 =>
bd (frSl (Nat.beq 2 v0) 2 1 v0 [(.int .i64 a1_0), (.int .i64 a1_1), (.int .i64 a1_2), (.int .i64 a1_3), (.int .i64 a1_4)]) fun v1 =>
clT q4 (cl 25 [(.agg [a0_0, a0_1, (.int .i64 a0_2)]), v1]) fun (v3 : Int) =>
some (.int .i64 v3)
theorem S26_eq (lp : Lp) (cl : CL) (a0_0 : D) (a0_1 : D) (a0_2 : Int) (a1_0 : Int) (a1_1 : Int) (a1_2 : Int) (a1_3 : Int) (a1_4 : Int) : runS lp Tryz.prog TryzG cl 26 [(.agg [(.fz a0_0), (.fz a0_1), (.int .i64 a0_2)]), (.agg [(.int .i64 a1_0), (.int .i64 a1_1), (.int .i64 a1_2), (.int .i64 a1_3), (.int .i64 a1_4)])] = S26 lp cl a0_0 a0_1 a0_2 a1_0 a1_1 a1_2 a1_3 a1_4 := by kernel_rfl
def S26_w (lp : Lp) (cl : CL) (args : List D) : Option D := bd (Sh.gds [(.agg [.fz, .fz, (.int .i64)]), (.agg [(.int .i64), (.int .i64), (.int .i64), (.int .i64), (.int .i64)])] args) fun v => S26 lp cl v.1.1 v.1.2.1 v.1.2.2.1 v.2.1.1 v.2.1.2.1 v.2.1.2.2.1 v.2.1.2.2.2.1 v.2.1.2.2.2.2.1
theorem S26_t : TabE TryzE 26 S26_w := tab_of (by kernel_rfl) fun lp cl v => S26_eq lp cl v.1.1 v.1.2.1 v.1.2.2.1 v.2.1.1 v.2.1.2.1 v.2.1.2.2.1 v.2.1.2.2.2.1 v.2.1.2.2.2.2.1

/- 28 invigilator/invigilatorref27.labels -/
def S28 (lp : Lp) (cl : CL) (a0_0 : D) (a0_1 : D) (a1_0 : Int) (a1_1 : Int) (a1_2 : Int) (a1_3 : Int) (a1_4 : Int) : Option D :=
lp.run (fun (((_, _, t5v0, _), ((b1v0_0, b1v0_1, b1v0_2, b1v0_3, b1v0_4, _), (b0v0_0, b0v0_1, _), _)) : (Unit × Unit × Int × Unit) × ((Int × Int × Int × Int × Int × Unit) × (D × D × Unit) × Unit)) =>
bif (ltZ t5v0 b1v0_1) then (
bd (idxD 2 (.int .i64 t5v0)) fun v1 =>
tkT q4 [(.int .i64 b1v0_0), (.int .i64 b1v0_1), (.int .i64 b1v0_2), (.int .i64 b1v0_3), (.int .i64 b1v0_4)] (2 + v1 * 1) none fun (v3 : Int) =>
bif (ltZ v3 0) then (
rt (
some (.bool false))) else (
bd (idxD 2 (.int .i64 t5v0)) fun v4 =>
tkT q4 [(.int .i64 b1v0_0), (.int .i64 b1v0_1), (.int .i64 b1v0_2), (.int .i64 b1v0_3), (.int .i64 b1v0_4)] (2 + v4 * 1) none fun (v6 : Int) =>
bd (lenD false b0v0_0) fun v7 =>
bif (leZ (v7 : Int) v6) then (
rt (
some (.bool false))) else (
some (.inl (((), (), (wrapD .i64 (t5v0 + 1)), ()), ((b1v0_0, b1v0_1, b1v0_2, b1v0_3, b1v0_4, ()), (b0v0_0, b0v0_1, ()), ())))))) else (
rt (
bif (leZ 0 b1v0_4) then (
bd (lenD false b0v0_0) fun v8 =>
some (.bool (ltZ b1v0_4 (v8 : Int)))) else (
some (.bool false))))) (((), (), (0 : Int), ()), ((a1_0, a1_1, a1_2, a1_3, a1_4, ()), (a0_0, a0_1, ()), ()))
theorem S28_eq (lp : Lp) (cl : CL) (a0_0 : D) (a0_1 : D) (a1_0 : Int) (a1_1 : Int) (a1_2 : Int) (a1_3 : Int) (a1_4 : Int) : runS lp Tryz.prog TryzG cl 28 [(.agg [(.fz a0_0), (.fz a0_1)]), (.agg [(.int .i64 a1_0), (.int .i64 a1_1), (.int .i64 a1_2), (.int .i64 a1_3), (.int .i64 a1_4)])] = S28 lp cl a0_0 a0_1 a1_0 a1_1 a1_2 a1_3 a1_4 := by kernel_rfl
def S28_w (lp : Lp) (cl : CL) (args : List D) : Option D := bd (Sh.gds [(.agg [.fz, .fz]), (.agg [(.int .i64), (.int .i64), (.int .i64), (.int .i64), (.int .i64)])] args) fun v => S28 lp cl v.1.1 v.1.2.1 v.2.1.1 v.2.1.2.1 v.2.1.2.2.1 v.2.1.2.2.2.1 v.2.1.2.2.2.2.1
theorem S28_t : TabE TryzE 28 S28_w := tab_of (by kernel_rfl) fun lp cl v => S28_eq lp cl v.1.1 v.1.2.1 v.2.1.1 v.2.1.2.1 v.2.1.2.2.1 v.2.1.2.2.2.1 v.2.1.2.2.2.2.1

/- 33 invigilator/invigilatorref03.Join -/
def S33 (lp : Lp) (cl : CL) (a0_0 : D) (a0_1 : D) (a1 : Int) (a2 : Int) : Option D :=
clT q4 (cl 64 [(.agg [a0_0, a0_1]), (.int .i64 a1), (.int .i64 a2)]) fun (v1 : Int) =>
bif (!(eqZ v1 0)) then (
some (.tup [(.int .i64 0), (.int .i64 v1)])) else (
clT q4 (cl 65 [(.agg [a0_0, a0_1]), (.int .i64 a1), (.int .i64 a2)]) fun (v3 : Int) =>
some (.tup [(.int .i64 v3), (.int .i64 0)]))
theorem S33_eq (lp : Lp) (cl : CL) (a0_0 : D) (a0_1 : D) (a1 : Int) (a2 : Int) : runS lp Tryz.prog TryzG cl 33 [(.agg [(.fz a0_0), (.fz a0_1)]), (.int .i64 a1), (.int .i64 a2)] = S33 lp cl a0_0 a0_1 a1 a2 := by kernel_rfl
def S33_w (lp : Lp) (cl : CL) (args : List D) : Option D := bd (Sh.gds [(.agg [.fz, .fz]), (.int .i64), (.int .i64)] args) fun v => S33 lp cl v.1.1 v.1.2.1 v.2.1 v.2.2.1
theorem S33_t : TabE TryzE 33 S33_w := tab_of (by kernel_rfl) fun lp cl v => S33_eq lp cl v.1.1 v.1.2.1 v.2.1 v.2.2.1

/- 43 invigilator/invigilatorref12.kind -/
def S43 (lp : Lp) (cl : CL) (a0 : Int) (a1 : D) : Option D :=
bj (α := (D × Int × Bool × Unit) × (Unit)) (
bif (eqZ a0 5) then (
some (.inl ((a1, a0, (eqZ a0 5), ()), (())))) else (
bif (eqZ a0 6) then (
some (.inl ((a1, a0, (eqZ a0 6), ()), (())))) else (
bif (eqZ a0 7) then (
some (.inl ((a1, a0, (eqZ a0 7), ()), (())))) else (
bif (eqZ a0 37) then (
some (.inl ((a1, a0, (eqZ a0 37), ()), (())))) else (
some (.inl ((a1, a0, (eqZ a0 38), ()), (())))))))) fun (((t1v0, t5v0, t6v0, _), (_)) : (D × Int × Bool × Unit) × (Unit)) =>
bif t6v0 then (
ixT q4 1 t1v0 (.int .i64 0) none fun (v3 : Int) =>
some (.int .i64 v3)) else (
bif (eqZ t5v0 33) then (
bif (eqZ t5v0 33) then (
ixT q4 1 t1v0 (.int .i64 1) none fun (v6 : Int) =>
some (.int .i64 v6)) else (
some (.int .i64 1))) else (
bif (eqZ t5v0 34) then (
bif (eqZ t5v0 34) then (
ixT q4 1 t1v0 (.int .i64 1) none fun (v9 : Int) =>
some (.int .i64 v9)) else (
some (.int .i64 1))) else (
bif (eqZ t5v0 35) then (
bif (eqZ t5v0 35) then (
ixT q4 1 t1v0 (.int .i64 1) none fun (v12 : Int) =>
some (.int .i64 v12)) else (
some (.int .i64 1))) else (
bif (eqZ t5v0 36) then (
bif (eqZ t5v0 36) then (
ixT q4 1 t1v0 (.int .i64 1) none fun (v15 : Int) =>
some (.int .i64 v15)) else (
some (.int .i64 1))) else (
bif (eqZ t5v0 40) then (
ixT q4 1 t1v0 (.int .i64 1) none fun (v18 : Int) =>
some (.int .i64 v18)) else (
some (.int .i64 1)))))))
theorem S43_eq (lp : Lp) (cl : CL) (a0 : Int) (a1 : D) : runS lp Tryz.prog TryzG cl 43 [(.int .i64 a0), (.fz a1)] = S43 lp cl a0 a1 := by kernel_rfl
def S43_w (lp : Lp) (cl : CL) (args : List D) : Option D := bd (Sh.gds [(.int .i64), .fz] args) fun v => S43 lp cl v.1 v.2.1
theorem S43_t : TabE TryzE 43 S43_w := tab_of (by kernel_rfl) fun lp cl v => S43_eq lp cl v.1 v.2.1

/- 48 invigilator/lattice.bound[invigilator/lattice.downs] -/
def S48 (lp : Lp) (cl : CL) (a0_0 : Int) (a0_1 : Int) (a0_2 : Int) (a0_3 : Int) (a0_4 : Int) (a0_5 : Int) (a0_6 : Int) (a0_7 : Int) (a1 : Int) (a2 : Int) (a3 : Int) : Option D :=
bd (idxD 8 (.int .i64 a2)) fun v0 =>
tkT q13 [(.int .u8 a0_0), (.int .u8 a0_1), (.int .u8 a0_2), (.int .u8 a0_3), (.int .u8 a0_4), (.int .u8 a0_5), (.int .u8 a0_6), (.int .u8 a0_7)] (0 + v0 * 1) none fun (v2 : Int) =>
bd (idxD 8 (.int .i64 a3)) fun v3 =>
tkT q13 [(.int .u8 a0_0), (.int .u8 a0_1), (.int .u8 a0_2), (.int .u8 a0_3), (.int .u8 a0_4), (.int .u8 a0_5), (.int .u8 a0_6), (.int .u8 a0_7)] (0 + v3 * 1) none fun (v5 : Int) =>
lp.run (fun (((_, t9v6, t18v6, t19v6, _), (b0v6, _)) : (Unit × Int × Int × Int × Unit) × (List D × Unit)) =>
bif (ltZ t19v6 t18v6) then (
bd (shrD .u8 t9v6 t19v6) fun v7 =>
bif (eqZ (andZ .u8 v7 1) 1) then (
bd (idxD 8 (.int .i64 t19v6)) fun v8 =>
tkT q13 b0v6 (0 + v8 * 1) none fun (v10 : Int) =>
bif (eqZ v10 t9v6) then (
rt (
some (.int .i64 t19v6))) else (
some (.inl (((), t9v6, t18v6, (wrapD .i64 (t19v6 + 1)), ()), (b0v6, ()))))) else (
some (.inl (((), t9v6, t18v6, (wrapD .i64 (t19v6 + 1)), ()), (b0v6, ()))))) else (
rt (
some (.int .i64 (-1))))) (((), (andZ .u8 v2 v5), a1, (0 : Int), ()), ([(.int .u8 a0_0), (.int .u8 a0_1), (.int .u8 a0_2), (.int .u8 a0_3), (.int .u8 a0_4), (.int .u8 a0_5), (.int .u8 a0_6), (.int .u8 a0_7)], ()))
theorem S48_eq (lp : Lp) (cl : CL) (a0_0 : Int) (a0_1 : Int) (a0_2 : Int) (a0_3 : Int) (a0_4 : Int) (a0_5 : Int) (a0_6 : Int) (a0_7 : Int) (a1 : Int) (a2 : Int) (a3 : Int) : runS lp Tryz.prog TryzG cl 48 [(.agg [(.int .u8 a0_0), (.int .u8 a0_1), (.int .u8 a0_2), (.int .u8 a0_3), (.int .u8 a0_4), (.int .u8 a0_5), (.int .u8 a0_6), (.int .u8 a0_7)]), (.int .i64 a1), (.int .i64 a2), (.int .i64 a3)] = S48 lp cl a0_0 a0_1 a0_2 a0_3 a0_4 a0_5 a0_6 a0_7 a1 a2 a3 := by kernel_rfl
def S48_w (lp : Lp) (cl : CL) (args : List D) : Option D := bd (Sh.gds [(.agg [(.int .u8), (.int .u8), (.int .u8), (.int .u8), (.int .u8), (.int .u8), (.int .u8), (.int .u8)]), (.int .i64), (.int .i64), (.int .i64)] args) fun v => S48 lp cl v.1.1 v.1.2.1 v.1.2.2.1 v.1.2.2.2.1 v.1.2.2.2.2.1 v.1.2.2.2.2.2.1 v.1.2.2.2.2.2.2.1 v.1.2.2.2.2.2.2.2.1 v.2.1 v.2.2.1 v.2.2.2.1
theorem S48_t : TabE TryzE 48 S48_w := tab_of (by kernel_rfl) fun lp cl v => S48_eq lp cl v.1.1 v.1.2.1 v.1.2.2.1 v.1.2.2.2.1 v.1.2.2.2.2.1 v.1.2.2.2.2.2.1 v.1.2.2.2.2.2.2.1 v.1.2.2.2.2.2.2.2.1 v.2.1 v.2.2.1 v.2.2.2.1

/- 52 invigilator/taint.known$1 -/
def S52 (lp : Lp) (cl : CL) (a0 : Int) (a1 : D) : Option D :=
bif (leZ 0 a0) then (
bd (ptF a1) fun v0 =>
tkT q19 v0.1 (v0.2 + 0) none fun (v2 : D) =>
bd (lenD false v2) fun v3 =>
some (.bool (ltZ a0 (v3 : Int)))) else (
some (.bool false))
theorem S52_eq (lp : Lp) (cl : CL) (a0 : Int) (a1 : D) : runS lp Tryz.prog TryzG cl 52 [(.int .i64 a0), (.fz a1)] = S52 lp cl a0 a1 := by kernel_rfl
def S52_w (lp : Lp) (cl : CL) (args : List D) : Option D := bd (Sh.gds [(.int .i64), .fz] args) fun v => S52 lp cl v.1 v.2.1
theorem S52_t : TabE TryzE 52 S52_w := tab_of (by kernel_rfl) fun lp cl v => S52_eq lp cl v.1 v.2.1

/- 54 (invigilator/taint.rules).own -/
def S54 (lp : Lp) (cl : CL) (a0_0 : D) (a0_1 : D) (a0_2 : Int) (a1_0 : Int) (a1_1 : Int) (a1_2 : Int) (a1_3 : Int) (a1_4 : Int) : Option D :=
bd (bndO 2 2 (some (.int .i64 a1_1))) fun v0 =>
bd (inR 2 (v0 * 1) 5) fun _ =>
bd (apG (SD.ones ((List.drop 2 [(.int .i64 a1_0), (.int .i64 a1_1), (.int .i64 a1_2), (.int .i64 a1_3), (.int .i64 a1_4)]).take (v0 * 1))) 0 0 0 0) fun _ =>
bd (inR 0 (List.length (List.take (min v0 2 * 1) (SD.cvs ((List.drop 2 [(.int .i64 a1_0), (.int .i64 a1_1), (.int .i64 a1_2), (.int .i64 a1_3), (.int .i64 a1_4)]).take (v0 * 1))))) 2) fun _ =>
tkT q18 (setQ [(.int .i64 a0_2), (.int .i64 a0_2)] 0 (List.take (min v0 2 * 1) (SD.cvs ((List.drop 2 [(.int .i64 a1_0), (.int .i64 a1_1), (.int .i64 a1_2), (.int .i64 a1_3), (.int .i64 a1_4)]).take (v0 * 1))))) 0 (some 2) fun (v2 : (Int × Int × Unit)) =>
some (.agg [(.int .i64 v2.1), (.int .i64 v2.2.1)])
theorem S54_eq (lp : Lp) (cl : CL) (a0_0 : D) (a0_1 : D) (a0_2 : Int) (a1_0 : Int) (a1_1 : Int) (a1_2 : Int) (a1_3 : Int) (a1_4 : Int) : runS lp Tryz.prog TryzG cl 54 [(.agg [(.fz a0_0), (.fz a0_1), (.int .i64 a0_2)]), (.agg [(.int .i64 a1_0), (.int .i64 a1_1), (.int .i64 a1_2), (.int .i64 a1_3), (.int .i64 a1_4)])] = S54 lp cl a0_0 a0_1 a0_2 a1_0 a1_1 a1_2 a1_3 a1_4 := by kernel_rfl
def S54_w (lp : Lp) (cl : CL) (args : List D) : Option D := bd (Sh.gds [(.agg [.fz, .fz, (.int .i64)]), (.agg [(.int .i64), (.int .i64), (.int .i64), (.int .i64), (.int .i64)])] args) fun v => S54 lp cl v.1.1 v.1.2.1 v.1.2.2.1 v.2.1.1 v.2.1.2.1 v.2.1.2.2.1 v.2.1.2.2.2.1 v.2.1.2.2.2.2.1
theorem S54_t : TabE TryzE 54 S54_w := tab_of (by kernel_rfl) fun lp cl v => S54_eq lp cl v.1.1 v.1.2.1 v.1.2.2.1 v.2.1.1 v.2.1.2.1 v.2.1.2.2.1 v.2.1.2.2.2.1 v.2.1.2.2.2.2.1

/- 55 (invigilator/taint.rules).line -/
def S55 (lp : Lp) (cl : CL) (a0_0 : D) (a0_1 : D) (a0_2 : Int) (a1 : D) : Option D :=
clT q4 (cl 25 [(.agg [a0_0, a0_1, (.int .i64 a0_2)]), a1]) fun (v1 : Int) =>
some (.agg [(.int .i64 v1), (.int .i64 a0_2)])
theorem S55_eq (lp : Lp) (cl : CL) (a0_0 : D) (a0_1 : D) (a0_2 : Int) (a1 : D) : runS lp Tryz.prog TryzG cl 55 [(.agg [(.fz a0_0), (.fz a0_1), (.int .i64 a0_2)]), (.fz a1)] = S55 lp cl a0_0 a0_1 a0_2 a1 := by kernel_rfl
def S55_w (lp : Lp) (cl : CL) (args : List D) : Option D := bd (Sh.gds [(.agg [.fz, .fz, (.int .i64)]), .fz] args) fun v => S55 lp cl v.1.1 v.1.2.1 v.1.2.2.1 v.2.1
theorem S55_t : TabE TryzE 55 S55_w := tab_of (by kernel_rfl) fun lp cl v => S55_eq lp cl v.1.1 v.1.2.1 v.1.2.2.1 v.2.1

/- 61 invigilator/invigilatorref03.nearest -/
def S61 (lp : Lp) (cl : CL) (a0 : D) (a1 : Int) (a2 : Int) : Option D :=
ixT q13 1 a0 (.int .i64 a1) none fun (v2 : Int) =>
ixT q13 1 a0 (.int .i64 a2) none fun (v5 : Int) =>
lp.run (fun (((t0v6, t7v6, t8v6, _), (_)) : (D × Int × Int × Unit) × (Unit)) =>
bd (lenD false t0v6) fun v7 =>
bif (ltZ t8v6 (v7 : Int)) then (
ixT q13 1 t0v6 (.int .i64 t8v6) none fun (v10 : Int) =>
bif (eqZ v10 t7v6) then (
rt (
some (.int .i64 t8v6))) else (
some (.inl ((t0v6, t7v6, (wrapD .i64 (t8v6 + 1)), ()), (()))))) else (
rt (
some (.int .i64 (-1))))) ((a0, (andZ .u8 v2 v5), (0 : Int), ()), (()))
theorem S61_eq (lp : Lp) (cl : CL) (a0 : D) (a1 : Int) (a2 : Int) : runS lp Tryz.prog TryzG cl 61 [(.fz a0), (.int .i64 a1), (.int .i64 a2)] = S61 lp cl a0 a1 a2 := by kernel_rfl
def S61_w (lp : Lp) (cl : CL) (args : List D) : Option D := bd (Sh.gds [.fz, (.int .i64), (.int .i64)] args) fun v => S61 lp cl v.1 v.2.1 v.2.2.1
theorem S61_t : TabE TryzE 61 S61_w := tab_of (by kernel_rfl) fun lp cl v => S61_eq lp cl v.1 v.2.1 v.2.2.1

/- 64 invigilator/invigilatorref03.asked -/
def S64 (lp : Lp) (cl : CL) (a0_0 : D) (a0_1 : D) (a1 : Int) (a2 : Int) : Option D :=
clT q7 (cl 27 [(.agg [a0_0, a0_1])]) fun (v1 : (Int × Int × Unit)) =>
bif (eqZ v1.2.1 0) then (
bif (ltZ a1 0) then (
some (.int .i64 7)) else (
bd (lenD false a0_0) fun v2 =>
bif (leZ (v2 : Int) a1) then (
some (.int .i64 7)) else (
bif (ltZ a2 0) then (
some (.int .i64 7)) else (
bd (lenD false a0_0) fun v3 =>
bif (leZ (v3 : Int) a2) then (
some (.int .i64 7)) else (
some (.int .i64 v1.2.1)))))) else (
some (.int .i64 v1.2.1))
theorem S64_eq (lp : Lp) (cl : CL) (a0_0 : D) (a0_1 : D) (a1 : Int) (a2 : Int) : runS lp Tryz.prog TryzG cl 64 [(.agg [(.fz a0_0), (.fz a0_1)]), (.int .i64 a1), (.int .i64 a2)] = S64 lp cl a0_0 a0_1 a1 a2 := by kernel_rfl
def S64_w (lp : Lp) (cl : CL) (args : List D) : Option D := bd (Sh.gds [(.agg [.fz, .fz]), (.int .i64), (.int .i64)] args) fun v => S64 lp cl v.1.1 v.1.2.1 v.2.1 v.2.2.1
theorem S64_t : TabE TryzE 64 S64_w := tab_of (by kernel_rfl) fun lp cl v => S64_eq lp cl v.1.1 v.1.2.1 v.2.1 v.2.2.1

/- 72 slices.Contains[[]string,string] -/
def S72 (lp : Lp) (cl : CL) (a0 : D) (a1 : List UInt8) : Option D :=
clT q4 (cl 83 [a0, (.str a1)]) fun (v1 : Int) =>
some (.bool (leZ 0 v1))
theorem S72_eq (lp : Lp) (cl : CL) (a0 : D) (a1 : List UInt8) : runS lp Tryz.prog TryzG cl 72 [(.fz a0), (.str a1)] = S72 lp cl a0 a1 := by kernel_rfl
def S72_w (lp : Lp) (cl : CL) (args : List D) : Option D := bd (Sh.gds [.fz, .str] args) fun v => S72 lp cl v.1 v.2.1
theorem S72_t : TabE TryzE 72 S72_w := tab_of (by kernel_rfl) fun lp cl v => S72_eq lp cl v.1 v.2.1

/- 74 invigilator/lattice.asked -/
def S74 (lp : Lp) (cl : CL) (a0 : D) (a1 : D) : Option D :=
bd (ptF a0) fun v0 =>
tkT q6 v0.1 v0.2 (some 2) fun (v2 : (D × D × Unit)) =>
clT q7 (cl 19 [(.agg [v2.1, v2.2.1])]) fun (v4 : (Int × Int × Unit)) =>
bif (!(eqZ v4.2.1 0)) then (
some (.int .i64 v4.2.1)) else (
bd (lenD false a1) fun v5 =>
lp.run (fun (((t0v6, t19v6, t20v6, t21v6, _), (_)) : (D × D × Int × Int × Unit) × (Unit)) =>
bif (ltZ t21v6 t20v6) then (
ixT q4 1 t19v6 (.int .i64 t21v6) none fun (v9 : Int) =>
bif (ltZ v9 0) then (
rt (
some (.int .i64 7))) else (
bd (ptF t0v6) fun v10 =>
tkT q19 v10.1 (v10.2 + 0) none fun (v12 : D) =>
bd (lenD false v12) fun v13 =>
bif (leZ (v13 : Int) v9) then (
rt (
some (.int .i64 7))) else (
some (.inl ((t0v6, t19v6, t20v6, (wrapD .i64 (t21v6 + 1)), ()), (())))))) else (
rt (
some (.int .i64 0)))) ((a0, a1, (v5 : Int), (0 : Int), ()), (())))
theorem S74_eq (lp : Lp) (cl : CL) (a0 : D) (a1 : D) : runS lp Tryz.prog TryzG cl 74 [(.fz a0), (.fz a1)] = S74 lp cl a0 a1 := by kernel_rfl
def S74_w (lp : Lp) (cl : CL) (args : List D) : Option D := bd (Sh.gds [.fz, .fz] args) fun v => S74 lp cl v.1 v.2.1
theorem S74_t : TabE TryzE 74 S74_w := tab_of (by kernel_rfl) fun lp cl v => S74_eq lp cl v.1 v.2.1

/- 109 strings.trimLeftByte -/
def S109 (lp : Lp) (cl : CL) (a0 : List UInt8) (a1 : Int) : Option D :=
lp.run (fun (((t0v0, t1v0, _), (_)) : (List UInt8 × Int × Unit) × (Unit)) =>
bif (ltZ 0 (List.length t0v0 : Int)) then (
bd (ixStr t0v0 (.int .i64 0)) fun v1 =>
bif (eqZ v1 t1v0) then (
bd (slStr t0v0 (some (.int .i64 1)) none) fun v2 =>
some (.inl ((v2, t1v0, ()), (())))) else (
rt (
some (.str t0v0)))) else (
rt (
some (.str t0v0)))) ((a0, a1, ()), (()))
theorem S109_eq (lp : Lp) (cl : CL) (a0 : List UInt8) (a1 : Int) : runS lp Tryz.prog TryzG cl 109 [(.str a0), (.int .u8 a1)] = S109 lp cl a0 a1 := by kernel_rfl
def S109_w (lp : Lp) (cl : CL) (args : List D) : Option D := bd (Sh.gds [.str, (.int .u8)] args) fun v => S109 lp cl v.1 v.2.1
theorem S109_t : TabE TryzE 109 S109_w := tab_of (by kernel_rfl) fun lp cl v => S109_eq lp cl v.1 v.2.1

/- 112 strings.trimLeftASCII -/
def S112 (lp : Lp) (cl : CL) (a0 : List UInt8) (a1 : D) : Option D :=
lp.run (fun (((t0v0, t1v0, _), (_)) : (List UInt8 × D × Unit) × (Unit)) =>
bif (ltZ 0 (List.length t0v0 : Int)) then (
bd (ixStr t0v0 (.int .i64 0)) fun v1 =>
clT q0 (cl 142 [t1v0, (.int .u8 v1)]) fun (v3 : Bool) =>
bif (!v3) then (
rt (
some (.str t0v0))) else (
bd (slStr t0v0 (some (.int .i64 1)) none) fun v4 =>
some (.inl ((v4, t1v0, ()), (()))))) else (
rt (
some (.str t0v0)))) ((a0, a1, ()), (()))
theorem S112_eq (lp : Lp) (cl : CL) (a0 : List UInt8) (a1 : D) : runS lp Tryz.prog TryzG cl 112 [(.str a0), (.fz a1)] = S112 lp cl a0 a1 := by kernel_rfl
def S112_w (lp : Lp) (cl : CL) (args : List D) : Option D := bd (Sh.gds [.str, .fz] args) fun v => S112 lp cl v.1 v.2.1
theorem S112_t : TabE TryzE 112 S112_w := tab_of (by kernel_rfl) fun lp cl v => S112_eq lp cl v.1 v.2.1

/- 156 unicode/utf8.decodeRuneInStringSlow -/
def S156 (lp : Lp) (cl : CL) (a0 : List UInt8) : Option D :=
bif (ltZ (List.length a0 : Int) 1) then (
some (.tup [(.int .i32 65533), (.int .i64 0)])) else (
bd (ixStr a0 (.int .i64 0)) fun v0 =>
bd (idxD 256 (.int .u8 v0)) fun v1 =>
tkT q13 g2 (0 + v1 * 1) none fun (v3 : Int) =>
bif (leZ 240 v3) then (
bd (shlD .i32 (wrapD .i32 v3) 31) fun v4 =>
bd (shrD .i32 v4 31) fun v5 =>
bd (ixStr a0 (.int .i64 0)) fun v6 =>
some (.tup [(.int .i32 (orZ .i32 (andNotZ .i32 (wrapD .i32 v6) v5) (andZ .i32 65533 v5))), (.int .i64 1)])) else (
bd (shrD .u8 v3 4) fun v7 =>
bd (idxD 16 (.int .u8 v7)) fun v8 =>
tkT q30 g3 (0 + v8 * 2) (some 2) fun (v10 : (Int × Int × Unit)) =>
bif (ltZ (List.length a0 : Int) (wrapD .i64 (andZ .u8 v3 7))) then (
some (.tup [(.int .i32 65533), (.int .i64 1)])) else (
bd (ixStr a0 (.int .i64 1)) fun v11 =>
bj (α := (List UInt8 × Int × Int × Int × Unit) × ((Int × Int × Unit) × Unit)) (
bif (ltZ v11 v10.1) then (
rt (
some (.tup [(.int .i32 65533), (.int .i64 1)]))) else (
bif (ltZ v10.2.1 v11) then (
rt (
some (.tup [(.int .i32 65533), (.int .i64 1)]))) else (
some (.inl ((a0, v0, (wrapD .i64 (andZ .u8 v3 7)), v11, ()), ((v10.1, v10.2.1, ()), ())))))) fun (((t0v12, t5v12, t8v12, t10v12, _), ((b10004v12_0, b10004v12_1, _), _)) : (List UInt8 × Int × Int × Int × Unit) × ((Int × Int × Unit) × Unit)) =>
bif (leZ t8v12 2) then (
bd (shlD .i32 (wrapD .i32 (andZ .u8 t5v12 31)) 6) fun v13 =>
some (.tup [(.int .i32 (orZ .i32 v13 (wrapD .i32 (andZ .u8 t10v12 63)))), (.int .i64 2)])) else (
bd (ixStr t0v12 (.int .i64 2)) fun v14 =>
bj (α := (List UInt8 × Int × Int × Int × Int × Unit) × ((Int × Int × Unit) × Unit)) (
bif (ltZ v14 128) then (
rt (
some (.tup [(.int .i32 65533), (.int .i64 1)]))) else (
bif (ltZ 191 v14) then (
rt (
some (.tup [(.int .i32 65533), (.int .i64 1)]))) else (
some (.inl ((t0v12, t5v12, t8v12, t10v12, v14, ()), ((b10004v12_0, b10004v12_1, ()), ())))))) fun (((t0v15, t5v15, t8v15, t10v15, t11v15, _), ((b10004v15_0, b10004v15_1, _), _)) : (List UInt8 × Int × Int × Int × Int × Unit) × ((Int × Int × Unit) × Unit)) =>
bif (leZ t8v15 3) then (
bd (shlD .i32 (wrapD .i32 (andZ .u8 t5v15 15)) 12) fun v16 =>
bd (shlD .i32 (wrapD .i32 (andZ .u8 t10v15 63)) 6) fun v17 =>
some (.tup [(.int .i32 (orZ .i32 (orZ .i32 v16 v17) (wrapD .i32 (andZ .u8 t11v15 63)))), (.int .i64 3)])) else (
bd (ixStr t0v15 (.int .i64 3)) fun v18 =>
bj (α := (Int × Int × Int × Int × Unit) × ((Int × Int × Unit) × Unit)) (
bif (ltZ v18 128) then (
rt (
some (.tup [(.int .i32 65533), (.int .i64 1)]))) else (
bif (ltZ 191 v18) then (
rt (
some (.tup [(.int .i32 65533), (.int .i64 1)]))) else (
some (.inl ((t5v15, t10v15, t11v15, v18, ()), ((b10004v15_0, b10004v15_1, ()), ())))))) fun (((t5v19, t10v19, t11v19, t12v19, _), ((b10004v19_0, b10004v19_1, _), _)) : (Int × Int × Int × Int × Unit) × ((Int × Int × Unit) × Unit)) =>
bd (shlD .i32 (wrapD .i32 (andZ .u8 t5v19 7)) 18) fun v20 =>
bd (shlD .i32 (wrapD .i32 (andZ .u8 t10v19 63)) 12) fun v21 =>
bd (shlD .i32 (wrapD .i32 (andZ .u8 t11v19 63)) 6) fun v22 =>
some (.tup [(.int .i32 (orZ .i32 (orZ .i32 (orZ .i32 v20 v21) v22) (wrapD .i32 (andZ .u8 t12v19 63)))), (.int .i64 4)]))))))
theorem S156_eq (lp : Lp) (cl : CL) (a0 : List UInt8) : runS lp Tryz.prog TryzG cl 156 [(.str a0)] = S156 lp cl a0 := by kernel_rfl
def S156_w (lp : Lp) (cl : CL) (args : List D) : Option D := bd (Sh.gds [.str] args) fun v => S156 lp cl v.1
theorem S156_t : TabE TryzE 156 S156_w := tab_of (by kernel_rfl) fun lp cl v => S156_eq lp cl v.1

end Go.Proofs.YtblbgjfkbcdlfaaGreatDoor
