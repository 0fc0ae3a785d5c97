/- What the functions come to. -/
import Derived.Test.YtblbgjfkbcdlfaaGreatDoorSH
set_option linter.unusedVariables false
set_option maxRecDepth 100000
namespace Go.Proofs.YtblbgjfkbcdlfaaGreatDoor
open Go Iv
/- 18 invigilator/invigilatorlaw27.two -/
def S18 (lp : Lp) (cl : CL)  : Option D :=
some (.agg [(.sl true 2 [(.str [108, 111, 119]), (.str [104, 105, 103, 104])]), (.sl true 2 [(.int .u8 3), (.int .u8 2)])])
theorem S18_eq (lp : Lp) (cl : CL)  : runS lp Tryz.prog TryzG cl 18 [] = S18 lp cl  := by kernel_rfl
def S18_w (lp : Lp) (cl : CL) (args : List D) : Option D := bd (Sh.gds [] args) fun v => S18 lp cl 
theorem S18_t : TabE TryzE 18 S18_w := tab_of (by kernel_rfl) fun lp cl v => S18_eq lp cl 

/- 19 invigilator/lattice.Check -/
def S19 (lp : Lp) (cl : CL) (a0_0 : D) (a0_1 : D) : Option D :=
clT q7 (cl 44 [a0_0]) fun (v1 : (Int × Int × Unit)) =>
bif (!(eqZ v1.2.1 0)) then (
some (.tup [(.int .i64 v1.1), (.int .i64 v1.2.1)])) else (
bd (lenD false a0_0) fun v2 =>
bd (lenD false a0_1) fun v3 =>
bif (!(eqZ (v3 : Int) (v2 : Int))) then (
some (.tup [(.int .i64 (-1)), (.int .i64 6)])) else (
bd (shlD .u8 1 (v2 : Int)) fun v4 =>
bd (lenD false a0_1) fun v5 =>
lp.run (fun (((_, t6v6, t7v6, t37v6, t38v6, t39v6, _), ((b0v6_0, b0v6_1, _), _)) : (Unit × Int × Int × D × Int × Int × Unit) × ((D × D × Unit) × Unit)) =>
bif (ltZ t39v6 t38v6) then (
ixT q13 1 t37v6 (.int .i64 t39v6) none fun (v9 : Int) =>
bj (α := (Unit × Int × Int × Int × Int × D × Int × Int × Unit) × ((D × D × Unit) × Unit)) (
clT q4 (cl 45 [(.int .u8 v9)]) fun (v12 : Int) =>
bif (ltZ t6v6 v12) then (
rt (
rt (
some (.tup [(.int .i64 t39v6), (.int .i64 6)])))) else (
bd (shrD .u8 v9 t39v6) fun v13 =>
bif (eqZ (andZ .u8 v13 1) 0) then (
rt (
rt (
some (.tup [(.int .i64 t39v6), (.int .i64 6)])))) else (
some (.inl (((), t6v6, t7v6, t39v6, v9, t37v6, t38v6, t39v6, ()), ((b0v6_0, b0v6_1, ()), ())))))) fun (((_, t6v10, t7v10, t8v10, t9v10, t37v10, t38v10, t39v10, _), ((b0v10_0, b0v10_1, _), _)) : (Unit × Int × Int × Int × Int × D × Int × Int × Unit) × ((D × D × Unit) × Unit)) =>
bd (lenD false b0v10_1) fun v14 =>
lp.run (fun (((_, t6v15, t7v15, t8v15, t9v15, t37v15, t38v15, t39v15, t57v15, t58v15, t59v15, _), ((b0v15_0, b0v15_1, _), _)) : (Unit × Int × Int × Int × Int × D × Int × Int × D × Int × Int × Unit) × ((D × D × Unit) × Unit)) =>
bif (ltZ t59v15 t58v15) then (
ixT q13 1 t57v15 (.int .i64 t59v15) none fun (v18 : Int) =>
bd (shrD .u8 t9v15 t59v15) fun v19 =>
bif (eqZ (andZ .u8 v19 1) 0) then (
bif (eqZ t59v15 (wrapD .i64 (t6v15 - 1))) then (
rt (
some (.inl (((), t6v15, t7v15, t37v15, t38v15, (wrapD .i64 (t39v15 + 1)), ()), ((b0v15_0, b0v15_1, ()), ()))))) else (
some (.inl (((), t6v15, t7v15, t8v15, t9v15, t37v15, t38v15, t39v15, t57v15, t58v15, (wrapD .i64 (t59v15 + 1)), ()), ((b0v15_0, b0v15_1, ()), ()))))) else (
bj (α := (Unit × Int × Int × Int × Int × Int × Int × D × Int × Int × D × Int × Int × Bool × Unit) × ((D × D × Unit) × Unit)) (
bif (!(eqZ t59v15 t8v15)) then (
bd (shrD .u8 v18 t8v15) fun v21 =>
some (.inl (((), t6v15, t7v15, t8v15, t9v15, t59v15, v18, t37v15, t38v15, t39v15, t57v15, t58v15, t59v15, (eqZ (andZ .u8 v21 1) 1), ()), ((b0v15_0, b0v15_1, ()), ())))) else (
some (.inl (((), t6v15, t7v15, t8v15, t9v15, t59v15, v18, t37v15, t38v15, t39v15, t57v15, t58v15, t59v15, false, ()), ((b0v15_0, b0v15_1, ()), ()))))) fun (((_, t6v20, t7v20, t8v20, t9v20, t10v20, t11v20, t37v20, t38v20, t39v20, t57v20, t58v20, t59v20, t70v20, _), ((b0v20_0, b0v20_1, _), _)) : (Unit × Int × Int × Int × Int × Int × Int × D × Int × Int × D × Int × Int × Bool × Unit) × ((D × D × Unit) × Unit)) =>
bif t70v20 then (
bif t70v20 then (
rt (
rt (
some (.tup [(.int .i64 t8v20), (.int .i64 6)])))) else (
bif (eqZ t10v20 (wrapD .i64 (t6v20 - 1))) then (
rt (
some (.inl (((), t6v20, t7v20, t37v20, t38v20, (wrapD .i64 (t39v20 + 1)), ()), ((b0v20_0, b0v20_1, ()), ()))))) else (
some (.inl (((), t6v20, t7v20, t8v20, t9v20, t37v20, t38v20, t39v20, t57v20, t58v20, (wrapD .i64 (t59v20 + 1)), ()), ((b0v20_0, b0v20_1, ()), ())))))) else (
bif (!(eqZ (andNotZ .u8 (andZ .u8 t11v20 t7v20) t9v20) 0)) then (
rt (
rt (
some (.tup [(.int .i64 t8v20), (.int .i64 6)])))) else (
bif (eqZ t10v20 (wrapD .i64 (t6v20 - 1))) then (
rt (
some (.inl (((), t6v20, t7v20, t37v20, t38v20, (wrapD .i64 (t39v20 + 1)), ()), ((b0v20_0, b0v20_1, ()), ()))))) else (
some (.inl (((), t6v20, t7v20, t8v20, t9v20, t37v20, t38v20, t39v20, t57v20, t58v20, (wrapD .i64 (t59v20 + 1)), ()), ((b0v20_0, b0v20_1, ()), ())))))))) else (
rt (
some (.inl (((), t6v15, t7v15, t37v15, t38v15, (wrapD .i64 (t39v15 + 1)), ()), ((b0v15_0, b0v15_1, ()), ())))))) (((), t6v10, t7v10, t8v10, t9v10, t37v10, t38v10, t39v10, b0v10_1, (v14 : Int), (0 : Int), ()), ((b0v10_0, b0v10_1, ()), ()))) else (
rt (
clT q14 (cl 46 [(.iptr [b0v6_0, b0v6_1] 0)]) fun (v23 : (Int × Int × Int × Int × Int × Int × Int × Int × Int × Int × Int × Int × Int × Int × Int × Int × Int × Unit)) =>
lp.run (fun (((t6v24, _, t95v24, t96v24, _), (b23001v24, _)) : (Int × Unit × Int × Int × Unit) × (List D × Unit)) =>
bif (ltZ t96v24 t95v24) then (
lp.run (fun (((t6v25, _, t13v25, t95v25, t96v25, t99v25, t100v25, _), (b23001v25, _)) : (Int × Unit × Int × Int × Int × Int × Int × Unit) × (List D × Unit)) =>
bif (ltZ t100v25 t99v25) then (
tkT q15 b23001v25 1 (some 8) fun (v27 : (Int × Int × Int × Int × Int × Int × Int × Int × Unit)) =>
clT q4 (cl 47 [(.agg [(.int .u8 v27.1), (.int .u8 v27.2.1), (.int .u8 v27.2.2.1), (.int .u8 v27.2.2.2.1), (.int .u8 v27.2.2.2.2.1), (.int .u8 v27.2.2.2.2.2.1), (.int .u8 v27.2.2.2.2.2.2.1), (.int .u8 v27.2.2.2.2.2.2.2.1)]), (.int .i64 t6v25), (.int .i64 t13v25), (.int .i64 t100v25)]) fun (v29 : Int) =>
bif (ltZ v29 0) then (
rt (
rt (
some (.tup [(.int .i64 t13v25), (.int .i64 4)])))) else (
tkT q15 b23001v25 9 (some 8) fun (v31 : (Int × Int × Int × Int × Int × Int × Int × Int × Unit)) =>
clT q4 (cl 48 [(.agg [(.int .u8 v31.1), (.int .u8 v31.2.1), (.int .u8 v31.2.2.1), (.int .u8 v31.2.2.2.1), (.int .u8 v31.2.2.2.2.1), (.int .u8 v31.2.2.2.2.2.1), (.int .u8 v31.2.2.2.2.2.2.1), (.int .u8 v31.2.2.2.2.2.2.2.1)]), (.int .i64 t6v25), (.int .i64 t13v25), (.int .i64 t100v25)]) fun (v33 : Int) =>
bif (ltZ v33 0) then (
rt (
rt (
some (.tup [(.int .i64 t13v25), (.int .i64 4)])))) else (
some (.inl ((t6v25, (), t13v25, t95v25, t96v25, t99v25, (wrapD .i64 (t100v25 + 1)), ()), (b23001v25, ())))))) else (
rt (
some (.inl ((t6v25, (), t95v25, (wrapD .i64 (t96v25 + 1)), ()), (b23001v25, ())))))) ((t6v24, (), t96v24, t95v24, t96v24, t6v24, (0 : Int), ()), (b23001v24, ()))) else (
rt (
some (.tup [(.int .i64 0), (.int .i64 0)])))) ((t6v6, (), t6v6, (0 : Int), ()), ([(.int .i64 v23.1), (.int .u8 v23.2.1), (.int .u8 v23.2.2.1), (.int .u8 v23.2.2.2.1), (.int .u8 v23.2.2.2.2.1), (.int .u8 v23.2.2.2.2.2.1), (.int .u8 v23.2.2.2.2.2.2.1), (.int .u8 v23.2.2.2.2.2.2.2.1), (.int .u8 v23.2.2.2.2.2.2.2.2.1), (.int .u8 v23.2.2.2.2.2.2.2.2.2.1), (.int .u8 v23.2.2.2.2.2.2.2.2.2.2.1), (.int .u8 v23.2.2.2.2.2.2.2.2.2.2.2.1), (.int .u8 v23.2.2.2.2.2.2.2.2.2.2.2.2.1), (.int .u8 v23.2.2.2.2.2.2.2.2.2.2.2.2.2.1), (.int .u8 v23.2.2.2.2.2.2.2.2.2.2.2.2.2.2.1), (.int .u8 v23.2.2.2.2.2.2.2.2.2.2.2.2.2.2.2.1), (.int .u8 v23.2.2.2.2.2.2.2.2.2.2.2.2.2.2.2.2.1)], ()))))) (((), (v2 : Int), (wrapD .u8 (v4 - 1)), a0_1, (v5 : Int), (0 : Int), ()), ((a0_0, a0_1, ()), ()))))
theorem S19_eq (lp : Lp) (cl : CL) (a0_0 : D) (a0_1 : D) : runS lp Tryz.prog TryzG cl 19 [(.agg [(.fz a0_0), (.fz a0_1)])] = S19 lp cl a0_0 a0_1 := by kernel_rfl
def S19_w (lp : Lp) (cl : CL) (args : List D) : Option D := bd (Sh.gds [(.agg [.fz, .fz])] args) fun v => S19 lp cl v.1.1 v.1.2.1
theorem S19_t : TabE TryzE 19 S19_w := tab_of (by kernel_rfl) fun lp cl v => S19_eq lp cl v.1.1 v.1.2.1

/- 20 invigilator/prims.Fits -/
def S20 (lp : Lp) (cl : CL) (a0 : Int) (a1 : D) (a2 : D) : Option D :=
clT q16 (cl 49 [(.int .i64 a0)]) fun (v1 : ((List UInt8 × D × D × D × D × Unit) × Int × Unit)) =>
bif (!(eqZ v1.2.1 0)) then (
some (.tup [(.int .i64 0), (.int .i64 0), (.int .i64 v1.2.1)])) else (
bj (α := (D × D × Unit × Unit) × ((List UInt8 × D × D × D × D × Unit) × Unit)) (
bd (lenD false a1) fun v3 =>
clT q4 (cl 50 [(.agg [(.str v1.1.1), v1.1.2.1, v1.1.2.2.1, v1.1.2.2.2.1, v1.1.2.2.2.2.1])]) fun (v5 : Int) =>
bif (!(eqZ (v3 : Int) v5)) then (
rt (
some (.tup [(.int .i64 0), (.int .i64 0), (.int .i64 23)]))) else (
bd (lenD false a2) fun v6 =>
clT q4 (cl 50 [(.agg [(.str v1.1.1), v1.1.2.1, v1.1.2.2.1, v1.1.2.2.2.1, v1.1.2.2.2.2.1])]) fun (v8 : Int) =>
bif (!(eqZ (v6 : Int) v8)) then (
rt (
some (.tup [(.int .i64 0), (.int .i64 0), (.int .i64 23)]))) else (
some (.inl ((a1, a2, (), ()), ((v1.1.1, v1.1.2.1, v1.1.2.2.1, v1.1.2.2.2.1, v1.1.2.2.2.2.1, ()), ())))))) fun (((t1v2, t2v2, _, _), ((b1005v2_0, b1005v2_1, b1005v2_2, b1005v2_3, b1005v2_4, _), _)) : (D × D × Unit × Unit) × ((List UInt8 × D × D × D × D × Unit) × Unit)) =>
bd (lenD false b1005v2_1) fun v9 =>
lp.run (fun (((t1v10, t2v10, t8v10, t37v10, t38v10, t39v10, _), (_)) : (D × D × Int × D × Int × Int × Unit) × (Unit)) =>
bif (ltZ t39v10 t38v10) then (
ixT q12 1 t37v10 (.int .i64 t39v10) none fun (v13 : List UInt8) =>
clT q17 (cl 51 [(.str v13), t1v10, t2v10]) fun (v15 : (Int × Int × Bool × Bool × Unit)) =>
bj (α := (D × D × Int × Int × Int × Bool × D × Int × Int × Bool × Unit) × (Unit)) (
bif v15.2.2.1 then (
some (.inl ((t1v10, t2v10, t8v10, v15.1, v15.2.1, v15.2.2.1, t37v10, t38v10, t39v10, v15.2.2.2.1, ()), (())))) else (
some (.inl ((t1v10, t2v10, t8v10, v15.1, v15.2.1, v15.2.2.1, t37v10, t38v10, t39v10, false, ()), (()))))) fun (((t1v16, t2v16, t8v16, t12v16, t13v16, t14v16, t37v16, t38v16, t39v16, t52v16, _), (_)) : (D × D × Int × Int × Int × Bool × D × Int × Int × Bool × Unit) × (Unit)) =>
bif t52v16 then (
rt (
some (.tup [(.int .i64 t12v16), (.int .i64 t13v16), (.int .i64 0)]))) else (
bif t14v16 then (
some (.inl ((t1v16, t2v16, (22 : Int), t37v16, t38v16, (wrapD .i64 (t39v16 + 1)), ()), (())))) else (
some (.inl ((t1v16, t2v16, t8v16, t37v16, t38v16, (wrapD .i64 (t39v16 + 1)), ()), (())))))) else (
rt (
some (.tup [(.int .i64 0), (.int .i64 0), (.int .i64 t8v10)])))) ((t1v2, t2v2, (21 : Int), b1005v2_1, (v9 : Int), (0 : Int), ()), (())))
theorem S20_eq (lp : Lp) (cl : CL) (a0 : Int) (a1 : D) (a2 : D) : runS lp Tryz.prog TryzG cl 20 [(.int .i64 a0), (.fz a1), (.fz a2)] = S20 lp cl a0 a1 a2 := by kernel_rfl
def S20_w (lp : Lp) (cl : CL) (args : List D) : Option D := bd (Sh.gds [(.int .i64), .fz, .fz] args) fun v => S20 lp cl v.1 v.2.1 v.2.2.1
theorem S20_t : TabE TryzE 20 S20_w := tab_of (by kernel_rfl) fun lp cl v => S20_eq lp cl v.1 v.2.1 v.2.2.1

/- 21 invigilator/taint.known -/
def S21 (lp : Lp) (cl : CL) (a0_0 : D) (a0_1 : D) (a1_0 : Int) (a1_1 : Int) (a1_2 : Int) (a1_3 : Int) (a1_4 : Int) : Option D :=
bd (bndO 2 2 (some (.int .i64 a1_1))) fun v0 =>
lp.run (fun (((_, t5v1, (t12v1_l, t12v1_c), t13v1, t14v1, _), ((b1v1_0, b1v1_1, b1v1_2, b1v1_3, b1v1_4, _), (b0v1_0, b0v1_1, _), _)) : (Unit × ((Unit) × (Unit × Unit)) × (Nat × Nat) × Int × Int × Unit) × ((Int × Int × Int × Int × Int × Unit) × (D × D × Unit) × Unit)) =>
bif (ltZ t14v1 t13v1) then (
bd (idxD t12v1_l (.int .i64 t14v1)) fun v2 =>
tkT q4 [(.int .i64 b1v1_0), (.int .i64 b1v1_1), (.int .i64 b1v1_2), (.int .i64 b1v1_3), (.int .i64 b1v1_4)] (2 + v2 * 1) none fun (v4 : Int) =>
clT q0 (cl 52 [(.int .i64 v4), (.iptr [b0v1_0, b0v1_1] 0)]) fun (v6 : Bool) =>
bif (!v6) then (
rt (
some (.bool false))) else (
some (.inl (((), ((()), ((), ())), (t12v1_l, t12v1_c), t13v1, (wrapD .i64 (t14v1 + 1)), ()), ((b1v1_0, b1v1_1, b1v1_2, b1v1_3, b1v1_4, ()), (b0v1_0, b0v1_1, ()), ()))))) else (
rt (
clT q0 (cl 52 [(.int .i64 b1v1_4), (.iptr [b0v1_0, b0v1_1] 0)]) fun (v8 : Bool) =>
some (.bool v8)))) (((), ((()), ((), ())), (v0, 2), (v0 : Int), (0 : Int), ()), ((a1_0, a1_1, a1_2, a1_3, a1_4, ()), (a0_0, a0_1, ()), ()))
theorem S21_eq (lp : Lp) (cl : CL) (a0_0 : D) (a0_1 : D) (a1_0 : Int) (a1_1 : Int) (a1_2 : Int) (a1_3 : Int) (a1_4 : Int) : runS lp Tryz.prog TryzG cl 21 [(.agg [(.fz a0_0), (.fz a0_1)]), (.agg [(.int .i64 a1_0), (.int .i64 a1_1), (.int .i64 a1_2), (.int .i64 a1_3), (.int .i64 a1_4)])] = S21 lp cl a0_0 a0_1 a1_0 a1_1 a1_2 a1_3 a1_4 := by kernel_rfl
def S21_w (lp : Lp) (cl : CL) (args : List D) : Option D := bd (Sh.gds [(.agg [.fz, .fz]), (.agg [(.int .i64), (.int .i64), (.int .i64), (.int .i64), (.int .i64)])] args) fun v => S21 lp cl v.1.1 v.1.2.1 v.2.1.1 v.2.1.2.1 v.2.1.2.2.1 v.2.1.2.2.2.1 v.2.1.2.2.2.2.1
theorem S21_t : TabE TryzE 21 S21_w := tab_of (by kernel_rfl) fun lp cl v => S21_eq lp cl v.1.1 v.1.2.1 v.2.1.1 v.2.1.2.1 v.2.1.2.2.1 v.2.1.2.2.2.1 v.2.1.2.2.2.2.1

/- 24 (invigilator/taint.rules).two -/
def S24 (lp : Lp) (cl : CL) (a0_0 : D) (a0_1 : D) (a0_2 : Int) (a1 : Int) (a2_0 : Int) (a2_1 : Int) (a2_2 : Int) (a2_3 : Int) (a2_4 : Int) (a3_0 : Int) (a3_1 : Int) (a3_2 : Int) (a3_3 : Int) (a3_4 : Int) : Option D :=
clT q4 (cl 26 [(.agg [a0_0, a0_1, (.int .i64 a0_2)]), (.agg [(.int .i64 a2_0), (.int .i64 a2_1), (.int .i64 a2_2), (.int .i64 a2_3), (.int .i64 a2_4)])]) fun (v1 : Int) =>
clT q4 (cl 26 [(.agg [a0_0, a0_1, (.int .i64 a0_2)]), (.agg [(.int .i64 a3_0), (.int .i64 a3_1), (.int .i64 a3_2), (.int .i64 a3_3), (.int .i64 a3_4)])]) fun (v3 : Int) =>
clT q4 (cl 25 [(.agg [a0_0, a0_1, (.int .i64 a0_2)]), (.sl true 2 [(.int .i64 v1), (.int .i64 v3)])]) fun (v5 : Int) =>
clT q4 (cl 25 [(.agg [a0_0, a0_1, (.int .i64 a0_2)]), (.sl true 2 [(.int .i64 a2_4), (.int .i64 a3_4)])]) fun (v7 : Int) =>
clT q4 (cl 25 [(.agg [a0_0, a0_1, (.int .i64 a0_2)]), (.sl true 2 [(.int .i64 v5), (.int .i64 v7)])]) fun (v9 : Int) =>
clT q18 (cl 56 [(.agg [a0_0, a0_1, (.int .i64 a0_2)]), (.agg [(.int .i64 a2_0), (.int .i64 a2_1), (.int .i64 a2_2), (.int .i64 a2_3), (.int .i64 a2_4)]), (.agg [(.int .i64 a3_0), (.int .i64 a3_1), (.int .i64 a3_2), (.int .i64 a3_3), (.int .i64 a3_4)])]) fun (v11 : (Int × Int × Unit)) =>
bj (α := (Unit × Unit × Unit × Unit × Int × Int × Int × Int × Int × Int × Bool × Unit) × ((Int × Int × Unit) × (Int × Int × Unit) × (Int × Int × Unit) × (Int × Int × Unit) × (Int × Int × Int × Int × Int × Unit) × (Int × Int × Int × Int × Int × Unit) × (D × D × Int × Unit) × Unit)) (
bif (eqZ a1 33) then (
some (.inl (((), (), (), (), v9, a0_2, v5, v7, v9, a1, (eqZ a1 33), ()), ((v5, v7, ()), (a2_4, a3_4, ()), (v1, v3, ()), (v11.1, v11.2.1, ()), (a3_0, a3_1, a3_2, a3_3, a3_4, ()), (a2_0, a2_1, a2_2, a2_3, a2_4, ()), (a0_0, a0_1, a0_2, ()), ())))) else (
some (.inl (((), (), (), (), v9, a0_2, v5, v7, v9, a1, (eqZ a1 34), ()), ((v5, v7, ()), (a2_4, a3_4, ()), (v1, v3, ()), (v11.1, v11.2.1, ()), (a3_0, a3_1, a3_2, a3_3, a3_4, ()), (a2_0, a2_1, a2_2, a2_3, a2_4, ()), (a0_0, a0_1, a0_2, ()), ()))))) fun (((_, _, _, _, t9v12, t10v12, t11v12, t12v12, t13v12, t43v12, t56v12, _), ((b2003v12_0, b2003v12_1, _), (b1014v12_0, b1014v12_1, _), (b1007v12_0, b1007v12_1, _), (b3v12_0, b3v12_1, _), (b2v12_0, b2v12_1, b2v12_2, b2v12_3, b2v12_4, _), (b1v12_0, b1v12_1, b1v12_2, b1v12_3, b1v12_4, _), (b0v12_0, b0v12_1, b0v12_2, _), _)) : (Unit × Unit × Unit × Unit × Int × Int × Int × Int × Int × Int × Bool × Unit) × ((Int × Int × Unit) × (Int × Int × Unit) × (Int × Int × Unit) × (Int × Int × Unit) × (Int × Int × Int × Int × Int × Unit) × (Int × Int × Int × Int × Int × Unit) × (D × D × Int × Unit) × Unit)) =>
bif t56v12 then (
clT q18 (cl 55 [(.agg [b0v12_0, b0v12_1, (.int .i64 b0v12_2)]), (.sl true 2 [(.int .i64 b1v12_4), (.int .i64 b2v12_2)])]) fun (v14 : (Int × Int × Unit)) =>
some (.tup [(.agg [(.int .i64 v14.1), (.int .i64 v14.2.1)]), (.int .i64 t9v12), (.int .i64 t10v12)])) else (
bif (eqZ t43v12 35) then (
clT q18 (cl 55 [(.agg [b0v12_0, b0v12_1, (.int .i64 b0v12_2)]), (.sl true 1 [(.int .i64 b1v12_4)])]) fun (v16 : (Int × Int × Unit)) =>
some (.tup [(.agg [(.int .i64 v16.1), (.int .i64 v16.2.1)]), (.int .i64 t12v12), (.int .i64 b1v12_4)])) else (
bif (eqZ t43v12 36) then (
clT q4 (cl 25 [(.agg [b0v12_0, b0v12_1, (.int .i64 b0v12_2)]), (.sl true 2 [(.int .i64 b1v12_4), (.int .i64 b1v12_2)])]) fun (v18 : Int) =>
clT q4 (cl 25 [(.agg [b0v12_0, b0v12_1, (.int .i64 b0v12_2)]), (.sl true 2 [(.int .i64 v18), (.int .i64 b2v12_2)])]) fun (v20 : Int) =>
some (.tup [(.agg [(.int .i64 v18), (.int .i64 v18)]), (.int .i64 t9v12), (.int .i64 v20)])) else (
bif (eqZ t43v12 37) then (
some (.tup [(.agg [(.int .i64 b3v12_0), (.int .i64 b3v12_1)]), (.int .i64 t9v12), (.int .i64 t11v12)])) else (
bif (eqZ t43v12 38) then (
clT q18 (cl 54 [(.agg [b0v12_0, b0v12_1, (.int .i64 b0v12_2)]), (.agg [(.int .i64 b2v12_0), (.int .i64 b2v12_1), (.int .i64 b2v12_2), (.int .i64 b2v12_3), (.int .i64 b2v12_4)])]) fun (v22 : (Int × Int × Unit)) =>
clT q4 (cl 25 [(.agg [b0v12_0, b0v12_1, (.int .i64 b0v12_2)]), (.sl true 2 [(.int .i64 b2v12_4), (.int .i64 t11v12)])]) fun (v24 : Int) =>
some (.tup [(.agg [(.int .i64 v22.1), (.int .i64 v22.2.1)]), (.int .i64 t9v12), (.int .i64 v24)])) else (
bif (eqZ t43v12 39) then (
clT q18 (cl 54 [(.agg [b0v12_0, b0v12_1, (.int .i64 b0v12_2)]), (.agg [(.int .i64 b1v12_0), (.int .i64 b1v12_1), (.int .i64 b1v12_2), (.int .i64 b1v12_3), (.int .i64 b1v12_4)])]) fun (v26 : (Int × Int × Unit)) =>
some (.tup [(.agg [(.int .i64 v26.1), (.int .i64 v26.2.1)]), (.int .i64 t9v12), (.int .i64 t10v12)])) else (
bif (eqZ t43v12 40) then (
clT q18 (cl 55 [(.agg [b0v12_0, b0v12_1, (.int .i64 b0v12_2)]), (.sl true 2 [(.int .i64 t11v12), (.int .i64 b1v12_4)])]) fun (v28 : (Int × Int × Unit)) =>
some (.tup [(.agg [(.int .i64 v28.1), (.int .i64 v28.2.1)]), (.int .i64 t9v12), (.int .i64 t11v12)])) else (
bj (α := (Unit × Unit × Unit × Int × Int × Int × Int × Bool × Unit) × ((Int × Int × Unit) × (Int × Int × Unit) × (Int × Int × Unit) × (Int × Int × Unit) × (Int × Int × Int × Int × Int × Unit) × (Int × Int × Int × Int × Int × Unit) × (D × D × Int × Unit) × Unit)) (
bif (eqZ t43v12 15) then (
some (.inl (((), (), (), t10v12, t11v12, t12v12, t13v12, (eqZ t43v12 15), ()), ((b2003v12_0, b2003v12_1, ()), (b1014v12_0, b1014v12_1, ()), (b1007v12_0, b1007v12_1, ()), (b3v12_0, b3v12_1, ()), (b2v12_0, b2v12_1, b2v12_2, b2v12_3, b2v12_4, ()), (b1v12_0, b1v12_1, b1v12_2, b1v12_3, b1v12_4, ()), (b0v12_0, b0v12_1, b0v12_2, ()), ())))) else (
bif (eqZ t43v12 16) then (
some (.inl (((), (), (), t10v12, t11v12, t12v12, t13v12, (eqZ t43v12 16), ()), ((b2003v12_0, b2003v12_1, ()), (b1014v12_0, b1014v12_1, ()), (b1007v12_0, b1007v12_1, ()), (b3v12_0, b3v12_1, ()), (b2v12_0, b2v12_1, b2v12_2, b2v12_3, b2v12_4, ()), (b1v12_0, b1v12_1, b1v12_2, b1v12_3, b1v12_4, ()), (b0v12_0, b0v12_1, b0v12_2, ()), ())))) else (
bif (eqZ t43v12 17) then (
some (.inl (((), (), (), t10v12, t11v12, t12v12, t13v12, (eqZ t43v12 17), ()), ((b2003v12_0, b2003v12_1, ()), (b1014v12_0, b1014v12_1, ()), (b1007v12_0, b1007v12_1, ()), (b3v12_0, b3v12_1, ()), (b2v12_0, b2v12_1, b2v12_2, b2v12_3, b2v12_4, ()), (b1v12_0, b1v12_1, b1v12_2, b1v12_3, b1v12_4, ()), (b0v12_0, b0v12_1, b0v12_2, ()), ())))) else (
bif (eqZ t43v12 18) then (
some (.inl (((), (), (), t10v12, t11v12, t12v12, t13v12, (eqZ t43v12 18), ()), ((b2003v12_0, b2003v12_1, ()), (b1014v12_0, b1014v12_1, ()), (b1007v12_0, b1007v12_1, ()), (b3v12_0, b3v12_1, ()), (b2v12_0, b2v12_1, b2v12_2, b2v12_3, b2v12_4, ()), (b1v12_0, b1v12_1, b1v12_2, b1v12_3, b1v12_4, ()), (b0v12_0, b0v12_1, b0v12_2, ()), ())))) else (
some (.inl (((), (), (), t10v12, t11v12, t12v12, t13v12, (eqZ t43v12 19), ()), ((b2003v12_0, b2003v12_1, ()), (b1014v12_0, b1014v12_1, ()), (b1007v12_0, b1007v12_1, ()), (b3v12_0, b3v12_1, ()), (b2v12_0, b2v12_1, b2v12_2, b2v12_3, b2v12_4, ()), (b1v12_0, b1v12_1, b1v12_2, b1v12_3, b1v12_4, ()), (b0v12_0, b0v12_1, b0v12_2, ()), ())))))))) fun (((_, _, _, t10v29, t11v29, t12v29, t13v29, t125v29, _), ((b2003v29_0, b2003v29_1, _), (b1014v29_0, b1014v29_1, _), (b1007v29_0, b1007v29_1, _), (b3v29_0, b3v29_1, _), (b2v29_0, b2v29_1, b2v29_2, b2v29_3, b2v29_4, _), (b1v29_0, b1v29_1, b1v29_2, b1v29_3, b1v29_4, _), (b0v29_0, b0v29_1, b0v29_2, _), _)) : (Unit × Unit × Unit × Int × Int × Int × Int × Bool × Unit) × ((Int × Int × Unit) × (Int × Int × Unit) × (Int × Int × Unit) × (Int × Int × Unit) × (Int × Int × Int × Int × Int × Unit) × (Int × Int × Int × Int × Int × Unit) × (D × D × Int × Unit) × Unit)) =>
bif t125v29 then (
some (.tup [(.agg [(.int .i64 b3v29_0), (.int .i64 b3v29_1)]), (.int .i64 t12v29), (.int .i64 t13v29)])) else (
bif (eqZ b1v29_1 b2v29_1) then (
bif (ltZ 0 b1v29_1) then (
some (.tup [(.agg [(.int .i64 b3v29_0), (.int .i64 b3v29_1)]), (.int .i64 t12v29), (.int .i64 t11v29)])) else (
some (.tup [(.agg [(.int .i64 b3v29_0), (.int .i64 b3v29_1)]), (.int .i64 t12v29), (.int .i64 t10v29)]))) else (
some (.tup [(.agg [(.int .i64 b3v29_0), (.int .i64 b3v29_1)]), (.int .i64 t12v29), (.int .i64 t10v29)]))))))))))
theorem S24_eq (lp : Lp) (cl : CL) (a0_0 : D) (a0_1 : D) (a0_2 : Int) (a1 : Int) (a2_0 : Int) (a2_1 : Int) (a2_2 : Int) (a2_3 : Int) (a2_4 : Int) (a3_0 : Int) (a3_1 : Int) (a3_2 : Int) (a3_3 : Int) (a3_4 : Int) : runS lp Tryz.prog TryzG cl 24 [(.agg [(.fz a0_0), (.fz a0_1), (.int .i64 a0_2)]), (.int .i64 a1), (.agg [(.int .i64 a2_0), (.int .i64 a2_1), (.int .i64 a2_2), (.int .i64 a2_3), (.int .i64 a2_4)]), (.agg [(.int .i64 a3_0), (.int .i64 a3_1), (.int .i64 a3_2), (.int .i64 a3_3), (.int .i64 a3_4)])] = S24 lp cl a0_0 a0_1 a0_2 a1 a2_0 a2_1 a2_2 a2_3 a2_4 a3_0 a3_1 a3_2 a3_3 a3_4 := by kernel_rfl
def S24_w (lp : Lp) (cl : CL) (args : List D) : Option D := bd (Sh.gds [(.agg [.fz, .fz, (.int .i64)]), (.int .i64), (.agg [(.int .i64), (.int .i64), (.int .i64), (.int .i64), (.int .i64)]), (.agg [(.int .i64), (.int .i64), (.int .i64), (.int .i64), (.int .i64)])] args) fun v => S24 lp cl v.1.1 v.1.2.1 v.1.2.2.1 v.2.1 v.2.2.1.1 v.2.2.1.2.1 v.2.2.1.2.2.1 v.2.2.1.2.2.2.1 v.2.2.1.2.2.2.2.1 v.2.2.2.1.1 v.2.2.2.1.2.1 v.2.2.2.1.2.2.1 v.2.2.2.1.2.2.2.1 v.2.2.2.1.2.2.2.2.1
theorem S24_t : TabE TryzE 24 S24_w := tab_of (by kernel_rfl) fun lp cl v => S24_eq lp cl v.1.1 v.1.2.1 v.1.2.2.1 v.2.1 v.2.2.1.1 v.2.2.1.2.1 v.2.2.1.2.2.1 v.2.2.1.2.2.2.1 v.2.2.1.2.2.2.2.1 v.2.2.2.1.1 v.2.2.2.1.2.1 v.2.2.2.1.2.2.1 v.2.2.2.1.2.2.2.1 v.2.2.2.1.2.2.2.2.1

/- 30 invigilator/invigilatorref27.one -/
def S30 (lp : Lp) (cl : CL) (a0_0 : D) (a0_1 : D) (a1 : Int) (a2_0 : Int) (a2_1 : Int) (a2_2 : Int) (a2_3 : Int) (a2_4 : Int) : Option D :=
clT q4 (cl 29 [(.agg [a0_0, a0_1]), (.agg [(.int .i64 a2_0), (.int .i64 a2_1), (.int .i64 a2_2), (.int .i64 a2_3), (.int .i64 a2_4)])]) fun (v1 : Int) =>
clT q4 (cl 32 [(.agg [a0_0, a0_1]), .nils]) fun (v3 : Int) =>
clT q4 (cl 32 [(.agg [a0_0, a0_1]), (.sl true 2 [(.int .i64 a2_4), (.int .i64 v1)])]) fun (v5 : Int) =>
lp.run (fun (((t1v6, _, _, _, t9v6, t10v6, t11v6, _, _, t14v6, _), ((b4001v6_0, b4001v6_1, _), (b3003v6_0, b3003v6_1, _), (b2v6_0, b2v6_1, _), (b1v6_0, b1v6_1, b1v6_2, b1v6_3, b1v6_4, _), (b0v6_0, b0v6_1, _), _)) : (Int × Unit × Unit × Unit × Int × Int × Int × Unit × Unit × Int × Unit) × ((Int × Int × Unit) × (Int × Int × Unit) × (Int × Int × Unit) × (Int × Int × Int × Int × Int × Unit) × (D × D × Unit) × Unit)) =>
bif (ltZ t14v6 b1v6_1) then (
bd (idxD 2 (.int .i64 t14v6)) fun v7 =>
tkT q4 [(.int .i64 b1v6_0), (.int .i64 b1v6_1), (.int .i64 b1v6_2), (.int .i64 b1v6_3), (.int .i64 b1v6_4)] (2 + v7 * 1) none fun (v9 : Int) =>
bd (idxD 2 (.int .i64 t14v6)) fun v10 =>
bd (inR (0 + v10 * 1) 1 2) fun _ =>
bd (Sh.gds [(.int .i64), (.int .i64)] (setQ [(.int .i64 b4001v6_0), (.int .i64 b4001v6_1)] (0 + v10 * 1) [(.int .i64 v9)])) fun (v11 : (Int × Int × Unit)) =>
some (.inl ((t1v6, (), (), (), t9v6, t10v6, t11v6, (), (), (wrapD .i64 (t14v6 + 1)), ()), (v11, (b3003v6_0, b3003v6_1, ()), (b2v6_0, b2v6_1, ()), (b1v6_0, b1v6_1, b1v6_2, b1v6_3, b1v6_4, ()), (b0v6_0, b0v6_1, ()), ())))) else (
rt (
bj (α := (Int × Unit × Unit × Unit × Int × Int × Int × Unit × Unit × Unit × Unit) × ((Int × Int × Unit) × (Int × Int × Unit) × (Int × Int × Unit) × (Int × Int × Unit) × (Int × Int × Int × Int × Int × Unit) × (D × D × Unit) × Unit)) (
bif (eqZ b1v6_1 2) then (
some (.inl ((t1v6, (), (), (), t9v6, t10v6, t11v6, (), (), (), ()), ((b1v6_2, b3003v6_1, ()), (b4001v6_0, b4001v6_1, ()), (b3003v6_0, b3003v6_1, ()), (b2v6_0, b2v6_1, ()), (b1v6_0, b1v6_1, b1v6_2, b1v6_3, b1v6_4, ()), (b0v6_0, b0v6_1, ()), ())))) else (
some (.inl ((t1v6, (), (), (), t9v6, t10v6, t11v6, (), (), (), ()), ((b3003v6_0, b3003v6_1, ()), (b4001v6_0, b4001v6_1, ()), (b3003v6_0, b3003v6_1, ()), (b2v6_0, b2v6_1, ()), (b1v6_0, b1v6_1, b1v6_2, b1v6_3, b1v6_4, ()), (b0v6_0, b0v6_1, ()), ()))))) fun (((t1v12, _, _, _, t9v12, t10v12, t11v12, _, _, _, _), ((b9001v12_0, b9001v12_1, _), (b4001v12_0, b4001v12_1, _), (b3003v12_0, b3003v12_1, _), (b2v12_0, b2v12_1, _), (b1v12_0, b1v12_1, b1v12_2, b1v12_3, b1v12_4, _), (b0v12_0, b0v12_1, _), _)) : (Int × Unit × Unit × Unit × Int × Int × Int × Unit × Unit × Unit × Unit) × ((Int × Int × Unit) × (Int × Int × Unit) × (Int × Int × Unit) × (Int × Int × Unit) × (Int × Int × Int × Int × Int × Unit) × (D × D × Unit) × Unit)) =>
bj (α := (Unit × Unit × Unit × Int × Int × Int × Unit × Unit × Unit × Int × Bool × Unit) × ((Int × Int × Unit) × (Int × Int × Unit) × (Int × Int × Unit) × (Int × Int × Unit) × (Int × Int × Int × Int × Int × Unit) × (D × D × Unit) × Unit)) (
bif (eqZ t1v12 1) then (
some (.inl (((), (), (), t9v12, t10v12, t11v12, (), (), (), t1v12, (eqZ t1v12 1), ()), ((b9001v12_0, b9001v12_1, ()), (b4001v12_0, b4001v12_1, ()), (b3003v12_0, b3003v12_1, ()), (b2v12_0, b2v12_1, ()), (b1v12_0, b1v12_1, b1v12_2, b1v12_3, b1v12_4, ()), (b0v12_0, b0v12_1, ()), ())))) else (
some (.inl (((), (), (), t9v12, t10v12, t11v12, (), (), (), t1v12, (eqZ t1v12 2), ()), ((b9001v12_0, b9001v12_1, ()), (b4001v12_0, b4001v12_1, ()), (b3003v12_0, b3003v12_1, ()), (b2v12_0, b2v12_1, ()), (b1v12_0, b1v12_1, b1v12_2, b1v12_3, b1v12_4, ()), (b0v12_0, b0v12_1, ()), ()))))) fun (((_, _, _, t9v13, t10v13, t11v13, _, _, _, t51v13, t52v13, _), ((b9001v13_0, b9001v13_1, _), (b4001v13_0, b4001v13_1, _), (b3003v13_0, b3003v13_1, _), (b2v13_0, b2v13_1, _), (b1v13_0, b1v13_1, b1v13_2, b1v13_3, b1v13_4, _), (b0v13_0, b0v13_1, _), _)) : (Unit × Unit × Unit × Int × Int × Int × Unit × Unit × Unit × Int × Bool × Unit) × ((Int × Int × Unit) × (Int × Int × Unit) × (Int × Int × Unit) × (Int × Int × Unit) × (Int × Int × Int × Int × Int × Unit) × (D × D × Unit) × Unit)) =>
bif t52v13 then (
some (.tup [(.agg [(.int .i64 b4001v13_0), (.int .i64 b4001v13_1)]), (.int .i64 b1v13_4), (.int .i64 t11v13)])) else (
bif (eqZ t51v13 7) then (
some (.tup [(.agg [(.int .i64 b1v13_3), (.int .i64 b1v13_2)]), (.int .i64 b1v13_4), (.int .i64 t10v13)])) else (
bif (eqZ t51v13 4) then (
some (.tup [(.agg [(.int .i64 b3003v13_0), (.int .i64 b3003v13_1)]), (.int .i64 t9v13), (.int .i64 t10v13)])) else (
bif (eqZ t51v13 5) then (
some (.tup [(.agg [(.int .i64 t9v13), (.int .i64 t10v13)]), (.int .i64 b1v13_4), (.int .i64 t10v13)])) else (
bif (eqZ t51v13 8) then (
some (.tup [(.agg [(.int .i64 b1v13_4), (.int .i64 t10v13)]), (.int .i64 b1v13_4), (.int .i64 b1v13_4)])) else (
bif (eqZ t51v13 9) then (
clT q4 (cl 62 [(.agg [(.int .i64 b1v13_0), (.int .i64 b1v13_1), (.int .i64 b1v13_2), (.int .i64 b1v13_3), (.int .i64 b1v13_4)])]) fun (v15 : Int) =>
clT q4 (cl 32 [(.agg [b0v13_0, b0v13_1]), (.sl true 2 [(.int .i64 b1v13_4), (.int .i64 v15)])]) fun (v17 : Int) =>
some (.tup [(.agg [(.int .i64 b9001v13_0), (.int .i64 b9001v13_1)]), (.int .i64 v17), (.int .i64 t11v13)])) else (
bj (α := (Unit × Unit × Unit × Int × Int × Int × Unit × Unit × Int × Bool × Unit) × ((Int × Int × Unit) × (Int × Int × Unit) × (Int × Int × Unit) × (Int × Int × Unit) × (Int × Int × Int × Int × Int × Unit) × (D × D × Unit) × Unit)) (
bif (eqZ t51v13 10) then (
some (.inl (((), (), (), t9v13, t10v13, t11v13, (), (), t51v13, (eqZ t51v13 10), ()), ((b9001v13_0, b9001v13_1, ()), (b4001v13_0, b4001v13_1, ()), (b3003v13_0, b3003v13_1, ()), (b2v13_0, b2v13_1, ()), (b1v13_0, b1v13_1, b1v13_2, b1v13_3, b1v13_4, ()), (b0v13_0, b0v13_1, ()), ())))) else (
some (.inl (((), (), (), t9v13, t10v13, t11v13, (), (), t51v13, (eqZ t51v13 11), ()), ((b9001v13_0, b9001v13_1, ()), (b4001v13_0, b4001v13_1, ()), (b3003v13_0, b3003v13_1, ()), (b2v13_0, b2v13_1, ()), (b1v13_0, b1v13_1, b1v13_2, b1v13_3, b1v13_4, ()), (b0v13_0, b0v13_1, ()), ()))))) fun (((_, _, _, t9v18, t10v18, t11v18, _, _, t51v18, t105v18, _), ((b9001v18_0, b9001v18_1, _), (b4001v18_0, b4001v18_1, _), (b3003v18_0, b3003v18_1, _), (b2v18_0, b2v18_1, _), (b1v18_0, b1v18_1, b1v18_2, b1v18_3, b1v18_4, _), (b0v18_0, b0v18_1, _), _)) : (Unit × Unit × Unit × Int × Int × Int × Unit × Unit × Int × Bool × Unit) × ((Int × Int × Unit) × (Int × Int × Unit) × (Int × Int × Unit) × (Int × Int × Unit) × (Int × Int × Int × Int × Int × Unit) × (D × D × Unit) × Unit)) =>
bif t105v18 then (
clT q4 (cl 62 [(.agg [(.int .i64 b1v18_0), (.int .i64 b1v18_1), (.int .i64 b1v18_2), (.int .i64 b1v18_3), (.int .i64 b1v18_4)])]) fun (v20 : Int) =>
clT q4 (cl 32 [(.agg [b0v18_0, b0v18_1]), (.sl true 2 [(.int .i64 b1v18_4), (.int .i64 v20)])]) fun (v22 : Int) =>
some (.tup [(.agg [(.int .i64 b9001v18_0), (.int .i64 b9001v18_1)]), (.int .i64 v22), (.int .i64 t9v18)])) else (
bif (eqZ t51v18 12) then (
some (.tup [(.agg [(.int .i64 b9001v18_0), (.int .i64 b9001v18_1)]), (.int .i64 t9v18), (.int .i64 t10v18)])) else (
bif (eqZ t51v18 13) then (
some (.tup [(.agg [(.int .i64 b4001v18_0), (.int .i64 b4001v18_1)]), (.int .i64 t11v18), (.int .i64 t11v18)])) else (
bif (eqZ t51v18 14) then (
clT q4 (cl 62 [(.agg [(.int .i64 b1v18_0), (.int .i64 b1v18_1), (.int .i64 b1v18_2), (.int .i64 b1v18_3), (.int .i64 b1v18_4)])]) fun (v24 : Int) =>
clT q4 (cl 32 [(.agg [b0v18_0, b0v18_1]), (.sl true 2 [(.int .i64 b1v18_4), (.int .i64 v24)])]) fun (v26 : Int) =>
some (.tup [(.agg [(.int .i64 b4001v18_0), (.int .i64 b4001v18_1)]), (.int .i64 v26), (.int .i64 t10v18)])) else (
some (.tup [(.agg [(.int .i64 b4001v18_0), (.int .i64 b4001v18_1)]), (.int .i64 b1v18_4), (.int .i64 t10v18)])))))))))))))) ((a1, (), (), (), v1, v3, v5, (), (), (0 : Int), ()), ((v3, v3, ()), (v3, v3, ()), ((0 : Int), (0 : Int), ()), (a2_0, a2_1, a2_2, a2_3, a2_4, ()), (a0_0, a0_1, ()), ()))
theorem S30_eq (lp : Lp) (cl : CL) (a0_0 : D) (a0_1 : D) (a1 : Int) (a2_0 : Int) (a2_1 : Int) (a2_2 : Int) (a2_3 : Int) (a2_4 : Int) : runS lp Tryz.prog TryzG cl 30 [(.agg [(.fz a0_0), (.fz a0_1)]), (.int .i64 a1), (.agg [(.int .i64 a2_0), (.int .i64 a2_1), (.int .i64 a2_2), (.int .i64 a2_3), (.int .i64 a2_4)])] = S30 lp cl a0_0 a0_1 a1 a2_0 a2_1 a2_2 a2_3 a2_4 := by kernel_rfl
def S30_w (lp : Lp) (cl : CL) (args : List D) : Option D := bd (Sh.gds [(.agg [.fz, .fz]), (.int .i64), (.agg [(.int .i64), (.int .i64), (.int .i64), (.int .i64), (.int .i64)])] args) fun v => S30 lp cl v.1.1 v.1.2.1 v.2.1 v.2.2.1.1 v.2.2.1.2.1 v.2.2.1.2.2.1 v.2.2.1.2.2.2.1 v.2.2.1.2.2.2.2.1
theorem S30_t : TabE TryzE 30 S30_w := tab_of (by kernel_rfl) fun lp cl v => S30_eq lp cl v.1.1 v.1.2.1 v.2.1 v.2.2.1.1 v.2.2.1.2.1 v.2.2.1.2.2.1 v.2.2.1.2.2.2.1 v.2.2.1.2.2.2.2.1

/- 33 invigilator/invigilatorref03.Join -/
def S33 (lp : Lp) (cl : CL) (a0_0 : D) (a0_1 : D) (a1 : Int) (a2 : Int) : Option D :=
clT q4 (cl 64 [(.agg [a0_0, a0_1]), (.int .i64 a1), (.int .i64 a2)]) fun (v1 : Int) =>
bif (!(eqZ v1 0)) then (
some (.tup [(.int .i64 0), (.int .i64 v1)])) else (
clT q4 (cl 65 [(.agg [a0_0, a0_1]), (.int .i64 a1), (.int .i64 a2)]) fun (v3 : Int) =>
some (.tup [(.int .i64 v3), (.int .i64 0)]))
theorem S33_eq (lp : Lp) (cl : CL) (a0_0 : D) (a0_1 : D) (a1 : Int) (a2 : Int) : runS lp Tryz.prog TryzG cl 33 [(.agg [(.fz a0_0), (.fz a0_1)]), (.int .i64 a1), (.int .i64 a2)] = S33 lp cl a0_0 a0_1 a1 a2 := by kernel_rfl
def S33_w (lp : Lp) (cl : CL) (args : List D) : Option D := bd (Sh.gds [(.agg [.fz, .fz]), (.int .i64), (.int .i64)] args) fun v => S33 lp cl v.1.1 v.1.2.1 v.2.1 v.2.2.1
theorem S33_t : TabE TryzE 33 S33_w := tab_of (by kernel_rfl) fun lp cl v => S33_eq lp cl v.1.1 v.1.2.1 v.2.1 v.2.2.1

/- 36 invigilator/invigilatorref03.Bottom -/
def S36 (lp : Lp) (cl : CL) (a0_0 : D) (a0_1 : D) : Option D :=
clT q4 (cl 64 [(.agg [a0_0, a0_1]), (.int .i64 0), (.int .i64 0)]) fun (v1 : Int) =>
bif (!(eqZ v1 0)) then (
some (.tup [(.int .i64 0), (.int .i64 v1)])) else (
clT q19 (cl 60 [(.agg [a0_0, a0_1])]) fun (v3 : D) =>
lp.run (fun (((_, t5v4, t6v4, t7v4, _), ((b0v4_0, b0v4_1, _), _)) : (Unit × D × Int × Int × Unit) × ((D × D × Unit) × Unit)) =>
bd (lenD false b0v4_0) fun v5 =>
bif (ltZ t7v4 (v5 : Int)) then (
clT q4 (cl 61 [t5v4, (.int .i64 t7v4), (.int .i64 t6v4)]) fun (v7 : Int) =>
some (.inl (((), t5v4, v7, (wrapD .i64 (t7v4 + 1)), ()), ((b0v4_0, b0v4_1, ()), ())))) else (
rt (
some (.tup [(.int .i64 t6v4), (.int .i64 0)])))) (((), v3, (0 : Int), (0 : Int), ()), ((a0_0, a0_1, ()), ())))
theorem S36_eq (lp : Lp) (cl : CL) (a0_0 : D) (a0_1 : D) : runS lp Tryz.prog TryzG cl 36 [(.agg [(.fz a0_0), (.fz a0_1)])] = S36 lp cl a0_0 a0_1 := by kernel_rfl
def S36_w (lp : Lp) (cl : CL) (args : List D) : Option D := bd (Sh.gds [(.agg [.fz, .fz])] args) fun v => S36 lp cl v.1.1 v.1.2.1
theorem S36_t : TabE TryzE 36 S36_w := tab_of (by kernel_rfl) fun lp cl v => S36_eq lp cl v.1.1 v.1.2.1

/- 37 invigilator/invigilatorref03.Below -/
def S37 (lp : Lp) (cl : CL) (a0_0 : D) (a0_1 : D) (a1 : Int) (a2 : Int) : Option D :=
bif (leZ 0 a1) then (
bd (lenD false a0_1) fun v0 =>
bif (ltZ a1 (v0 : Int)) then (
bif (leZ 0 a2) then (
ixT q13 1 a0_1 (.int .i64 a1) none fun (v3 : Int) =>
bd (shrD .u8 v3 a2) fun v4 =>
bd (remD v4 2) fun v5 =>
some (.bool (eqZ v5 1))) else (
some (.bool false))) else (
some (.bool false))) else (
some (.bool false))
theorem S37_eq (lp : Lp) (cl : CL) (a0_0 : D) (a0_1 : D) (a1 : Int) (a2 : Int) : runS lp Tryz.prog TryzG cl 37 [(.agg [(.fz a0_0), (.fz a0_1)]), (.int .i64 a1), (.int .i64 a2)] = S37 lp cl a0_0 a0_1 a1 a2 := by kernel_rfl
def S37_w (lp : Lp) (cl : CL) (args : List D) : Option D := bd (Sh.gds [(.agg [.fz, .fz]), (.int .i64), (.int .i64)] args) fun v => S37 lp cl v.1.1 v.1.2.1 v.2.1 v.2.2.1
theorem S37_t : TabE TryzE 37 S37_w := tab_of (by kernel_rfl) fun lp cl v => S37_eq lp cl v.1.1 v.1.2.1 v.2.1 v.2.2.1

/- 40 invigilator/invigilatorref12.Arity -/
def S40 (lp : Lp) (cl : CL) (a0 : Int) : Option D :=
bj (α := (Int × Unit) × (Unit)) (
bif (ltZ a0 1) then (
rt (
some (.tup [(.int .i64 0), (.int .i64 2)]))) else (
bif (ltZ 40 a0) then (
rt (
some (.tup [(.int .i64 0), (.int .i64 2)]))) else (
some (.inl ((a0, ()), (())))))) fun (((t0v0, _), (_)) : (Int × Unit) × (Unit)) =>
bif (leZ t0v0 14) then (
some (.tup [(.int .i64 1), (.int .i64 0)])) else (
some (.tup [(.int .i64 2), (.int .i64 0)]))
theorem S40_eq (lp : Lp) (cl : CL) (a0 : Int) : runS lp Tryz.prog TryzG cl 40 [(.int .i64 a0)] = S40 lp cl a0 := by kernel_rfl
def S40_w (lp : Lp) (cl : CL) (args : List D) : Option D := bd (Sh.gds [(.int .i64)] args) fun v => S40 lp cl v.1
theorem S40_t : TabE TryzE 40 S40_w := tab_of (by kernel_rfl) fun lp cl v => S40_eq lp cl v.1

/- 43 invigilator/invigilatorref12.kind -/
def S43 (lp : Lp) (cl : CL) (a0 : Int) (a1 : D) : Option D :=
bj (α := (D × Int × Bool × Unit) × (Unit)) (
bif (eqZ a0 5) then (
some (.inl ((a1, a0, (eqZ a0 5), ()), (())))) else (
bif (eqZ a0 6) then (
some (.inl ((a1, a0, (eqZ a0 6), ()), (())))) else (
bif (eqZ a0 7) then (
some (.inl ((a1, a0, (eqZ a0 7), ()), (())))) else (
bif (eqZ a0 37) then (
some (.inl ((a1, a0, (eqZ a0 37), ()), (())))) else (
some (.inl ((a1, a0, (eqZ a0 38), ()), (())))))))) fun (((t1v0, t5v0, t6v0, _), (_)) : (D × Int × Bool × Unit) × (Unit)) =>
bif t6v0 then (
ixT q4 1 t1v0 (.int .i64 0) none fun (v3 : Int) =>
some (.int .i64 v3)) else (
bif (eqZ t5v0 33) then (
bif (eqZ t5v0 33) then (
ixT q4 1 t1v0 (.int .i64 1) none fun (v6 : Int) =>
some (.int .i64 v6)) else (
some (.int .i64 1))) else (
bif (eqZ t5v0 34) then (
bif (eqZ t5v0 34) then (
ixT q4 1 t1v0 (.int .i64 1) none fun (v9 : Int) =>
some (.int .i64 v9)) else (
some (.int .i64 1))) else (
bif (eqZ t5v0 35) then (
bif (eqZ t5v0 35) then (
ixT q4 1 t1v0 (.int .i64 1) none fun (v12 : Int) =>
some (.int .i64 v12)) else (
some (.int .i64 1))) else (
bif (eqZ t5v0 36) then (
bif (eqZ t5v0 36) then (
ixT q4 1 t1v0 (.int .i64 1) none fun (v15 : Int) =>
some (.int .i64 v15)) else (
some (.int .i64 1))) else (
bif (eqZ t5v0 40) then (
ixT q4 1 t1v0 (.int .i64 1) none fun (v18 : Int) =>
some (.int .i64 v18)) else (
some (.int .i64 1)))))))
theorem S43_eq (lp : Lp) (cl : CL) (a0 : Int) (a1 : D) : runS lp Tryz.prog TryzG cl 43 [(.int .i64 a0), (.fz a1)] = S43 lp cl a0 a1 := by kernel_rfl
def S43_w (lp : Lp) (cl : CL) (args : List D) : Option D := bd (Sh.gds [(.int .i64), .fz] args) fun v => S43 lp cl v.1 v.2.1
theorem S43_t : TabE TryzE 43 S43_w := tab_of (by kernel_rfl) fun lp cl v => S43_eq lp cl v.1 v.2.1

/- 58 invigilator/invigilatorref03.names -/
def S58 (lp : Lp) (cl : CL) (a0 : D) : Option D :=
bj (α := (D × Unit) × (Unit)) (
bd (lenD false a0) fun v1 =>
bif (ltZ (v1 : Int) 1) then (
rt (
some (.tup [(.int .i64 (-1)), (.int .i64 3)]))) else (
bd (lenD false a0) fun v2 =>
bif (ltZ 8 (v2 : Int)) then (
rt (
some (.tup [(.int .i64 (-1)), (.int .i64 3)]))) else (
some (.inl ((a0, ()), (())))))) fun (((t0v0, _), (_)) : (D × Unit) × (Unit)) =>
lp.run (fun (((t0v3, t4v3, _), (_)) : (D × Int × Unit) × (Unit)) =>
bd (lenD false t0v3) fun v4 =>
bif (ltZ t4v3 (v4 : Int)) then (
ixT q12 1 t0v3 (.int .i64 t4v3) none fun (v7 : List UInt8) =>
clT q0 (cl 76 [(.str v7)]) fun (v9 : Bool) =>
bif (!v9) then (
rt (
some (.tup [(.int .i64 t4v3), (.int .i64 6)]))) else (
lp.run (fun (((t0v10, t4v10, t5v10, _), (_)) : (D × Int × Int × Unit) × (Unit)) =>
bif (ltZ t5v10 t4v10) then (
ixT q12 1 t0v10 (.int .i64 t5v10) none fun (v13 : List UInt8) =>
ixT q12 1 t0v10 (.int .i64 t4v10) none fun (v16 : List UInt8) =>
bif (eqS v13 v16) then (
rt (
rt (
some (.tup [(.int .i64 t4v10), (.int .i64 8)])))) else (
some (.inl ((t0v10, t4v10, (wrapD .i64 (t5v10 + 1)), ()), (()))))) else (
rt (
some (.inl ((t0v10, (wrapD .i64 (t4v10 + 1)), ()), (())))))) ((t0v3, t4v3, (0 : Int), ()), (())))) else (
rt (
some (.tup [(.int .i64 0), (.int .i64 0)])))) ((t0v0, (0 : Int), ()), (()))
theorem S58_eq (lp : Lp) (cl : CL) (a0 : D) : runS lp Tryz.prog TryzG cl 58 [(.fz a0)] = S58 lp cl a0 := by kernel_rfl
def S58_w (lp : Lp) (cl : CL) (args : List D) : Option D := bd (Sh.gds [.fz] args) fun v => S58 lp cl v.1
theorem S58_t : TabE TryzE 58 S58_w := tab_of (by kernel_rfl) fun lp cl v => S58_eq lp cl v.1

/- 59 invigilator/invigilatorref03.ordered -/
def S59 (lp : Lp) (cl : CL) (a0_0 : D) (a0_1 : D) (a1 : Int) : Option D :=
bd (lenD false a0_0) fun v0 =>
ixT q13 1 a0_1 (.int .i64 a1) none fun (v3 : Int) =>
bj (α := (Int × Unit × Int × Int × Unit) × ((D × D × Unit) × Unit)) (
bd (shrD .i64 (wrapD .i64 v3) (v0 : Int)) fun v5 =>
bif (ltZ 0 v5) then (
rt (
some (.bool false))) else (
clT q0 (cl 37 [(.agg [a0_0, a0_1]), (.int .i64 a1), (.int .i64 a1)]) fun (v7 : Bool) =>
bif (!v7) then (
rt (
some (.bool false))) else (
some (.inl ((a1, (), (v0 : Int), (wrapD .i64 v3), ()), ((a0_0, a0_1, ()), ())))))) fun (((t1v4, _, t5v4, t6v4, _), ((b0v4_0, b0v4_1, _), _)) : (Int × Unit × Int × Int × Unit) × ((D × D × Unit) × Unit)) =>
lp.run (fun (((t1v8, _, t5v8, t6v8, t7v8, _), ((b0v8_0, b0v8_1, _), _)) : (Int × Unit × Int × Int × Int × Unit) × ((D × D × Unit) × Unit)) =>
bif (ltZ t7v8 t5v8) then (
clT q0 (cl 37 [(.agg [b0v8_0, b0v8_1]), (.int .i64 t1v8), (.int .i64 t7v8)]) fun (v10 : Bool) =>
bif (!v10) then (
some (.inl ((t1v8, (), t5v8, t6v8, (wrapD .i64 (t7v8 + 1)), ()), ((b0v8_0, b0v8_1, ()), ())))) else (
ixT q13 1 b0v8_1 (.int .i64 t7v8) none fun (v13 : Int) =>
bd (shlD .i64 1 t5v8) fun v14 =>
bif (!(eqZ t7v8 t1v8)) then (
clT q0 (cl 37 [(.agg [b0v8_0, b0v8_1]), (.int .i64 t7v8), (.int .i64 t1v8)]) fun (v16 : Bool) =>
bif v16 then (
rt (
some (.bool false))) else (
bif (!(eqZ (andZ .i64 (andZ .i64 (wrapD .i64 v13) (wrapD .i64 (v14 - 1))) t6v8) (andZ .i64 (wrapD .i64 v13) (wrapD .i64 (v14 - 1))))) then (
rt (
some (.bool false))) else (
some (.inl ((t1v8, (), t5v8, t6v8, (wrapD .i64 (t7v8 + 1)), ()), ((b0v8_0, b0v8_1, ()), ())))))) else (
bif (!(eqZ (andZ .i64 (andZ .i64 (wrapD .i64 v13) (wrapD .i64 (v14 - 1))) t6v8) (andZ .i64 (wrapD .i64 v13) (wrapD .i64 (v14 - 1))))) then (
rt (
some (.bool false))) else (
some (.inl ((t1v8, (), t5v8, t6v8, (wrapD .i64 (t7v8 + 1)), ()), ((b0v8_0, b0v8_1, ()), ()))))))) else (
rt (
some (.bool true)))) ((t1v4, (), t5v4, t6v4, (0 : Int), ()), ((b0v4_0, b0v4_1, ()), ()))
theorem S59_eq (lp : Lp) (cl : CL) (a0_0 : D) (a0_1 : D) (a1 : Int) : runS lp Tryz.prog TryzG cl 59 [(.agg [(.fz a0_0), (.fz a0_1)]), (.int .i64 a1)] = S59 lp cl a0_0 a0_1 a1 := by kernel_rfl
def S59_w (lp : Lp) (cl : CL) (args : List D) : Option D := bd (Sh.gds [(.agg [.fz, .fz]), (.int .i64)] args) fun v => S59 lp cl v.1.1 v.1.2.1 v.2.1
theorem S59_t : TabE TryzE 59 S59_w := tab_of (by kernel_rfl) fun lp cl v => S59_eq lp cl v.1.1 v.1.2.1 v.2.1

/- 62 invigilator/invigilatorref27.last -/
def S62 (lp : Lp) (cl : CL) (a0_0 : Int) (a0_1 : Int) (a0_2 : Int) (a0_3 : Int) (a0_4 : Int) : Option D :=
bd (idxD 2 (.int .i64 (wrapD .i64 (a0_1 - 1)))) fun v0 =>
tkT q4 [(.int .i64 a0_0), (.int .i64 a0_1), (.int .i64 a0_2), (.int .i64 a0_3), (.int .i64 a0_4)] (2 + v0 * 1) none fun (v2 : Int) =>
some (.int .i64 v2)
theorem S62_eq (lp : Lp) (cl : CL) (a0_0 : Int) (a0_1 : Int) (a0_2 : Int) (a0_3 : Int) (a0_4 : Int) : runS lp Tryz.prog TryzG cl 62 [(.agg [(.int .i64 a0_0), (.int .i64 a0_1), (.int .i64 a0_2), (.int .i64 a0_3), (.int .i64 a0_4)])] = S62 lp cl a0_0 a0_1 a0_2 a0_3 a0_4 := by kernel_rfl
def S62_w (lp : Lp) (cl : CL) (args : List D) : Option D := bd (Sh.gds [(.agg [(.int .i64), (.int .i64), (.int .i64), (.int .i64), (.int .i64)])] args) fun v => S62 lp cl v.1.1 v.1.2.1 v.1.2.2.1 v.1.2.2.2.1 v.1.2.2.2.2.1
theorem S62_t : TabE TryzE 62 S62_w := tab_of (by kernel_rfl) fun lp cl v => S62_eq lp cl v.1.1 v.1.2.1 v.1.2.2.1 v.1.2.2.2.1 v.1.2.2.2.2.1

/- 63 invigilator/invigilatorref27.extended -/
def S63 (lp : Lp) (cl : CL) (a0_0 : D) (a0_1 : D) (a1_0 : Int) (a1_1 : Int) (a1_2 : Int) (a1_3 : Int) (a1_4 : Int) (a2_0 : Int) (a2_1 : Int) (a2_2 : Int) (a2_3 : Int) (a2_4 : Int) : Option D :=
clT q4 (cl 32 [(.agg [a0_0, a0_1]), .nils]) fun (v1 : Int) =>
lp.run (fun (((_, _, _, _, _, t9v2, _), ((b2003v2_0, b2003v2_1, _), (b3v2_0, b3v2_1, _), (b2v2_0, b2v2_1, b2v2_2, b2v2_3, b2v2_4, _), (b1v2_0, b1v2_1, b1v2_2, b1v2_3, b1v2_4, _), (b0v2_0, b0v2_1, _), _)) : (Unit × Unit × Unit × Unit × Unit × Int × Unit) × ((Int × Int × Unit) × (Int × Int × Unit) × (Int × Int × Int × Int × Int × Unit) × (Int × Int × Int × Int × Int × Unit) × (D × D × Unit) × Unit)) =>
bif (ltZ t9v2 (mmZ true b1v2_1 b2v2_1)) then (
bif (eqZ b1v2_1 b2v2_1) then (
bd (idxD 2 (.int .i64 t9v2)) fun v3 =>
tkT q4 [(.int .i64 b1v2_0), (.int .i64 b1v2_1), (.int .i64 b1v2_2), (.int .i64 b1v2_3), (.int .i64 b1v2_4)] (2 + v3 * 1) none fun (v5 : Int) =>
bd (idxD 2 (.int .i64 t9v2)) fun v6 =>
tkT q4 [(.int .i64 b2v2_0), (.int .i64 b2v2_1), (.int .i64 b2v2_2), (.int .i64 b2v2_3), (.int .i64 b2v2_4)] (2 + v6 * 1) none fun (v8 : Int) =>
clT q4 (cl 32 [(.agg [b0v2_0, b0v2_1]), (.sl true 2 [(.int .i64 v5), (.int .i64 v8)])]) fun (v10 : Int) =>
bd (idxD 2 (.int .i64 t9v2)) fun v11 =>
bd (inR (0 + v11 * 1) 1 2) fun _ =>
bd (Sh.gds [(.int .i64), (.int .i64)] (setQ [(.int .i64 b2003v2_0), (.int .i64 b2003v2_1)] (0 + v11 * 1) [(.int .i64 v10)])) fun (v12 : (Int × Int × Unit)) =>
some (.inl (((), (), (), (), (), (wrapD .i64 (t9v2 + 1)), ()), (v12, (b3v2_0, b3v2_1, ()), (b2v2_0, b2v2_1, b2v2_2, b2v2_3, b2v2_4, ()), (b1v2_0, b1v2_1, b1v2_2, b1v2_3, b1v2_4, ()), (b0v2_0, b0v2_1, ()), ())))) else (
bif (ltZ b2v2_1 b1v2_1) then (
bd (idxD 2 (.int .i64 t9v2)) fun v13 =>
tkT q4 [(.int .i64 b1v2_0), (.int .i64 b1v2_1), (.int .i64 b1v2_2), (.int .i64 b1v2_3), (.int .i64 b1v2_4)] (2 + v13 * 1) none fun (v15 : Int) =>
bd (idxD 2 (.int .i64 t9v2)) fun v16 =>
bd (inR (0 + v16 * 1) 1 2) fun _ =>
bd (Sh.gds [(.int .i64), (.int .i64)] (setQ [(.int .i64 b2003v2_0), (.int .i64 b2003v2_1)] (0 + v16 * 1) [(.int .i64 v15)])) fun (v17 : (Int × Int × Unit)) =>
some (.inl (((), (), (), (), (), (wrapD .i64 (t9v2 + 1)), ()), (v17, (b3v2_0, b3v2_1, ()), (b2v2_0, b2v2_1, b2v2_2, b2v2_3, b2v2_4, ()), (b1v2_0, b1v2_1, b1v2_2, b1v2_3, b1v2_4, ()), (b0v2_0, b0v2_1, ()), ())))) else (
bd (idxD 2 (.int .i64 t9v2)) fun v18 =>
tkT q4 [(.int .i64 b2v2_0), (.int .i64 b2v2_1), (.int .i64 b2v2_2), (.int .i64 b2v2_3), (.int .i64 b2v2_4)] (2 + v18 * 1) none fun (v20 : Int) =>
bd (idxD 2 (.int .i64 t9v2)) fun v21 =>
bd (inR (0 + v21 * 1) 1 2) fun _ =>
bd (Sh.gds [(.int .i64), (.int .i64)] (setQ [(.int .i64 b2003v2_0), (.int .i64 b2003v2_1)] (0 + v21 * 1) [(.int .i64 v20)])) fun (v22 : (Int × Int × Unit)) =>
some (.inl (((), (), (), (), (), (wrapD .i64 (t9v2 + 1)), ()), (v22, (b3v2_0, b3v2_1, ()), (b2v2_0, b2v2_1, b2v2_2, b2v2_3, b2v2_4, ()), (b1v2_0, b1v2_1, b1v2_2, b1v2_3, b1v2_4, ()), (b0v2_0, b0v2_1, ()), ())))))) else (
rt (
some (.agg [(.int .i64 b2003v2_0), (.int .i64 b2003v2_1)])))) (((), (), (), (), (), (0 : Int), ()), ((v1, v1, ()), ((0 : Int), (0 : Int), ()), (a2_0, a2_1, a2_2, a2_3, a2_4, ()), (a1_0, a1_1, a1_2, a1_3, a1_4, ()), (a0_0, a0_1, ()), ()))
theorem S63_eq (lp : Lp) (cl : CL) (a0_0 : D) (a0_1 : D) (a1_0 : Int) (a1_1 : Int) (a1_2 : Int) (a1_3 : Int) (a1_4 : Int) (a2_0 : Int) (a2_1 : Int) (a2_2 : Int) (a2_3 : Int) (a2_4 : Int) : runS lp Tryz.prog TryzG cl 63 [(.agg [(.fz a0_0), (.fz a0_1)]), (.agg [(.int .i64 a1_0), (.int .i64 a1_1), (.int .i64 a1_2), (.int .i64 a1_3), (.int .i64 a1_4)]), (.agg [(.int .i64 a2_0), (.int .i64 a2_1), (.int .i64 a2_2), (.int .i64 a2_3), (.int .i64 a2_4)])] = S63 lp cl a0_0 a0_1 a1_0 a1_1 a1_2 a1_3 a1_4 a2_0 a2_1 a2_2 a2_3 a2_4 := by kernel_rfl
def S63_w (lp : Lp) (cl : CL) (args : List D) : Option D := bd (Sh.gds [(.agg [.fz, .fz]), (.agg [(.int .i64), (.int .i64), (.int .i64), (.int .i64), (.int .i64)]), (.agg [(.int .i64), (.int .i64), (.int .i64), (.int .i64), (.int .i64)])] args) fun v => S63 lp cl v.1.1 v.1.2.1 v.2.1.1 v.2.1.2.1 v.2.1.2.2.1 v.2.1.2.2.2.1 v.2.1.2.2.2.2.1 v.2.2.1.1 v.2.2.1.2.1 v.2.2.1.2.2.1 v.2.2.1.2.2.2.1 v.2.2.1.2.2.2.2.1
theorem S63_t : TabE TryzE 63 S63_w := tab_of (by kernel_rfl) fun lp cl v => S63_eq lp cl v.1.1 v.1.2.1 v.2.1.1 v.2.1.2.1 v.2.1.2.2.1 v.2.1.2.2.2.1 v.2.1.2.2.2.2.1 v.2.2.1.1 v.2.2.1.2.1 v.2.2.1.2.2.1 v.2.2.1.2.2.2.1 v.2.2.1.2.2.2.2.1

/- 65 invigilator/invigilatorref03.join -/
def S65 (lp : Lp) (cl : CL) (a0_0 : D) (a0_1 : D) (a1 : Int) (a2 : Int) : Option D :=
clT q4 (cl 61 [a0_1, (.int .i64 a1), (.int .i64 a2)]) fun (v1 : Int) =>
some (.int .i64 v1)
theorem S65_eq (lp : Lp) (cl : CL) (a0_0 : D) (a0_1 : D) (a1 : Int) (a2 : Int) : runS lp Tryz.prog TryzG cl 65 [(.agg [(.fz a0_0), (.fz a0_1)]), (.int .i64 a1), (.int .i64 a2)] = S65 lp cl a0_0 a0_1 a1 a2 := by kernel_rfl
def S65_w (lp : Lp) (cl : CL) (args : List D) : Option D := bd (Sh.gds [(.agg [.fz, .fz]), (.int .i64), (.int .i64)] args) fun v => S65 lp cl v.1.1 v.1.2.1 v.2.1 v.2.2.1
theorem S65_t : TabE TryzE 65 S65_w := tab_of (by kernel_rfl) fun lp cl v => S65_eq lp cl v.1.1 v.1.2.1 v.2.1 v.2.2.1

/- 105 math/bits.OnesCount8 -/
def S105 (lp : Lp) (cl : CL) (a0 : Int) : Option D :=
bd (ixStr [0, 1, 1, 2, 1, 2, 2, 3, 1, 2, 2, 3, 2, 3, 3, 4, 1, 2, 2, 3, 2, 3, 3, 4, 2, 3, 3, 4, 3, 4, 4, 5, 1, 2, 2, 3, 2, 3, 3, 4, 2, 3, 3, 4, 3, 4, 4, 5, 2, 3, 3, 4, 3, 4, 4, 5, 3, 4, 4, 5, 4, 5, 5, 6, 1, 2, 2, 3, 2, 3, 3, 4, 2, 3, 3, 4, 3, 4, 4, 5, 2, 3, 3, 4, 3, 4, 4, 5, 3, 4, 4, 5, 4, 5, 5, 6, 2, 3, 3, 4, 3, 4, 4, 5, 3, 4, 4, 5, 4, 5, 5, 6, 3, 4, 4, 5, 4, 5, 5, 6, 4, 5, 5, 6, 5, 6, 6, 7, 1, 2, 2, 3, 2, 3, 3, 4, 2, 3, 3, 4, 3, 4, 4, 5, 2, 3, 3, 4, 3, 4, 4, 5, 3, 4, 4, 5, 4, 5, 5, 6, 2, 3, 3, 4, 3, 4, 4, 5, 3, 4, 4, 5, 4, 5, 5, 6, 3, 4, 4, 5, 4, 5, 5, 6, 4, 5, 5, 6, 5, 6, 6, 7, 2, 3, 3, 4, 3, 4, 4, 5, 3, 4, 4, 5, 4, 5, 5, 6, 3, 4, 4, 5, 4, 5, 5, 6, 4, 5, 5, 6, 5, 6, 6, 7, 3, 4, 4, 5, 4, 5, 5, 6, 4, 5, 5, 6, 5, 6, 6, 7, 4, 5, 5, 6, 5, 6, 6, 7, 5, 6, 6, 7, 6, 7, 7, 8] (.int .u8 a0)) fun v0 =>
some (.int .i64 (wrapD .i64 v0))
theorem S105_eq (lp : Lp) (cl : CL) (a0 : Int) : runS lp Tryz.prog TryzG cl 105 [(.int .u8 a0)] = S105 lp cl a0 := by kernel_rfl
def S105_w (lp : Lp) (cl : CL) (args : List D) : Option D := bd (Sh.gds [(.int .u8)] args) fun v => S105 lp cl v.1
theorem S105_t : TabE TryzE 105 S105_w := tab_of (by kernel_rfl) fun lp cl v => S105_eq lp cl v.1

/- 112 strings.trimLeftASCII -/
def S112 (lp : Lp) (cl : CL) (a0 : List UInt8) (a1 : D) : Option D :=
lp.run (fun (((t0v0, t1v0, _), (_)) : (List UInt8 × D × Unit) × (Unit)) =>
bif (ltZ 0 (List.length t0v0 : Int)) then (
bd (ixStr t0v0 (.int .i64 0)) fun v1 =>
clT q0 (cl 142 [t1v0, (.int .u8 v1)]) fun (v3 : Bool) =>
bif (!v3) then (
rt (
some (.str t0v0))) else (
bd (slStr t0v0 (some (.int .i64 1)) none) fun v4 =>
some (.inl ((v4, t1v0, ()), (()))))) else (
rt (
some (.str t0v0)))) ((a0, a1, ()), (()))
theorem S112_eq (lp : Lp) (cl : CL) (a0 : List UInt8) (a1 : D) : runS lp Tryz.prog TryzG cl 112 [(.str a0), (.fz a1)] = S112 lp cl a0 a1 := by kernel_rfl
def S112_w (lp : Lp) (cl : CL) (args : List D) : Option D := bd (Sh.gds [.str, .fz] args) fun v => S112 lp cl v.1 v.2.1
theorem S112_t : TabE TryzE 112 S112_w := tab_of (by kernel_rfl) fun lp cl v => S112_eq lp cl v.1 v.2.1

/- 115 strings.trimRightUnicode -/
def S115 (lp : Lp) (cl : CL) (a0 : List UInt8) (a1 : List UInt8) : Option D :=
lp.run (fun (((t0v0, t1v0, _), (_)) : (List UInt8 × List UInt8 × Unit) × (Unit)) =>
bif (ltZ 0 (List.length t0v0 : Int)) then (
bd (ixStr t0v0 (.int .i64 (wrapD .i64 ((List.length t0v0 : Int) - 1)))) fun v1 =>
bj (α := (List UInt8 × List UInt8 × Int × Int × Unit) × (Unit)) (
bif (leZ 128 (wrapD .i32 v1)) then (
clT q28 (cl 145 [(.str t0v0)]) fun (v4 : (Int × Int × Unit)) =>
some (.inl ((t0v0, t1v0, v4.1, v4.2.1, ()), (())))) else (
some (.inl ((t0v0, t1v0, (wrapD .i32 v1), (1 : Int), ()), (()))))) fun (((t0v2, t1v2, t5v2, t6v2, _), (_)) : (List UInt8 × List UInt8 × Int × Int × Unit) × (Unit)) =>
clT q0 (cl 144 [(.str t1v2), (.int .i32 t5v2)]) fun (v6 : Bool) =>
bif (!v6) then (
rt (
some (.str t0v2))) else (
bd (slStr t0v2 none (some (.int .i64 (wrapD .i64 ((List.length t0v2 : Int) - t6v2))))) fun v7 =>
some (.inl ((v7, t1v2, ()), (()))))) else (
rt (
some (.str t0v0)))) ((a0, a1, ()), (()))
theorem S115_eq (lp : Lp) (cl : CL) (a0 : List UInt8) (a1 : List UInt8) : runS lp Tryz.prog TryzG cl 115 [(.str a0), (.str a1)] = S115 lp cl a0 a1 := by kernel_rfl
def S115_w (lp : Lp) (cl : CL) (args : List D) : Option D := bd (Sh.gds [.str, .str] args) fun v => S115 lp cl v.1 v.2.1
theorem S115_t : TabE TryzE 115 S115_w := tab_of (by kernel_rfl) fun lp cl v => S115_eq lp cl v.1 v.2.1

/- 144 strings.ContainsRune -/
def S144 (lp : Lp) (cl : CL) (a0 : List UInt8) (a1 : Int) : Option D :=
clT q4 (cl 157 [(.str a0), (.int .i32 a1)]) fun (v1 : Int) =>
some (.bool (leZ 0 v1))
theorem S144_eq (lp : Lp) (cl : CL) (a0 : List UInt8) (a1 : Int) : runS lp Tryz.prog TryzG cl 144 [(.str a0), (.int .i32 a1)] = S144 lp cl a0 a1 := by kernel_rfl
def S144_w (lp : Lp) (cl : CL) (args : List D) : Option D := bd (Sh.gds [.str, (.int .i32)] args) fun v => S144 lp cl v.1 v.2.1
theorem S144_t : TabE TryzE 144 S144_w := tab_of (by kernel_rfl) fun lp cl v => S144_eq lp cl v.1 v.2.1

end Go.Proofs.YtblbgjfkbcdlfaaGreatDoor
