/- What the functions come to. -/
import Derived.Test.YtblbgjfkbcdlfaaGreatDoorSH
set_option linter.unusedVariables false
set_option maxRecDepth 100000
namespace Go.Proofs.YtblbgjfkbcdlfaaGreatDoor
open Go Iv
/- 10 invigilator/invigilatorlaw27.raised -/
def S10 (lp : Lp) (cl : CL) (a0_0 : D) (a0_1 : D) (a1_0 : Int) (a1_1 : Int) (a1_2 : Int) (a1_3 : Int) (a1_4 : Int) (a2 : Int) : Option D :=
lp.run (fun (((t2v0, _, _, _, t8v0, _), ((b2v0_0, b2v0_1, b2v0_2, b2v0_3, b2v0_4, _), (b1v0_0, b1v0_1, b1v0_2, b1v0_3, b1v0_4, _), (b0v0_0, b0v0_1, _), _)) : (Int × Unit × Unit × Unit × Int × Unit) × ((Int × Int × Int × Int × Int × Unit) × (Int × Int × Int × Int × Int × Unit) × (D × D × Unit) × Unit)) =>
bj (α := (Int × Unit × Unit × Unit × Int × Unit) × ((Int × Int × Int × Int × Int × Unit) × (Int × Int × Int × Int × Int × Unit) × (D × D × Unit) × Unit)) (
bif (ltZ t8v0 b1v0_1) then (
bif (ltZ t8v0 2) then (
some (.inl ((t2v0, (), (), (), t8v0, ()), ((b2v0_0, b2v0_1, b2v0_2, b2v0_3, b2v0_4, ()), (b1v0_0, b1v0_1, b1v0_2, b1v0_3, b1v0_4, ()), (b0v0_0, b0v0_1, ()), ())))) else (
rt (
rt (
clT q7 (cl 33 [(.agg [b0v0_0, b0v0_1]), (.int .i64 b1v0_4), (.int .i64 t2v0)]) fun (v3 : (Int × Int × Unit)) =>
some (.tup [(.agg [(.int .i64 b1v0_0), (.int .i64 b1v0_1), (.int .i64 b1v0_2), (.int .i64 b1v0_3), (.int .i64 v3.1)]), (.int .i64 v3.2.1)]))))) else (
rt (
rt (
clT q7 (cl 33 [(.agg [b0v0_0, b0v0_1]), (.int .i64 b1v0_4), (.int .i64 t2v0)]) fun (v5 : (Int × Int × Unit)) =>
some (.tup [(.agg [(.int .i64 b1v0_0), (.int .i64 b1v0_1), (.int .i64 b1v0_2), (.int .i64 b1v0_3), (.int .i64 v5.1)]), (.int .i64 v5.2.1)]))))) fun (((t2v1, _, _, _, t8v1, _), ((b2v1_0, b2v1_1, b2v1_2, b2v1_3, b2v1_4, _), (b1v1_0, b1v1_1, b1v1_2, b1v1_3, b1v1_4, _), (b0v1_0, b0v1_1, _), _)) : (Int × Unit × Unit × Unit × Int × Unit) × ((Int × Int × Int × Int × Int × Unit) × (Int × Int × Int × Int × Int × Unit) × (D × D × Unit) × Unit)) =>
bd (idxD 2 (.int .i64 t8v1)) fun v6 =>
tkT q4 [(.int .i64 b1v1_0), (.int .i64 b1v1_1), (.int .i64 b1v1_2), (.int .i64 b1v1_3), (.int .i64 b1v1_4)] (2 + v6 * 1) none fun (v8 : Int) =>
clT q7 (cl 33 [(.agg [b0v1_0, b0v1_1]), (.int .i64 v8), (.int .i64 t2v1)]) fun (v10 : (Int × Int × Unit)) =>
bif (!(eqZ v10.2.1 0)) then (
rt (
some (.tup [(.agg [(.int .i64 b1v1_0), (.int .i64 b1v1_1), (.int .i64 b1v1_2), (.int .i64 b1v1_3), (.int .i64 b1v1_4)]), (.int .i64 v10.2.1)]))) else (
bd (idxD 2 (.int .i64 t8v1)) fun v11 =>
bd (inR (2 + v11 * 1) 1 5) fun _ =>
bd (Sh.gds [(.int .i64), (.int .i64), (.int .i64), (.int .i64), (.int .i64)] (setQ [(.int .i64 b1v1_0), (.int .i64 b1v1_1), (.int .i64 b1v1_2), (.int .i64 b1v1_3), (.int .i64 b1v1_4)] (2 + v11 * 1) [(.int .i64 v10.1)])) fun (v12 : (Int × Int × Int × Int × Int × Unit)) =>
some (.inl ((t2v1, (), (), (), (wrapD .i64 (t8v1 + 1)), ()), ((b2v1_0, b2v1_1, b2v1_2, b2v1_3, b2v1_4, ()), v12, (b0v1_0, b0v1_1, ()), ()))))) ((a2, (), (), (), (0 : Int), ()), (((0 : Int), (0 : Int), (0 : Int), (0 : Int), (0 : Int), ()), (a1_0, a1_1, a1_2, a1_3, a1_4, ()), (a0_0, a0_1, ()), ()))
theorem S10_eq (lp : Lp) (cl : CL) (a0_0 : D) (a0_1 : D) (a1_0 : Int) (a1_1 : Int) (a1_2 : Int) (a1_3 : Int) (a1_4 : Int) (a2 : Int) : runS lp Tryz.prog TryzG cl 10 [(.agg [(.fz a0_0), (.fz a0_1)]), (.agg [(.int .i64 a1_0), (.int .i64 a1_1), (.int .i64 a1_2), (.int .i64 a1_3), (.int .i64 a1_4)]), (.int .i64 a2)] = S10 lp cl a0_0 a0_1 a1_0 a1_1 a1_2 a1_3 a1_4 a2 := by kernel_rfl
def S10_w (lp : Lp) (cl : CL) (args : List D) : Option D := bd (Sh.gds [(.agg [.fz, .fz]), (.agg [(.int .i64), (.int .i64), (.int .i64), (.int .i64), (.int .i64)]), (.int .i64)] args) fun v => S10 lp cl v.1.1 v.1.2.1 v.2.1.1 v.2.1.2.1 v.2.1.2.2.1 v.2.1.2.2.2.1 v.2.1.2.2.2.2.1 v.2.2.1
theorem S10_t : TabE TryzE 10 S10_w := tab_of (by kernel_rfl) fun lp cl v => S10_eq lp cl v.1.1 v.1.2.1 v.2.1.1 v.2.1.2.1 v.2.1.2.2.1 v.2.1.2.2.2.1 v.2.1.2.2.2.2.1 v.2.2.1

/- 11 invigilator/invigilatorlaw27.within -/
def S11 (lp : Lp) (cl : CL) (a0_0 : D) (a0_1 : D) (a1_0 : Int) (a1_1 : Int) (a1_2 : Int) (a1_3 : Int) (a1_4 : Int) (a2_0 : Int) (a2_1 : Int) (a2_2 : Int) (a2_3 : Int) (a2_4 : Int) : Option D :=
lp.run (fun (((_, _, _, t7v0, _), ((b2v0_0, b2v0_1, b2v0_2, b2v0_3, b2v0_4, _), (b1v0_0, b1v0_1, b1v0_2, b1v0_3, b1v0_4, _), (b0v0_0, b0v0_1, _), _)) : (Unit × Unit × Unit × Int × Unit) × ((Int × Int × Int × Int × Int × Unit) × (Int × Int × Int × Int × Int × Unit) × (D × D × Unit) × Unit)) =>
bif (ltZ t7v0 b1v0_1) then (
bd (idxD 2 (.int .i64 t7v0)) fun v1 =>
tkT q4 [(.int .i64 b1v0_0), (.int .i64 b1v0_1), (.int .i64 b1v0_2), (.int .i64 b1v0_3), (.int .i64 b1v0_4)] (2 + v1 * 1) none fun (v3 : Int) =>
bd (idxD 2 (.int .i64 t7v0)) fun v4 =>
tkT q4 [(.int .i64 b2v0_0), (.int .i64 b2v0_1), (.int .i64 b2v0_2), (.int .i64 b2v0_3), (.int .i64 b2v0_4)] (2 + v4 * 1) none fun (v6 : Int) =>
clT q0 (cl 12 [(.agg [b0v0_0, b0v0_1]), (.int .i64 v3), (.int .i64 v6)]) fun (v8 : Bool) =>
bif (!v8) then (
rt (
some (.bool false))) else (
some (.inl (((), (), (), (wrapD .i64 (t7v0 + 1)), ()), ((b2v0_0, b2v0_1, b2v0_2, b2v0_3, b2v0_4, ()), (b1v0_0, b1v0_1, b1v0_2, b1v0_3, b1v0_4, ()), (b0v0_0, b0v0_1, ()), ()))))) else (
rt (
clT q0 (cl 12 [(.agg [b0v0_0, b0v0_1]), (.int .i64 b1v0_4), (.int .i64 b2v0_4)]) fun (v10 : Bool) =>
some (.bool v10)))) (((), (), (), (0 : Int), ()), ((a2_0, a2_1, a2_2, a2_3, a2_4, ()), (a1_0, a1_1, a1_2, a1_3, a1_4, ()), (a0_0, a0_1, ()), ()))
theorem S11_eq (lp : Lp) (cl : CL) (a0_0 : D) (a0_1 : D) (a1_0 : Int) (a1_1 : Int) (a1_2 : Int) (a1_3 : Int) (a1_4 : Int) (a2_0 : Int) (a2_1 : Int) (a2_2 : Int) (a2_3 : Int) (a2_4 : Int) : runS lp Tryz.prog TryzG cl 11 [(.agg [(.fz a0_0), (.fz a0_1)]), (.agg [(.int .i64 a1_0), (.int .i64 a1_1), (.int .i64 a1_2), (.int .i64 a1_3), (.int .i64 a1_4)]), (.agg [(.int .i64 a2_0), (.int .i64 a2_1), (.int .i64 a2_2), (.int .i64 a2_3), (.int .i64 a2_4)])] = S11 lp cl a0_0 a0_1 a1_0 a1_1 a1_2 a1_3 a1_4 a2_0 a2_1 a2_2 a2_3 a2_4 := by kernel_rfl
def S11_w (lp : Lp) (cl : CL) (args : List D) : Option D := bd (Sh.gds [(.agg [.fz, .fz]), (.agg [(.int .i64), (.int .i64), (.int .i64), (.int .i64), (.int .i64)]), (.agg [(.int .i64), (.int .i64), (.int .i64), (.int .i64), (.int .i64)])] args) fun v => S11 lp cl v.1.1 v.1.2.1 v.2.1.1 v.2.1.2.1 v.2.1.2.2.1 v.2.1.2.2.2.1 v.2.1.2.2.2.2.1 v.2.2.1.1 v.2.2.1.2.1 v.2.2.1.2.2.1 v.2.2.1.2.2.2.1 v.2.2.1.2.2.2.2.1
theorem S11_t : TabE TryzE 11 S11_w := tab_of (by kernel_rfl) fun lp cl v => S11_eq lp cl v.1.1 v.1.2.1 v.2.1.1 v.2.1.2.1 v.2.1.2.2.1 v.2.1.2.2.2.1 v.2.1.2.2.2.2.1 v.2.2.1.1 v.2.2.1.2.1 v.2.2.1.2.2.1 v.2.2.1.2.2.2.1 v.2.2.1.2.2.2.2.1

/- 12 invigilator/invigilatorlaw27.leq -/
def S12 (lp : Lp) (cl : CL) (a0_0 : D) (a0_1 : D) (a1 : Int) (a2 : Int) : Option D :=
clT q11 (cl 34 [(.agg [a0_0, a0_1]), (.int .i64 a1), (.int .i64 a2)]) fun (v1 : (Bool × Int × Unit)) =>
bif v1.1 then (
some (.bool (eqZ v1.2.1 0))) else (
some (.bool false))
theorem S12_eq (lp : Lp) (cl : CL) (a0_0 : D) (a0_1 : D) (a1 : Int) (a2 : Int) : runS lp Tryz.prog TryzG cl 12 [(.agg [(.fz a0_0), (.fz a0_1)]), (.int .i64 a1), (.int .i64 a2)] = S12 lp cl a0_0 a0_1 a1 a2 := by kernel_rfl
def S12_w (lp : Lp) (cl : CL) (args : List D) : Option D := bd (Sh.gds [(.agg [.fz, .fz]), (.int .i64), (.int .i64)] args) fun v => S12 lp cl v.1.1 v.1.2.1 v.2.1 v.2.2.1
theorem S12_t : TabE TryzE 12 S12_w := tab_of (by kernel_rfl) fun lp cl v => S12_eq lp cl v.1.1 v.1.2.1 v.2.1 v.2.2.1

/- 13 invigilator/invigilatorref19.Good -/
def S13 (lp : Lp) (cl : CL) (a0_0 : D) (a0_1 : D) (a1_0 : Int) (a1_1 : Int) (a1_2 : Int) (a1_3 : Int) (a1_4 : Int) : Option D :=
clT q7 (cl 27 [(.agg [a0_0, a0_1])]) fun (v1 : (Int × Int × Unit)) =>
bif (!(eqZ v1.2.1 0)) then (
some (.int .i64 v1.2.1)) else (
bj (α := (Unit × Unit × Unit) × ((Int × Int × Int × Int × Int × Unit) × (D × D × Unit) × Unit)) (
bif (!(eqZ a1_0 1)) then (
bif (!(eqZ a1_0 2)) then (
rt (
some (.int .i64 7))) else (
bif (ltZ a1_1 0) then (
rt (
some (.int .i64 7))) else (
bif (ltZ 2 a1_1) then (
rt (
some (.int .i64 7))) else (
clT q0 (cl 35 [(.agg [a0_0, a0_1]), (.int .i64 a1_2)]) fun (v4 : Bool) =>
bif (!v4) then (
rt (
some (.int .i64 7))) else (
clT q0 (cl 35 [(.agg [a0_0, a0_1]), (.int .i64 a1_3)]) fun (v6 : Bool) =>
bif (!v6) then (
rt (
some (.int .i64 7))) else (
clT q0 (cl 35 [(.agg [a0_0, a0_1]), (.int .i64 a1_4)]) fun (v8 : Bool) =>
bif (!v8) then (
rt (
some (.int .i64 7))) else (
some (.inl (((), (), ()), ((a1_0, a1_1, a1_2, a1_3, a1_4, ()), (a0_0, a0_1, ()), ())))))))))) else (
bif (ltZ a1_1 0) then (
rt (
some (.int .i64 7))) else (
bif (ltZ 2 a1_1) then (
rt (
some (.int .i64 7))) else (
clT q0 (cl 35 [(.agg [a0_0, a0_1]), (.int .i64 a1_2)]) fun (v10 : Bool) =>
bif (!v10) then (
rt (
some (.int .i64 7))) else (
clT q0 (cl 35 [(.agg [a0_0, a0_1]), (.int .i64 a1_3)]) fun (v12 : Bool) =>
bif (!v12) then (
rt (
some (.int .i64 7))) else (
clT q0 (cl 35 [(.agg [a0_0, a0_1]), (.int .i64 a1_4)]) fun (v14 : Bool) =>
bif (!v14) then (
rt (
some (.int .i64 7))) else (
some (.inl (((), (), ()), ((a1_0, a1_1, a1_2, a1_3, a1_4, ()), (a0_0, a0_1, ()), ())))))))))) fun (((_, _, _), ((b1v2_0, b1v2_1, b1v2_2, b1v2_3, b1v2_4, _), (b0v2_0, b0v2_1, _), _)) : (Unit × Unit × Unit) × ((Int × Int × Int × Int × Int × Unit) × (D × D × Unit) × Unit)) =>
clT q7 (cl 36 [(.agg [b0v2_0, b0v2_1])]) fun (v16 : (Int × Int × Unit)) =>
lp.run (fun (((_, _, t7v17, t9v17, _), ((b1v17_0, b1v17_1, b1v17_2, b1v17_3, b1v17_4, _), (b0v17_0, b0v17_1, _), _)) : (Unit × Unit × Int × Int × Unit) × ((Int × Int × Int × Int × Int × Unit) × (D × D × Unit) × Unit)) =>
bif (ltZ t9v17 2) then (
bd (idxD 2 (.int .i64 t9v17)) fun v18 =>
tkT q4 [(.int .i64 b1v17_0), (.int .i64 b1v17_1), (.int .i64 b1v17_2), (.int .i64 b1v17_3), (.int .i64 b1v17_4)] (2 + v18 * 1) none fun (v20 : Int) =>
bif (!(eqZ v20 t7v17)) then (
rt (
some (.int .i64 6))) else (
some (.inl (((), (), t7v17, (wrapD .i64 (t9v17 + 1)), ()), ((b1v17_0, b1v17_1, b1v17_2, b1v17_3, b1v17_4, ()), (b0v17_0, b0v17_1, ()), ()))))) else (
rt (
lp.run (fun (((_, _, t10v21, _), ((b1v21_0, b1v21_1, b1v21_2, b1v21_3, b1v21_4, _), (b0v21_0, b0v21_1, _), _)) : (Unit × Unit × Int × Unit) × ((Int × Int × Int × Int × Int × Unit) × (D × D × Unit) × Unit)) =>
bif (ltZ t10v21 b1v21_1) then (
bd (idxD 2 (.int .i64 t10v21)) fun v22 =>
tkT q4 [(.int .i64 b1v21_0), (.int .i64 b1v21_1), (.int .i64 b1v21_2), (.int .i64 b1v21_3), (.int .i64 b1v21_4)] (2 + v22 * 1) none fun (v24 : Int) =>
clT q0 (cl 37 [(.agg [b0v21_0, b0v21_1]), (.int .i64 v24), (.int .i64 b1v21_4)]) fun (v26 : Bool) =>
bif (!v26) then (
rt (
some (.int .i64 25))) else (
some (.inl (((), (), (wrapD .i64 (t10v21 + 1)), ()), ((b1v21_0, b1v21_1, b1v21_2, b1v21_3, b1v21_4, ()), (b0v21_0, b0v21_1, ()), ()))))) else (
rt (
some (.int .i64 0)))) (((), (), (0 : Int), ()), ((b1v17_0, b1v17_1, b1v17_2, b1v17_3, b1v17_4, ()), (b0v17_0, b0v17_1, ()), ()))))) (((), (), v16.1, b1v2_1, ()), ((b1v2_0, b1v2_1, b1v2_2, b1v2_3, b1v2_4, ()), (b0v2_0, b0v2_1, ()), ())))
theorem S13_eq (lp : Lp) (cl : CL) (a0_0 : D) (a0_1 : D) (a1_0 : Int) (a1_1 : Int) (a1_2 : Int) (a1_3 : Int) (a1_4 : Int) : runS lp Tryz.prog TryzG cl 13 [(.agg [(.fz a0_0), (.fz a0_1)]), (.agg [(.int .i64 a1_0), (.int .i64 a1_1), (.int .i64 a1_2), (.int .i64 a1_3), (.int .i64 a1_4)])] = S13 lp cl a0_0 a0_1 a1_0 a1_1 a1_2 a1_3 a1_4 := by kernel_rfl
def S13_w (lp : Lp) (cl : CL) (args : List D) : Option D := bd (Sh.gds [(.agg [.fz, .fz]), (.agg [(.int .i64), (.int .i64), (.int .i64), (.int .i64), (.int .i64)])] args) fun v => S13 lp cl v.1.1 v.1.2.1 v.2.1.1 v.2.1.2.1 v.2.1.2.2.1 v.2.1.2.2.2.1 v.2.1.2.2.2.2.1
theorem S13_t : TabE TryzE 13 S13_w := tab_of (by kernel_rfl) fun lp cl v => S13_eq lp cl v.1.1 v.1.2.1 v.2.1.1 v.2.1.2.1 v.2.1.2.2.1 v.2.1.2.2.2.1 v.2.1.2.2.2.2.1

/- 19 invigilator/lattice.Check -/
def S19 (lp : Lp) (cl : CL) (a0_0 : D) (a0_1 : D) : Option D :=
clT q7 (cl 44 [a0_0]) fun (v1 : (Int × Int × Unit)) =>
bif (!(eqZ v1.2.1 0)) then (
some (.tup [(.int .i64 v1.1), (.int .i64 v1.2.1)])) else (
bd (lenD false a0_0) fun v2 =>
bd (lenD false a0_1) fun v3 =>
bif (!(eqZ (v3 : Int) (v2 : Int))) then (
some (.tup [(.int .i64 (-1)), (.int .i64 6)])) else (
bd (shlD .u8 1 (v2 : Int)) fun v4 =>
bd (lenD false a0_1) fun v5 =>
lp.run (fun (((_, t6v6, t7v6, t37v6, t38v6, t39v6, _), ((b0v6_0, b0v6_1, _), _)) : (Unit × Int × Int × D × Int × Int × Unit) × ((D × D × Unit) × Unit)) =>
bif (ltZ t39v6 t38v6) then (
ixT q13 1 t37v6 (.int .i64 t39v6) none fun (v9 : Int) =>
bj (α := (Unit × Int × Int × Int × Int × D × Int × Int × Unit) × ((D × D × Unit) × Unit)) (
clT q4 (cl 45 [(.int .u8 v9)]) fun (v12 : Int) =>
bif (ltZ t6v6 v12) then (
rt (
rt (
some (.tup [(.int .i64 t39v6), (.int .i64 6)])))) else (
bd (shrD .u8 v9 t39v6) fun v13 =>
bif (eqZ (andZ .u8 v13 1) 0) then (
rt (
rt (
some (.tup [(.int .i64 t39v6), (.int .i64 6)])))) else (
some (.inl (((), t6v6, t7v6, t39v6, v9, t37v6, t38v6, t39v6, ()), ((b0v6_0, b0v6_1, ()), ())))))) fun (((_, t6v10, t7v10, t8v10, t9v10, t37v10, t38v10, t39v10, _), ((b0v10_0, b0v10_1, _), _)) : (Unit × Int × Int × Int × Int × D × Int × Int × Unit) × ((D × D × Unit) × Unit)) =>
bd (lenD false b0v10_1) fun v14 =>
lp.run (fun (((_, t6v15, t7v15, t8v15, t9v15, t37v15, t38v15, t39v15, t57v15, t58v15, t59v15, _), ((b0v15_0, b0v15_1, _), _)) : (Unit × Int × Int × Int × Int × D × Int × Int × D × Int × Int × Unit) × ((D × D × Unit) × Unit)) =>
bif (ltZ t59v15 t58v15) then (
ixT q13 1 t57v15 (.int .i64 t59v15) none fun (v18 : Int) =>
bd (shrD .u8 t9v15 t59v15) fun v19 =>
bif (eqZ (andZ .u8 v19 1) 0) then (
bif (eqZ t59v15 (wrapD .i64 (t6v15 - 1))) then (
rt (
some (.inl (((), t6v15, t7v15, t37v15, t38v15, (wrapD .i64 (t39v15 + 1)), ()), ((b0v15_0, b0v15_1, ()), ()))))) else (
some (.inl (((), t6v15, t7v15, t8v15, t9v15, t37v15, t38v15, t39v15, t57v15, t58v15, (wrapD .i64 (t59v15 + 1)), ()), ((b0v15_0, b0v15_1, ()), ()))))) else (
bj (α := (Unit × Int × Int × Int × Int × Int × Int × D × Int × Int × D × Int × Int × Bool × Unit) × ((D × D × Unit) × Unit)) (
bif (!(eqZ t59v15 t8v15)) then (
bd (shrD .u8 v18 t8v15) fun v21 =>
some (.inl (((), t6v15, t7v15, t8v15, t9v15, t59v15, v18, t37v15, t38v15, t39v15, t57v15, t58v15, t59v15, (eqZ (andZ .u8 v21 1) 1), ()), ((b0v15_0, b0v15_1, ()), ())))) else (
some (.inl (((), t6v15, t7v15, t8v15, t9v15, t59v15, v18, t37v15, t38v15, t39v15, t57v15, t58v15, t59v15, false, ()), ((b0v15_0, b0v15_1, ()), ()))))) fun (((_, t6v20, t7v20, t8v20, t9v20, t10v20, t11v20, t37v20, t38v20, t39v20, t57v20, t58v20, t59v20, t70v20, _), ((b0v20_0, b0v20_1, _), _)) : (Unit × Int × Int × Int × Int × Int × Int × D × Int × Int × D × Int × Int × Bool × Unit) × ((D × D × Unit) × Unit)) =>
bif t70v20 then (
bif t70v20 then (
rt (
rt (
some (.tup [(.int .i64 t8v20), (.int .i64 6)])))) else (
bif (eqZ t10v20 (wrapD .i64 (t6v20 - 1))) then (
rt (
some (.inl (((), t6v20, t7v20, t37v20, t38v20, (wrapD .i64 (t39v20 + 1)), ()), ((b0v20_0, b0v20_1, ()), ()))))) else (
some (.inl (((), t6v20, t7v20, t8v20, t9v20, t37v20, t38v20, t39v20, t57v20, t58v20, (wrapD .i64 (t59v20 + 1)), ()), ((b0v20_0, b0v20_1, ()), ())))))) else (
bif (!(eqZ (andNotZ .u8 (andZ .u8 t11v20 t7v20) t9v20) 0)) then (
rt (
rt (
some (.tup [(.int .i64 t8v20), (.int .i64 6)])))) else (
bif (eqZ t10v20 (wrapD .i64 (t6v20 - 1))) then (
rt (
some (.inl (((), t6v20, t7v20, t37v20, t38v20, (wrapD .i64 (t39v20 + 1)), ()), ((b0v20_0, b0v20_1, ()), ()))))) else (
some (.inl (((), t6v20, t7v20, t8v20, t9v20, t37v20, t38v20, t39v20, t57v20, t58v20, (wrapD .i64 (t59v20 + 1)), ()), ((b0v20_0, b0v20_1, ()), ())))))))) else (
rt (
some (.inl (((), t6v15, t7v15, t37v15, t38v15, (wrapD .i64 (t39v15 + 1)), ()), ((b0v15_0, b0v15_1, ()), ())))))) (((), t6v10, t7v10, t8v10, t9v10, t37v10, t38v10, t39v10, b0v10_1, (v14 : Int), (0 : Int), ()), ((b0v10_0, b0v10_1, ()), ()))) else (
rt (
clT q14 (cl 46 [(.iptr [b0v6_0, b0v6_1] 0)]) fun (v23 : (Int × Int × Int × Int × Int × Int × Int × Int × Int × Int × Int × Int × Int × Int × Int × Int × Int × Unit)) =>
lp.run (fun (((t6v24, _, t95v24, t96v24, _), (b23001v24, _)) : (Int × Unit × Int × Int × Unit) × (List D × Unit)) =>
bif (ltZ t96v24 t95v24) then (
lp.run (fun (((t6v25, _, t13v25, t95v25, t96v25, t99v25, t100v25, _), (b23001v25, _)) : (Int × Unit × Int × Int × Int × Int × Int × Unit) × (List D × Unit)) =>
bif (ltZ t100v25 t99v25) then (
tkT q15 b23001v25 1 (some 8) fun (v27 : (Int × Int × Int × Int × Int × Int × Int × Int × Unit)) =>
clT q4 (cl 47 [(.agg [(.int .u8 v27.1), (.int .u8 v27.2.1), (.int .u8 v27.2.2.1), (.int .u8 v27.2.2.2.1), (.int .u8 v27.2.2.2.2.1), (.int .u8 v27.2.2.2.2.2.1), (.int .u8 v27.2.2.2.2.2.2.1), (.int .u8 v27.2.2.2.2.2.2.2.1)]), (.int .i64 t6v25), (.int .i64 t13v25), (.int .i64 t100v25)]) fun (v29 : Int) =>
bif (ltZ v29 0) then (
rt (
rt (
some (.tup [(.int .i64 t13v25), (.int .i64 4)])))) else (
tkT q15 b23001v25 9 (some 8) fun (v31 : (Int × Int × Int × Int × Int × Int × Int × Int × Unit)) =>
clT q4 (cl 48 [(.agg [(.int .u8 v31.1), (.int .u8 v31.2.1), (.int .u8 v31.2.2.1), (.int .u8 v31.2.2.2.1), (.int .u8 v31.2.2.2.2.1), (.int .u8 v31.2.2.2.2.2.1), (.int .u8 v31.2.2.2.2.2.2.1), (.int .u8 v31.2.2.2.2.2.2.2.1)]), (.int .i64 t6v25), (.int .i64 t13v25), (.int .i64 t100v25)]) fun (v33 : Int) =>
bif (ltZ v33 0) then (
rt (
rt (
some (.tup [(.int .i64 t13v25), (.int .i64 4)])))) else (
some (.inl ((t6v25, (), t13v25, t95v25, t96v25, t99v25, (wrapD .i64 (t100v25 + 1)), ()), (b23001v25, ())))))) else (
rt (
some (.inl ((t6v25, (), t95v25, (wrapD .i64 (t96v25 + 1)), ()), (b23001v25, ())))))) ((t6v24, (), t96v24, t95v24, t96v24, t6v24, (0 : Int), ()), (b23001v24, ()))) else (
rt (
some (.tup [(.int .i64 0), (.int .i64 0)])))) ((t6v6, (), t6v6, (0 : Int), ()), ([(.int .i64 v23.1), (.int .u8 v23.2.1), (.int .u8 v23.2.2.1), (.int .u8 v23.2.2.2.1), (.int .u8 v23.2.2.2.2.1), (.int .u8 v23.2.2.2.2.2.1), (.int .u8 v23.2.2.2.2.2.2.1), (.int .u8 v23.2.2.2.2.2.2.2.1), (.int .u8 v23.2.2.2.2.2.2.2.2.1), (.int .u8 v23.2.2.2.2.2.2.2.2.2.1), (.int .u8 v23.2.2.2.2.2.2.2.2.2.2.1), (.int .u8 v23.2.2.2.2.2.2.2.2.2.2.2.1), (.int .u8 v23.2.2.2.2.2.2.2.2.2.2.2.2.1), (.int .u8 v23.2.2.2.2.2.2.2.2.2.2.2.2.2.1), (.int .u8 v23.2.2.2.2.2.2.2.2.2.2.2.2.2.2.1), (.int .u8 v23.2.2.2.2.2.2.2.2.2.2.2.2.2.2.2.1), (.int .u8 v23.2.2.2.2.2.2.2.2.2.2.2.2.2.2.2.2.1)], ()))))) (((), (v2 : Int), (wrapD .u8 (v4 - 1)), a0_1, (v5 : Int), (0 : Int), ()), ((a0_0, a0_1, ()), ()))))
theorem S19_eq (lp : Lp) (cl : CL) (a0_0 : D) (a0_1 : D) : runS lp Tryz.prog TryzG cl 19 [(.agg [(.fz a0_0), (.fz a0_1)])] = S19 lp cl a0_0 a0_1 := by kernel_rfl
def S19_w (lp : Lp) (cl : CL) (args : List D) : Option D := bd (Sh.gds [(.agg [.fz, .fz])] args) fun v => S19 lp cl v.1.1 v.1.2.1
theorem S19_t : TabE TryzE 19 S19_w := tab_of (by kernel_rfl) fun lp cl v => S19_eq lp cl v.1.1 v.1.2.1

/- 24 (invigilator/taint.rules).two -/
def S24 (lp : Lp) (cl : CL) (a0_0 : D) (a0_1 : D) (a0_2 : Int) (a1 : Int) (a2_0 : Int) (a2_1 : Int) (a2_2 : Int) (a2_3 : Int) (a2_4 : Int) (a3_0 : Int) (a3_1 : Int) (a3_2 : Int) (a3_3 : Int) (a3_4 : Int) : Option D :=
clT q4 (cl 26 [(.agg [a0_0, a0_1, (.int .i64 a0_2)]), (.agg [(.int .i64 a2_0), (.int .i64 a2_1), (.int .i64 a2_2), (.int .i64 a2_3), (.int .i64 a2_4)])]) fun (v1 : Int) =>
clT q4 (cl 26 [(.agg [a0_0, a0_1, (.int .i64 a0_2)]), (.agg [(.int .i64 a3_0), (.int .i64 a3_1), (.int .i64 a3_2), (.int .i64 a3_3), (.int .i64 a3_4)])]) fun (v3 : Int) =>
clT q4 (cl 25 [(.agg [a0_0, a0_1, (.int .i64 a0_2)]), (.sl true 2 [(.int .i64 v1), (.int .i64 v3)])]) fun (v5 : Int) =>
clT q4 (cl 25 [(.agg [a0_0, a0_1, (.int .i64 a0_2)]), (.sl true 2 [(.int .i64 a2_4), (.int .i64 a3_4)])]) fun (v7 : Int) =>
clT q4 (cl 25 [(.agg [a0_0, a0_1, (.int .i64 a0_2)]), (.sl true 2 [(.int .i64 v5), (.int .i64 v7)])]) fun (v9 : Int) =>
clT q18 (cl 56 [(.agg [a0_0, a0_1, (.int .i64 a0_2)]), (.agg [(.int .i64 a2_0), (.int .i64 a2_1), (.int .i64 a2_2), (.int .i64 a2_3), (.int .i64 a2_4)]), (.agg [(.int .i64 a3_0), (.int .i64 a3_1), (.int .i64 a3_2), (.int .i64 a3_3), (.int .i64 a3_4)])]) fun (v11 : (Int × Int × Unit)) =>
bj (α := (Unit × Unit × Unit × Unit × Int × Int × Int × Int × Int × Int × Bool × Unit) × ((Int × Int × Unit) × (Int × Int × Unit) × (Int × Int × Unit) × (Int × Int × Unit) × (Int × Int × Int × Int × Int × Unit) × (Int × Int × Int × Int × Int × Unit) × (D × D × Int × Unit) × Unit)) (
bif (eqZ a1 33) then (
some (.inl (((), (), (), (), v9, a0_2, v5, v7, v9, a1, (eqZ a1 33), ()), ((v5, v7, ()), (a2_4, a3_4, ()), (v1, v3, ()), (v11.1, v11.2.1, ()), (a3_0, a3_1, a3_2, a3_3, a3_4, ()), (a2_0, a2_1, a2_2, a2_3, a2_4, ()), (a0_0, a0_1, a0_2, ()), ())))) else (
some (.inl (((), (), (), (), v9, a0_2, v5, v7, v9, a1, (eqZ a1 34), ()), ((v5, v7, ()), (a2_4, a3_4, ()), (v1, v3, ()), (v11.1, v11.2.1, ()), (a3_0, a3_1, a3_2, a3_3, a3_4, ()), (a2_0, a2_1, a2_2, a2_3, a2_4, ()), (a0_0, a0_1, a0_2, ()), ()))))) fun (((_, _, _, _, t9v12, t10v12, t11v12, t12v12, t13v12, t43v12, t56v12, _), ((b2003v12_0, b2003v12_1, _), (b1014v12_0, b1014v12_1, _), (b1007v12_0, b1007v12_1, _), (b3v12_0, b3v12_1, _), (b2v12_0, b2v12_1, b2v12_2, b2v12_3, b2v12_4, _), (b1v12_0, b1v12_1, b1v12_2, b1v12_3, b1v12_4, _), (b0v12_0, b0v12_1, b0v12_2, _), _)) : (Unit × Unit × Unit × Unit × Int × Int × Int × Int × Int × Int × Bool × Unit) × ((Int × Int × Unit) × (Int × Int × Unit) × (Int × Int × Unit) × (Int × Int × Unit) × (Int × Int × Int × Int × Int × Unit) × (Int × Int × Int × Int × Int × Unit) × (D × D × Int × Unit) × Unit)) =>
bif t56v12 then (
clT q18 (cl 55 [(.agg [b0v12_0, b0v12_1, (.int .i64 b0v12_2)]), (.sl true 2 [(.int .i64 b1v12_4), (.int .i64 b2v12_2)])]) fun (v14 : (Int × Int × Unit)) =>
some (.tup [(.agg [(.int .i64 v14.1), (.int .i64 v14.2.1)]), (.int .i64 t9v12), (.int .i64 t10v12)])) else (
bif (eqZ t43v12 35) then (
clT q18 (cl 55 [(.agg [b0v12_0, b0v12_1, (.int .i64 b0v12_2)]), (.sl true 1 [(.int .i64 b1v12_4)])]) fun (v16 : (Int × Int × Unit)) =>
some (.tup [(.agg [(.int .i64 v16.1), (.int .i64 v16.2.1)]), (.int .i64 t12v12), (.int .i64 b1v12_4)])) else (
bif (eqZ t43v12 36) then (
clT q4 (cl 25 [(.agg [b0v12_0, b0v12_1, (.int .i64 b0v12_2)]), (.sl true 2 [(.int .i64 b1v12_4), (.int .i64 b1v12_2)])]) fun (v18 : Int) =>
clT q4 (cl 25 [(.agg [b0v12_0, b0v12_1, (.int .i64 b0v12_2)]), (.sl true 2 [(.int .i64 v18), (.int .i64 b2v12_2)])]) fun (v20 : Int) =>
some (.tup [(.agg [(.int .i64 v18), (.int .i64 v18)]), (.int .i64 t9v12), (.int .i64 v20)])) else (
bif (eqZ t43v12 37) then (
some (.tup [(.agg [(.int .i64 b3v12_0), (.int .i64 b3v12_1)]), (.int .i64 t9v12), (.int .i64 t11v12)])) else (
bif (eqZ t43v12 38) then (
clT q18 (cl 54 [(.agg [b0v12_0, b0v12_1, (.int .i64 b0v12_2)]), (.agg [(.int .i64 b2v12_0), (.int .i64 b2v12_1), (.int .i64 b2v12_2), (.int .i64 b2v12_3), (.int .i64 b2v12_4)])]) fun (v22 : (Int × Int × Unit)) =>
clT q4 (cl 25 [(.agg [b0v12_0, b0v12_1, (.int .i64 b0v12_2)]), (.sl true 2 [(.int .i64 b2v12_4), (.int .i64 t11v12)])]) fun (v24 : Int) =>
some (.tup [(.agg [(.int .i64 v22.1), (.int .i64 v22.2.1)]), (.int .i64 t9v12), (.int .i64 v24)])) else (
bif (eqZ t43v12 39) then (
clT q18 (cl 54 [(.agg [b0v12_0, b0v12_1, (.int .i64 b0v12_2)]), (.agg [(.int .i64 b1v12_0), (.int .i64 b1v12_1), (.int .i64 b1v12_2), (.int .i64 b1v12_3), (.int .i64 b1v12_4)])]) fun (v26 : (Int × Int × Unit)) =>
some (.tup [(.agg [(.int .i64 v26.1), (.int .i64 v26.2.1)]), (.int .i64 t9v12), (.int .i64 t10v12)])) else (
bif (eqZ t43v12 40) then (
clT q18 (cl 55 [(.agg [b0v12_0, b0v12_1, (.int .i64 b0v12_2)]), (.sl true 2 [(.int .i64 t11v12), (.int .i64 b1v12_4)])]) fun (v28 : (Int × Int × Unit)) =>
some (.tup [(.agg [(.int .i64 v28.1), (.int .i64 v28.2.1)]), (.int .i64 t9v12), (.int .i64 t11v12)])) else (
bj (α := (Unit × Unit × Unit × Int × Int × Int × Int × Bool × Unit) × ((Int × Int × Unit) × (Int × Int × Unit) × (Int × Int × Unit) × (Int × Int × Unit) × (Int × Int × Int × Int × Int × Unit) × (Int × Int × Int × Int × Int × Unit) × (D × D × Int × Unit) × Unit)) (
bif (eqZ t43v12 15) then (
some (.inl (((), (), (), t10v12, t11v12, t12v12, t13v12, (eqZ t43v12 15), ()), ((b2003v12_0, b2003v12_1, ()), (b1014v12_0, b1014v12_1, ()), (b1007v12_0, b1007v12_1, ()), (b3v12_0, b3v12_1, ()), (b2v12_0, b2v12_1, b2v12_2, b2v12_3, b2v12_4, ()), (b1v12_0, b1v12_1, b1v12_2, b1v12_3, b1v12_4, ()), (b0v12_0, b0v12_1, b0v12_2, ()), ())))) else (
bif (eqZ t43v12 16) then (
some (.inl (((), (), (), t10v12, t11v12, t12v12, t13v12, (eqZ t43v12 16), ()), ((b2003v12_0, b2003v12_1, ()), (b1014v12_0, b1014v12_1, ()), (b1007v12_0, b1007v12_1, ()), (b3v12_0, b3v12_1, ()), (b2v12_0, b2v12_1, b2v12_2, b2v12_3, b2v12_4, ()), (b1v12_0, b1v12_1, b1v12_2, b1v12_3, b1v12_4, ()), (b0v12_0, b0v12_1, b0v12_2, ()), ())))) else (
bif (eqZ t43v12 17) then (
some (.inl (((), (), (), t10v12, t11v12, t12v12, t13v12, (eqZ t43v12 17), ()), ((b2003v12_0, b2003v12_1, ()), (b1014v12_0, b1014v12_1, ()), (b1007v12_0, b1007v12_1, ()), (b3v12_0, b3v12_1, ()), (b2v12_0, b2v12_1, b2v12_2, b2v12_3, b2v12_4, ()), (b1v12_0, b1v12_1, b1v12_2, b1v12_3, b1v12_4, ()), (b0v12_0, b0v12_1, b0v12_2, ()), ())))) else (
bif (eqZ t43v12 18) then (
some (.inl (((), (), (), t10v12, t11v12, t12v12, t13v12, (eqZ t43v12 18), ()), ((b2003v12_0, b2003v12_1, ()), (b1014v12_0, b1014v12_1, ()), (b1007v12_0, b1007v12_1, ()), (b3v12_0, b3v12_1, ()), (b2v12_0, b2v12_1, b2v12_2, b2v12_3, b2v12_4, ()), (b1v12_0, b1v12_1, b1v12_2, b1v12_3, b1v12_4, ()), (b0v12_0, b0v12_1, b0v12_2, ()), ())))) else (
some (.inl (((), (), (), t10v12, t11v12, t12v12, t13v12, (eqZ t43v12 19), ()), ((b2003v12_0, b2003v12_1, ()), (b1014v12_0, b1014v12_1, ()), (b1007v12_0, b1007v12_1, ()), (b3v12_0, b3v12_1, ()), (b2v12_0, b2v12_1, b2v12_2, b2v12_3, b2v12_4, ()), (b1v12_0, b1v12_1, b1v12_2, b1v12_3, b1v12_4, ()), (b0v12_0, b0v12_1, b0v12_2, ()), ())))))))) fun (((_, _, _, t10v29, t11v29, t12v29, t13v29, t125v29, _), ((b2003v29_0, b2003v29_1, _), (b1014v29_0, b1014v29_1, _), (b1007v29_0, b1007v29_1, _), (b3v29_0, b3v29_1, _), (b2v29_0, b2v29_1, b2v29_2, b2v29_3, b2v29_4, _), (b1v29_0, b1v29_1, b1v29_2, b1v29_3, b1v29_4, _), (b0v29_0, b0v29_1, b0v29_2, _), _)) : (Unit × Unit × Unit × Int × Int × Int × Int × Bool × Unit) × ((Int × Int × Unit) × (Int × Int × Unit) × (Int × Int × Unit) × (Int × Int × Unit) × (Int × Int × Int × Int × Int × Unit) × (Int × Int × Int × Int × Int × Unit) × (D × D × Int × Unit) × Unit)) =>
bif t125v29 then (
some (.tup [(.agg [(.int .i64 b3v29_0), (.int .i64 b3v29_1)]), (.int .i64 t12v29), (.int .i64 t13v29)])) else (
bif (eqZ b1v29_1 b2v29_1) then (
bif (ltZ 0 b1v29_1) then (
some (.tup [(.agg [(.int .i64 b3v29_0), (.int .i64 b3v29_1)]), (.int .i64 t12v29), (.int .i64 t11v29)])) else (
some (.tup [(.agg [(.int .i64 b3v29_0), (.int .i64 b3v29_1)]), (.int .i64 t12v29), (.int .i64 t10v29)]))) else (
some (.tup [(.agg [(.int .i64 b3v29_0), (.int .i64 b3v29_1)]), (.int .i64 t12v29), (.int .i64 t10v29)]))))))))))
theorem S24_eq (lp : Lp) (cl : CL) (a0_0 : D) (a0_1 : D) (a0_2 : Int) (a1 : Int) (a2_0 : Int) (a2_1 : Int) (a2_2 : Int) (a2_3 : Int) (a2_4 : Int) (a3_0 : Int) (a3_1 : Int) (a3_2 : Int) (a3_3 : Int) (a3_4 : Int) : runS lp Tryz.prog TryzG cl 24 [(.agg [(.fz a0_0), (.fz a0_1), (.int .i64 a0_2)]), (.int .i64 a1), (.agg [(.int .i64 a2_0), (.int .i64 a2_1), (.int .i64 a2_2), (.int .i64 a2_3), (.int .i64 a2_4)]), (.agg [(.int .i64 a3_0), (.int .i64 a3_1), (.int .i64 a3_2), (.int .i64 a3_3), (.int .i64 a3_4)])] = S24 lp cl a0_0 a0_1 a0_2 a1 a2_0 a2_1 a2_2 a2_3 a2_4 a3_0 a3_1 a3_2 a3_3 a3_4 := by kernel_rfl
def S24_w (lp : Lp) (cl : CL) (args : List D) : Option D := bd (Sh.gds [(.agg [.fz, .fz, (.int .i64)]), (.int .i64), (.agg [(.int .i64), (.int .i64), (.int .i64), (.int .i64), (.int .i64)]), (.agg [(.int .i64), (.int .i64), (.int .i64), (.int .i64), (.int .i64)])] args) fun v => S24 lp cl v.1.1 v.1.2.1 v.1.2.2.1 v.2.1 v.2.2.1.1 v.2.2.1.2.1 v.2.2.1.2.2.1 v.2.2.1.2.2.2.1 v.2.2.1.2.2.2.2.1 v.2.2.2.1.1 v.2.2.2.1.2.1 v.2.2.2.1.2.2.1 v.2.2.2.1.2.2.2.1 v.2.2.2.1.2.2.2.2.1
theorem S24_t : TabE TryzE 24 S24_w := tab_of (by kernel_rfl) fun lp cl v => S24_eq lp cl v.1.1 v.1.2.1 v.1.2.2.1 v.2.1 v.2.2.1.1 v.2.2.1.2.1 v.2.2.1.2.2.1 v.2.2.1.2.2.2.1 v.2.2.1.2.2.2.2.1 v.2.2.2.1.1 v.2.2.2.1.2.1 v.2.2.2.1.2.2.1 v.2.2.2.1.2.2.2.1 v.2.2.2.1.2.2.2.2.1

/- 27 invigilator/invigilatorref03.Check -/
def S27 (lp : Lp) (cl : CL) (a0_0 : D) (a0_1 : D) : Option D :=
clT q7 (cl 58 [a0_0]) fun (v1 : (Int × Int × Unit)) =>
bif (!(eqZ v1.2.1 0)) then (
some (.tup [(.int .i64 v1.1), (.int .i64 v1.2.1)])) else (
bd (lenD false a0_0) fun v2 =>
bd (lenD false a0_1) fun v3 =>
bif (!(eqZ (v3 : Int) (v2 : Int))) then (
some (.tup [(.int .i64 (-1)), (.int .i64 6)])) else (
lp.run (fun (((_, t6v4, t7v4, _), ((b0v4_0, b0v4_1, _), _)) : (Unit × Int × Int × Unit) × ((D × D × Unit) × Unit)) =>
bif (ltZ t7v4 t6v4) then (
clT q0 (cl 59 [(.agg [b0v4_0, b0v4_1]), (.int .i64 t7v4)]) fun (v6 : Bool) =>
bif (!v6) then (
rt (
some (.tup [(.int .i64 t7v4), (.int .i64 6)]))) else (
some (.inl (((), t6v4, (wrapD .i64 (t7v4 + 1)), ()), ((b0v4_0, b0v4_1, ()), ()))))) else (
rt (
clT q19 (cl 60 [(.agg [b0v4_0, b0v4_1])]) fun (v8 : D) =>
lp.run (fun (((_, t6v9, t8v9, t9v9, _), ((b0v9_0, b0v9_1, _), _)) : (Unit × Int × D × Int × Unit) × ((D × D × Unit) × Unit)) =>
bif (ltZ t9v9 t6v9) then (
lp.run (fun (((_, t6v10, t8v10, t9v10, t10v10, _), ((b0v10_0, b0v10_1, _), _)) : (Unit × Int × D × Int × Int × Unit) × ((D × D × Unit) × Unit)) =>
bif (ltZ t10v10 t6v10) then (
clT q4 (cl 61 [b0v10_1, (.int .i64 t9v10), (.int .i64 t10v10)]) fun (v12 : Int) =>
bif (ltZ v12 0) then (
rt (
rt (
some (.tup [(.int .i64 t9v10), (.int .i64 4)])))) else (
clT q4 (cl 61 [t8v10, (.int .i64 t9v10), (.int .i64 t10v10)]) fun (v14 : Int) =>
bif (ltZ v14 0) then (
rt (
rt (
some (.tup [(.int .i64 t9v10), (.int .i64 4)])))) else (
some (.inl (((), t6v10, t8v10, t9v10, (wrapD .i64 (t10v10 + 1)), ()), ((b0v10_0, b0v10_1, ()), ())))))) else (
rt (
some (.inl (((), t6v10, t8v10, (wrapD .i64 (t9v10 + 1)), ()), ((b0v10_0, b0v10_1, ()), ())))))) (((), t6v9, t8v9, t9v9, (0 : Int), ()), ((b0v9_0, b0v9_1, ()), ()))) else (
rt (
some (.tup [(.int .i64 0), (.int .i64 0)])))) (((), t6v4, v8, (0 : Int), ()), ((b0v4_0, b0v4_1, ()), ()))))) (((), (v2 : Int), (0 : Int), ()), ((a0_0, a0_1, ()), ()))))
theorem S27_eq (lp : Lp) (cl : CL) (a0_0 : D) (a0_1 : D) : runS lp Tryz.prog TryzG cl 27 [(.agg [(.fz a0_0), (.fz a0_1)])] = S27 lp cl a0_0 a0_1 := by kernel_rfl
def S27_w (lp : Lp) (cl : CL) (args : List D) : Option D := bd (Sh.gds [(.agg [.fz, .fz])] args) fun v => S27 lp cl v.1.1 v.1.2.1
theorem S27_t : TabE TryzE 27 S27_w := tab_of (by kernel_rfl) fun lp cl v => S27_eq lp cl v.1.1 v.1.2.1

/- 32 invigilator/invigilatorref27.join -/
def S32 (lp : Lp) (cl : CL) (a0_0 : D) (a0_1 : D) (a1 : D) : Option D :=
clT q7 (cl 36 [(.agg [a0_0, a0_1])]) fun (v1 : (Int × Int × Unit)) =>
lp.run (fun (((t1v2, _, t5v2, t7v2, _), ((b0v2_0, b0v2_1, _), _)) : (D × Unit × Int × Int × Unit) × ((D × D × Unit) × Unit)) =>
bd (lenD false t1v2) fun v3 =>
bif (ltZ t7v2 (v3 : Int)) then (
ixT q4 1 t1v2 (.int .i64 t7v2) none fun (v6 : Int) =>
clT q7 (cl 33 [(.agg [b0v2_0, b0v2_1]), (.int .i64 t5v2), (.int .i64 v6)]) fun (v8 : (Int × Int × Unit)) =>
some (.inl ((t1v2, (), v8.1, (wrapD .i64 (t7v2 + 1)), ()), ((b0v2_0, b0v2_1, ()), ())))) else (
rt (
some (.int .i64 t5v2)))) ((a1, (), v1.1, (0 : Int), ()), ((a0_0, a0_1, ()), ()))
theorem S32_eq (lp : Lp) (cl : CL) (a0_0 : D) (a0_1 : D) (a1 : D) : runS lp Tryz.prog TryzG cl 32 [(.agg [(.fz a0_0), (.fz a0_1)]), (.fz a1)] = S32 lp cl a0_0 a0_1 a1 := by kernel_rfl
def S32_w (lp : Lp) (cl : CL) (args : List D) : Option D := bd (Sh.gds [(.agg [.fz, .fz]), .fz] args) fun v => S32 lp cl v.1.1 v.1.2.1 v.2.1
theorem S32_t : TabE TryzE 32 S32_w := tab_of (by kernel_rfl) fun lp cl v => S32_eq lp cl v.1.1 v.1.2.1 v.2.1

/- 34 invigilator/invigilatorref03.Leq -/
def S34 (lp : Lp) (cl : CL) (a0_0 : D) (a0_1 : D) (a1 : Int) (a2 : Int) : Option D :=
clT q4 (cl 64 [(.agg [a0_0, a0_1]), (.int .i64 a1), (.int .i64 a2)]) fun (v1 : Int) =>
bif (eqZ v1 0) then (
clT q0 (cl 37 [(.agg [a0_0, a0_1]), (.int .i64 a1), (.int .i64 a2)]) fun (v3 : Bool) =>
some (.tup [(.bool v3), (.int .i64 v1)])) else (
some (.tup [(.bool false), (.int .i64 v1)]))
theorem S34_eq (lp : Lp) (cl : CL) (a0_0 : D) (a0_1 : D) (a1 : Int) (a2 : Int) : runS lp Tryz.prog TryzG cl 34 [(.agg [(.fz a0_0), (.fz a0_1)]), (.int .i64 a1), (.int .i64 a2)] = S34 lp cl a0_0 a0_1 a1 a2 := by kernel_rfl
def S34_w (lp : Lp) (cl : CL) (args : List D) : Option D := bd (Sh.gds [(.agg [.fz, .fz]), (.int .i64), (.int .i64)] args) fun v => S34 lp cl v.1.1 v.1.2.1 v.2.1 v.2.2.1
theorem S34_t : TabE TryzE 34 S34_w := tab_of (by kernel_rfl) fun lp cl v => S34_eq lp cl v.1.1 v.1.2.1 v.2.1 v.2.2.1

/- 43 invigilator/invigilatorref12.kind -/
def S43 (lp : Lp) (cl : CL) (a0 : Int) (a1 : D) : Option D :=
bj (α := (D × Int × Bool × Unit) × (Unit)) (
bif (eqZ a0 5) then (
some (.inl ((a1, a0, (eqZ a0 5), ()), (())))) else (
bif (eqZ a0 6) then (
some (.inl ((a1, a0, (eqZ a0 6), ()), (())))) else (
bif (eqZ a0 7) then (
some (.inl ((a1, a0, (eqZ a0 7), ()), (())))) else (
bif (eqZ a0 37) then (
some (.inl ((a1, a0, (eqZ a0 37), ()), (())))) else (
some (.inl ((a1, a0, (eqZ a0 38), ()), (())))))))) fun (((t1v0, t5v0, t6v0, _), (_)) : (D × Int × Bool × Unit) × (Unit)) =>
bif t6v0 then (
ixT q4 1 t1v0 (.int .i64 0) none fun (v3 : Int) =>
some (.int .i64 v3)) else (
bif (eqZ t5v0 33) then (
bif (eqZ t5v0 33) then (
ixT q4 1 t1v0 (.int .i64 1) none fun (v6 : Int) =>
some (.int .i64 v6)) else (
some (.int .i64 1))) else (
bif (eqZ t5v0 34) then (
bif (eqZ t5v0 34) then (
ixT q4 1 t1v0 (.int .i64 1) none fun (v9 : Int) =>
some (.int .i64 v9)) else (
some (.int .i64 1))) else (
bif (eqZ t5v0 35) then (
bif (eqZ t5v0 35) then (
ixT q4 1 t1v0 (.int .i64 1) none fun (v12 : Int) =>
some (.int .i64 v12)) else (
some (.int .i64 1))) else (
bif (eqZ t5v0 36) then (
bif (eqZ t5v0 36) then (
ixT q4 1 t1v0 (.int .i64 1) none fun (v15 : Int) =>
some (.int .i64 v15)) else (
some (.int .i64 1))) else (
bif (eqZ t5v0 40) then (
ixT q4 1 t1v0 (.int .i64 1) none fun (v18 : Int) =>
some (.int .i64 v18)) else (
some (.int .i64 1)))))))
theorem S43_eq (lp : Lp) (cl : CL) (a0 : Int) (a1 : D) : runS lp Tryz.prog TryzG cl 43 [(.int .i64 a0), (.fz a1)] = S43 lp cl a0 a1 := by kernel_rfl
def S43_w (lp : Lp) (cl : CL) (args : List D) : Option D := bd (Sh.gds [(.int .i64), .fz] args) fun v => S43 lp cl v.1 v.2.1
theorem S43_t : TabE TryzE 43 S43_w := tab_of (by kernel_rfl) fun lp cl v => S43_eq lp cl v.1 v.2.1

/- 45 math/bits.Len8 -/
def S45 (lp : Lp) (cl : CL) (a0 : Int) : Option D :=
bd (ixStr [0, 1, 2, 2, 3, 3, 3, 3, 4, 4, 4, 4, 4, 4, 4, 4, 5, 5, 5, 5, 5, 5, 5, 5, 5, 5, 5, 5, 5, 5, 5, 5, 6, 6, 6, 6, 6, 6, 6, 6, 6, 6, 6, 6, 6, 6, 6, 6, 6, 6, 6, 6, 6, 6, 6, 6, 6, 6, 6, 6, 6, 6, 6, 6, 7, 7, 7, 7, 7, 7, 7, 7, 7, 7, 7, 7, 7, 7, 7, 7, 7, 7, 7, 7, 7, 7, 7, 7, 7, 7, 7, 7, 7, 7, 7, 7, 7, 7, 7, 7, 7, 7, 7, 7, 7, 7, 7, 7, 7, 7, 7, 7, 7, 7, 7, 7, 7, 7, 7, 7, 7, 7, 7, 7, 7, 7, 7, 7, 8, 8, 8, 8, 8, 8, 8, 8, 8, 8, 8, 8, 8, 8, 8, 8, 8, 8, 8, 8, 8, 8, 8, 8, 8, 8, 8, 8, 8, 8, 8, 8, 8, 8, 8, 8, 8, 8, 8, 8, 8, 8, 8, 8, 8, 8, 8, 8, 8, 8, 8, 8, 8, 8, 8, 8, 8, 8, 8, 8, 8, 8, 8, 8, 8, 8, 8, 8, 8, 8, 8, 8, 8, 8, 8, 8, 8, 8, 8, 8, 8, 8, 8, 8, 8, 8, 8, 8, 8, 8, 8, 8, 8, 8, 8, 8, 8, 8, 8, 8, 8, 8, 8, 8, 8, 8, 8, 8, 8, 8, 8, 8, 8, 8, 8, 8, 8, 8, 8, 8, 8, 8, 8, 8, 8, 8, 8, 8] (.int .u8 a0)) fun v0 =>
some (.int .i64 (wrapD .i64 v0))
theorem S45_eq (lp : Lp) (cl : CL) (a0 : Int) : runS lp Tryz.prog TryzG cl 45 [(.int .u8 a0)] = S45 lp cl a0 := by kernel_rfl
def S45_w (lp : Lp) (cl : CL) (args : List D) : Option D := bd (Sh.gds [(.int .u8)] args) fun v => S45 lp cl v.1
theorem S45_t : TabE TryzE 45 S45_w := tab_of (by kernel_rfl) fun lp cl v => S45_eq lp cl v.1

/- 48 invigilator/lattice.bound[invigilator/lattice.downs] -/
def S48 (lp : Lp) (cl : CL) (a0_0 : Int) (a0_1 : Int) (a0_2 : Int) (a0_3 : Int) (a0_4 : Int) (a0_5 : Int) (a0_6 : Int) (a0_7 : Int) (a1 : Int) (a2 : Int) (a3 : Int) : Option D :=
bd (idxD 8 (.int .i64 a2)) fun v0 =>
tkT q13 [(.int .u8 a0_0), (.int .u8 a0_1), (.int .u8 a0_2), (.int .u8 a0_3), (.int .u8 a0_4), (.int .u8 a0_5), (.int .u8 a0_6), (.int .u8 a0_7)] (0 + v0 * 1) none fun (v2 : Int) =>
bd (idxD 8 (.int .i64 a3)) fun v3 =>
tkT q13 [(.int .u8 a0_0), (.int .u8 a0_1), (.int .u8 a0_2), (.int .u8 a0_3), (.int .u8 a0_4), (.int .u8 a0_5), (.int .u8 a0_6), (.int .u8 a0_7)] (0 + v3 * 1) none fun (v5 : Int) =>
lp.run (fun (((_, t9v6, t18v6, t19v6, _), (b0v6, _)) : (Unit × Int × Int × Int × Unit) × (List D × Unit)) =>
bif (ltZ t19v6 t18v6) then (
bd (shrD .u8 t9v6 t19v6) fun v7 =>
bif (eqZ (andZ .u8 v7 1) 1) then (
bd (idxD 8 (.int .i64 t19v6)) fun v8 =>
tkT q13 b0v6 (0 + v8 * 1) none fun (v10 : Int) =>
bif (eqZ v10 t9v6) then (
rt (
some (.int .i64 t19v6))) else (
some (.inl (((), t9v6, t18v6, (wrapD .i64 (t19v6 + 1)), ()), (b0v6, ()))))) else (
some (.inl (((), t9v6, t18v6, (wrapD .i64 (t19v6 + 1)), ()), (b0v6, ()))))) else (
rt (
some (.int .i64 (-1))))) (((), (andZ .u8 v2 v5), a1, (0 : Int), ()), ([(.int .u8 a0_0), (.int .u8 a0_1), (.int .u8 a0_2), (.int .u8 a0_3), (.int .u8 a0_4), (.int .u8 a0_5), (.int .u8 a0_6), (.int .u8 a0_7)], ()))
theorem S48_eq (lp : Lp) (cl : CL) (a0_0 : Int) (a0_1 : Int) (a0_2 : Int) (a0_3 : Int) (a0_4 : Int) (a0_5 : Int) (a0_6 : Int) (a0_7 : Int) (a1 : Int) (a2 : Int) (a3 : Int) : runS lp Tryz.prog TryzG cl 48 [(.agg [(.int .u8 a0_0), (.int .u8 a0_1), (.int .u8 a0_2), (.int .u8 a0_3), (.int .u8 a0_4), (.int .u8 a0_5), (.int .u8 a0_6), (.int .u8 a0_7)]), (.int .i64 a1), (.int .i64 a2), (.int .i64 a3)] = S48 lp cl a0_0 a0_1 a0_2 a0_3 a0_4 a0_5 a0_6 a0_7 a1 a2 a3 := by kernel_rfl
def S48_w (lp : Lp) (cl : CL) (args : List D) : Option D := bd (Sh.gds [(.agg [(.int .u8), (.int .u8), (.int .u8), (.int .u8), (.int .u8), (.int .u8), (.int .u8), (.int .u8)]), (.int .i64), (.int .i64), (.int .i64)] args) fun v => S48 lp cl v.1.1 v.1.2.1 v.1.2.2.1 v.1.2.2.2.1 v.1.2.2.2.2.1 v.1.2.2.2.2.2.1 v.1.2.2.2.2.2.2.1 v.1.2.2.2.2.2.2.2.1 v.2.1 v.2.2.1 v.2.2.2.1
theorem S48_t : TabE TryzE 48 S48_w := tab_of (by kernel_rfl) fun lp cl v => S48_eq lp cl v.1.1 v.1.2.1 v.1.2.2.1 v.1.2.2.2.1 v.1.2.2.2.2.1 v.1.2.2.2.2.2.1 v.1.2.2.2.2.2.2.1 v.1.2.2.2.2.2.2.2.1 v.2.1 v.2.2.1 v.2.2.2.1

/- 50 (invigilator/prims.prim).arity -/
def S50 (lp : Lp) (cl : CL) (a0_0 : List UInt8) (a0_1 : D) (a0_2 : D) (a0_3 : D) (a0_4 : D) : Option D :=
ixT q12 1 a0_1 (.int .i64 0) none fun (v2 : List UInt8) =>
bd (quoD .i64 (List.length v2 : Int) 2) fun v3 =>
some (.int .i64 (wrapD .i64 (v3 - 1)))
theorem S50_eq (lp : Lp) (cl : CL) (a0_0 : List UInt8) (a0_1 : D) (a0_2 : D) (a0_3 : D) (a0_4 : D) : runS lp Tryz.prog TryzG cl 50 [(.agg [(.str a0_0), (.fz a0_1), (.fz a0_2), (.fz a0_3), (.fz a0_4)])] = S50 lp cl a0_0 a0_1 a0_2 a0_3 a0_4 := by kernel_rfl
def S50_w (lp : Lp) (cl : CL) (args : List D) : Option D := bd (Sh.gds [(.agg [.str, .fz, .fz, .fz, .fz])] args) fun v => S50 lp cl v.1.1 v.1.2.1 v.1.2.2.1 v.1.2.2.2.1 v.1.2.2.2.2.1
theorem S50_t : TabE TryzE 50 S50_w := tab_of (by kernel_rfl) fun lp cl v => S50_eq lp cl v.1.1 v.1.2.1 v.1.2.2.1 v.1.2.2.2.1 v.1.2.2.2.2.1

/- 51 invigilator/prims.match -/
def S51 (lp : Lp) (cl : CL) (a0 : List UInt8) (a1 : D) (a2 : D) : Option D :=
lp.run (fun (((t1v0, t2v0, t6v0, t7v0, t8v0, t9v0, t10v0, t11v0, _, _), ((b3001v0_s, b3001v0_p), _)) : (D × D × Int × Int × Bool × Bool × Int × Int × Unit × Unit) × ((List UInt8 × Nat) × Unit)) =>
bif Nat.blt b3001v0_p (List.length b3001v0_s) then (
bd (quoD .i64 (b3001v0_p : Int) 2) fun v1 =>
bd (lenD false t1v0) fun v2 =>
bif (eqZ v1 (v2 : Int)) then (
bif (eqZ (decR b3001v0_s b3001v0_p) 105) then (
some (.inl ((t1v0, t2v0, (1 : Int), t7v0, t8v0, t9v0, t10v0, t11v0, (), ()), ((b3001v0_s, (b3001v0_p + decW b3001v0_s b3001v0_p)), ())))) else (
bif (eqZ (decR b3001v0_s b3001v0_p) 107) then (
some (.inl ((t1v0, t2v0, t10v0, t7v0, t8v0, t9v0, t10v0, t11v0, (), ()), ((b3001v0_s, (b3001v0_p + decW b3001v0_s b3001v0_p)), ())))) else (
bif (eqZ (decR b3001v0_s b3001v0_p) 110) then (
some (.inl ((t1v0, t2v0, t6v0, t11v0, t8v0, t9v0, t10v0, t11v0, (), ()), ((b3001v0_s, (b3001v0_p + decW b3001v0_s b3001v0_p)), ())))) else (
some (.inl ((t1v0, t2v0, t6v0, (wrapD .i64 (wrapD .i32 ((decR b3001v0_s b3001v0_p) - 48))), t8v0, t9v0, t10v0, t11v0, (), ()), ((b3001v0_s, (b3001v0_p + decW b3001v0_s b3001v0_p)), ()))))))) else (
bif (eqZ (decR b3001v0_s b3001v0_p) 105) then (
bif t8v0 then (
ixT q4 1 t1v0 (.int .i64 v1) none fun (v5 : Int) =>
some (.inl ((t1v0, t2v0, t6v0, t7v0, (eqZ v5 1), t9v0, t10v0, t11v0, (), ()), ((b3001v0_s, (b3001v0_p + decW b3001v0_s b3001v0_p)), ())))) else (
some (.inl ((t1v0, t2v0, t6v0, t7v0, false, t9v0, t10v0, t11v0, (), ()), ((b3001v0_s, (b3001v0_p + decW b3001v0_s b3001v0_p)), ()))))) else (
bif (eqZ (decR b3001v0_s b3001v0_p) 107) then (
bif t8v0 then (
ixT q4 1 t1v0 (.int .i64 v1) none fun (v8 : Int) =>
bif (eqZ v8 1) then (
bif (eqZ t10v0 0) then (
ixT q4 1 t1v0 (.int .i64 v1) none fun (v11 : Int) =>
some (.inl ((t1v0, t2v0, t6v0, t7v0, true, t9v0, v11, t11v0, (), ()), ((b3001v0_s, (b3001v0_p + decW b3001v0_s b3001v0_p)), ())))) else (
ixT q4 1 t1v0 (.int .i64 v1) none fun (v14 : Int) =>
ixT q4 1 t1v0 (.int .i64 v1) none fun (v17 : Int) =>
some (.inl ((t1v0, t2v0, t6v0, t7v0, (eqZ t10v0 v14), t9v0, v17, t11v0, (), ()), ((b3001v0_s, (b3001v0_p + decW b3001v0_s b3001v0_p)), ()))))) else (
ixT q4 1 t1v0 (.int .i64 v1) none fun (v20 : Int) =>
bif (eqZ v20 2) then (
bif (eqZ t10v0 0) then (
ixT q4 1 t1v0 (.int .i64 v1) none fun (v23 : Int) =>
some (.inl ((t1v0, t2v0, t6v0, t7v0, true, t9v0, v23, t11v0, (), ()), ((b3001v0_s, (b3001v0_p + decW b3001v0_s b3001v0_p)), ())))) else (
ixT q4 1 t1v0 (.int .i64 v1) none fun (v26 : Int) =>
ixT q4 1 t1v0 (.int .i64 v1) none fun (v29 : Int) =>
some (.inl ((t1v0, t2v0, t6v0, t7v0, (eqZ t10v0 v26), t9v0, v29, t11v0, (), ()), ((b3001v0_s, (b3001v0_p + decW b3001v0_s b3001v0_p)), ()))))) else (
ixT q4 1 t1v0 (.int .i64 v1) none fun (v32 : Int) =>
some (.inl ((t1v0, t2v0, t6v0, t7v0, false, t9v0, v32, t11v0, (), ()), ((b3001v0_s, (b3001v0_p + decW b3001v0_s b3001v0_p)), ())))))) else (
ixT q4 1 t1v0 (.int .i64 v1) none fun (v35 : Int) =>
some (.inl ((t1v0, t2v0, t6v0, t7v0, false, t9v0, v35, t11v0, (), ()), ((b3001v0_s, (b3001v0_p + decW b3001v0_s b3001v0_p)), ()))))) else (
bif (eqZ (decR b3001v0_s b3001v0_p) 110) then (
bif t9v0 then (
ixT q4 1 t2v0 (.int .i64 v1) none fun (v38 : Int) =>
bif (leZ 0 v38) then (
ixT q4 1 t2v0 (.int .i64 v1) none fun (v41 : Int) =>
bif (leZ v41 2) then (
bif (ltZ t11v0 0) then (
ixT q4 1 t2v0 (.int .i64 v1) none fun (v44 : Int) =>
some (.inl ((t1v0, t2v0, t6v0, t7v0, t8v0, true, t10v0, v44, (), ()), ((b3001v0_s, (b3001v0_p + decW b3001v0_s b3001v0_p)), ())))) else (
ixT q4 1 t2v0 (.int .i64 v1) none fun (v47 : Int) =>
ixT q4 1 t2v0 (.int .i64 v1) none fun (v50 : Int) =>
some (.inl ((t1v0, t2v0, t6v0, t7v0, t8v0, (eqZ t11v0 v47), t10v0, v50, (), ()), ((b3001v0_s, (b3001v0_p + decW b3001v0_s b3001v0_p)), ()))))) else (
ixT q4 1 t2v0 (.int .i64 v1) none fun (v53 : Int) =>
some (.inl ((t1v0, t2v0, t6v0, t7v0, t8v0, false, t10v0, v53, (), ()), ((b3001v0_s, (b3001v0_p + decW b3001v0_s b3001v0_p)), ()))))) else (
ixT q4 1 t2v0 (.int .i64 v1) none fun (v56 : Int) =>
some (.inl ((t1v0, t2v0, t6v0, t7v0, t8v0, false, t10v0, v56, (), ()), ((b3001v0_s, (b3001v0_p + decW b3001v0_s b3001v0_p)), ()))))) else (
ixT q4 1 t2v0 (.int .i64 v1) none fun (v59 : Int) =>
some (.inl ((t1v0, t2v0, t6v0, t7v0, t8v0, false, t10v0, v59, (), ()), ((b3001v0_s, (b3001v0_p + decW b3001v0_s b3001v0_p)), ()))))) else (
bif t9v0 then (
ixT q4 1 t2v0 (.int .i64 v1) none fun (v62 : Int) =>
some (.inl ((t1v0, t2v0, t6v0, t7v0, t8v0, (eqZ v62 (wrapD .i64 (wrapD .i32 ((decR b3001v0_s b3001v0_p) - 48)))), t10v0, t11v0, (), ()), ((b3001v0_s, (b3001v0_p + decW b3001v0_s b3001v0_p)), ())))) else (
some (.inl ((t1v0, t2v0, t6v0, t7v0, t8v0, false, t10v0, t11v0, (), ()), ((b3001v0_s, (b3001v0_p + decW b3001v0_s b3001v0_p)), ()))))))))) else (
rt (
some (.tup [(.int .i64 t6v0), (.int .i64 t7v0), (.bool t8v0), (.bool t9v0)])))) ((a1, a2, (0 : Int), (0 : Int), true, true, (0 : Int), ((-1) : Int), (), ()), ((a0, 0), ()))
theorem S51_eq (lp : Lp) (cl : CL) (a0 : List UInt8) (a1 : D) (a2 : D) : runS lp Tryz.prog TryzG cl 51 [(.str a0), (.fz a1), (.fz a2)] = S51 lp cl a0 a1 a2 := by kernel_rfl
def S51_w (lp : Lp) (cl : CL) (args : List D) : Option D := bd (Sh.gds [.str, .fz, .fz] args) fun v => S51 lp cl v.1 v.2.1 v.2.2.1
theorem S51_t : TabE TryzE 51 S51_w := tab_of (by kernel_rfl) fun lp cl v => S51_eq lp cl v.1 v.2.1 v.2.2.1

/- 57 invigilator/lattice.Join -/
def S57 (lp : Lp) (cl : CL) (a0_0 : D) (a0_1 : D) (a1 : Int) (a2 : Int) : Option D :=
clT q4 (cl 74 [(.iptr [a0_0, a0_1] 0), (.sl true 2 [(.int .i64 a1), (.int .i64 a2)])]) fun (v1 : Int) =>
bif (!(eqZ v1 0)) then (
some (.tup [(.int .i64 0), (.int .i64 v1)])) else (
clT q14 (cl 46 [(.iptr [a0_0, a0_1] 0)]) fun (v3 : (Int × Int × Int × Int × Int × Int × Int × Int × Int × Int × Int × Int × Int × Int × Int × Int × Int × Unit)) =>
clT q4 (cl 47 [(.agg [(.int .u8 v3.2.1), (.int .u8 v3.2.2.1), (.int .u8 v3.2.2.2.1), (.int .u8 v3.2.2.2.2.1), (.int .u8 v3.2.2.2.2.2.1), (.int .u8 v3.2.2.2.2.2.2.1), (.int .u8 v3.2.2.2.2.2.2.2.1), (.int .u8 v3.2.2.2.2.2.2.2.2.1)]), (.int .i64 v3.1), (.int .i64 a1), (.int .i64 a2)]) fun (v5 : Int) =>
some (.tup [(.int .i64 v5), (.int .i64 0)]))
theorem S57_eq (lp : Lp) (cl : CL) (a0_0 : D) (a0_1 : D) (a1 : Int) (a2 : Int) : runS lp Tryz.prog TryzG cl 57 [(.agg [(.fz a0_0), (.fz a0_1)]), (.int .i64 a1), (.int .i64 a2)] = S57 lp cl a0_0 a0_1 a1 a2 := by kernel_rfl
def S57_w (lp : Lp) (cl : CL) (args : List D) : Option D := bd (Sh.gds [(.agg [.fz, .fz]), (.int .i64), (.int .i64)] args) fun v => S57 lp cl v.1.1 v.1.2.1 v.2.1 v.2.2.1
theorem S57_t : TabE TryzE 57 S57_w := tab_of (by kernel_rfl) fun lp cl v => S57_eq lp cl v.1.1 v.1.2.1 v.2.1 v.2.2.1

/- 58 invigilator/invigilatorref03.names -/
def S58 (lp : Lp) (cl : CL) (a0 : D) : Option D :=
bj (α := (D × Unit) × (Unit)) (
bd (lenD false a0) fun v1 =>
bif (ltZ (v1 : Int) 1) then (
rt (
some (.tup [(.int .i64 (-1)), (.int .i64 3)]))) else (
bd (lenD false a0) fun v2 =>
bif (ltZ 8 (v2 : Int)) then (
rt (
some (.tup [(.int .i64 (-1)), (.int .i64 3)]))) else (
some (.inl ((a0, ()), (())))))) fun (((t0v0, _), (_)) : (D × Unit) × (Unit)) =>
lp.run (fun (((t0v3, t4v3, _), (_)) : (D × Int × Unit) × (Unit)) =>
bd (lenD false t0v3) fun v4 =>
bif (ltZ t4v3 (v4 : Int)) then (
ixT q12 1 t0v3 (.int .i64 t4v3) none fun (v7 : List UInt8) =>
clT q0 (cl 76 [(.str v7)]) fun (v9 : Bool) =>
bif (!v9) then (
rt (
some (.tup [(.int .i64 t4v3), (.int .i64 6)]))) else (
lp.run (fun (((t0v10, t4v10, t5v10, _), (_)) : (D × Int × Int × Unit) × (Unit)) =>
bif (ltZ t5v10 t4v10) then (
ixT q12 1 t0v10 (.int .i64 t5v10) none fun (v13 : List UInt8) =>
ixT q12 1 t0v10 (.int .i64 t4v10) none fun (v16 : List UInt8) =>
bif (eqS v13 v16) then (
rt (
rt (
some (.tup [(.int .i64 t4v10), (.int .i64 8)])))) else (
some (.inl ((t0v10, t4v10, (wrapD .i64 (t5v10 + 1)), ()), (()))))) else (
rt (
some (.inl ((t0v10, (wrapD .i64 (t4v10 + 1)), ()), (())))))) ((t0v3, t4v3, (0 : Int), ()), (())))) else (
rt (
some (.tup [(.int .i64 0), (.int .i64 0)])))) ((t0v0, (0 : Int), ()), (()))
theorem S58_eq (lp : Lp) (cl : CL) (a0 : D) : runS lp Tryz.prog TryzG cl 58 [(.fz a0)] = S58 lp cl a0 := by kernel_rfl
def S58_w (lp : Lp) (cl : CL) (args : List D) : Option D := bd (Sh.gds [.fz] args) fun v => S58 lp cl v.1
theorem S58_t : TabE TryzE 58 S58_w := tab_of (by kernel_rfl) fun lp cl v => S58_eq lp cl v.1

/- 66 invigilator/invigilatorref20.Label -/
def S66 (lp : Lp) (cl : CL) (a0_0 : D) (a0_1 : D) (a1 : Int) : Option D :=
bif (leZ 0 a1) then (
bd (lenD false a0_0) fun v0 =>
some (.bool (ltZ a1 (v0 : Int)))) else (
some (.bool false))
theorem S66_eq (lp : Lp) (cl : CL) (a0_0 : D) (a0_1 : D) (a1 : Int) : runS lp Tryz.prog TryzG cl 66 [(.agg [(.fz a0_0), (.fz a0_1)]), (.int .i64 a1)] = S66 lp cl a0_0 a0_1 a1 := by kernel_rfl
def S66_w (lp : Lp) (cl : CL) (args : List D) : Option D := bd (Sh.gds [(.agg [.fz, .fz]), (.int .i64)] args) fun v => S66 lp cl v.1.1 v.1.2.1 v.2.1
theorem S66_t : TabE TryzE 66 S66_w := tab_of (by kernel_rfl) fun lp cl v => S66_eq lp cl v.1.1 v.1.2.1 v.2.1

/- 72 slices.Contains[[]string,string] -/
def S72 (lp : Lp) (cl : CL) (a0 : D) (a1 : List UInt8) : Option D :=
clT q4 (cl 83 [a0, (.str a1)]) fun (v1 : Int) =>
some (.bool (leZ 0 v1))
theorem S72_eq (lp : Lp) (cl : CL) (a0 : D) (a1 : List UInt8) : runS lp Tryz.prog TryzG cl 72 [(.fz a0), (.str a1)] = S72 lp cl a0 a1 := by kernel_rfl
def S72_w (lp : Lp) (cl : CL) (args : List D) : Option D := bd (Sh.gds [.fz, .str] args) fun v => S72 lp cl v.1 v.2.1
theorem S72_t : TabE TryzE 72 S72_w := tab_of (by kernel_rfl) fun lp cl v => S72_eq lp cl v.1 v.2.1

/- 77 invigilator/invigilatorref21.join -/
def S77 (lp : Lp) (cl : CL) (a0_0 : D) (a0_1 : D) (a1 : Int) (a2 : Int) : Option D :=
clT q4 (cl 108 [(.agg [a0_0, a0_1]), (.int .i64 a1), (.int .i64 a2)]) fun (v1 : Int) =>
some (.int .i64 v1)
theorem S77_eq (lp : Lp) (cl : CL) (a0_0 : D) (a0_1 : D) (a1 : Int) (a2 : Int) : runS lp Tryz.prog TryzG cl 77 [(.agg [(.fz a0_0), (.fz a0_1)]), (.int .i64 a1), (.int .i64 a2)] = S77 lp cl a0_0 a0_1 a1 a2 := by kernel_rfl
def S77_w (lp : Lp) (cl : CL) (args : List D) : Option D := bd (Sh.gds [(.agg [.fz, .fz]), (.int .i64), (.int .i64)] args) fun v => S77 lp cl v.1.1 v.1.2.1 v.2.1 v.2.2.1
theorem S77_t : TabE TryzE 77 S77_w := tab_of (by kernel_rfl) fun lp cl v => S77_eq lp cl v.1.1 v.1.2.1 v.2.1 v.2.2.1

/- 80 invigilator/invigilatorref21.extends -/
def S80 (lp : Lp) (cl : CL) (a0 : Int) : Option D :=
bif (leZ 15 a0) then (
some (.bool (leZ a0 32))) else (
some (.bool false))
theorem S80_eq (lp : Lp) (cl : CL) (a0 : Int) : runS lp Tryz.prog TryzG cl 80 [(.int .i64 a0)] = S80 lp cl a0 := by kernel_rfl
def S80_w (lp : Lp) (cl : CL) (args : List D) : Option D := bd (Sh.gds [(.int .i64)] args) fun v => S80 lp cl v.1
theorem S80_t : TabE TryzE 80 S80_w := tab_of (by kernel_rfl) fun lp cl v => S80_eq lp cl v.1

/- 113 strings.trimRightASCII -/
def S113 (lp : Lp) (cl : CL) (a0 : List UInt8) (a1 : D) : Option D :=
lp.run (fun (((t0v0, t1v0, _), (_)) : (List UInt8 × D × Unit) × (Unit)) =>
bif (ltZ 0 (List.length t0v0 : Int)) then (
bd (ixStr t0v0 (.int .i64 (wrapD .i64 ((List.length t0v0 : Int) - 1)))) fun v1 =>
clT q0 (cl 142 [t1v0, (.int .u8 v1)]) fun (v3 : Bool) =>
bif (!v3) then (
rt (
some (.str t0v0))) else (
bd (slStr t0v0 none (some (.int .i64 (wrapD .i64 ((List.length t0v0 : Int) - 1))))) fun v4 =>
some (.inl ((v4, t1v0, ()), (()))))) else (
rt (
some (.str t0v0)))) ((a0, a1, ()), (()))
theorem S113_eq (lp : Lp) (cl : CL) (a0 : List UInt8) (a1 : D) : runS lp Tryz.prog TryzG cl 113 [(.str a0), (.fz a1)] = S113 lp cl a0 a1 := by kernel_rfl
def S113_w (lp : Lp) (cl : CL) (args : List D) : Option D := bd (Sh.gds [.str, .fz] args) fun v => S113 lp cl v.1 v.2.1
theorem S113_t : TabE TryzE 113 S113_w := tab_of (by kernel_rfl) fun lp cl v => S113_eq lp cl v.1 v.2.1

/- 114 strings.trimLeftUnicode -/
def S114 (lp : Lp) (cl : CL) (a0 : List UInt8) (a1 : List UInt8) : Option D :=
lp.run (fun (((t0v0, t1v0, _), (_)) : (List UInt8 × List UInt8 × Unit) × (Unit)) =>
bif (ltZ 0 (List.length t0v0 : Int)) then (
clT q28 (cl 143 [(.str t0v0)]) fun (v2 : (Int × Int × Unit)) =>
clT q0 (cl 144 [(.str t1v0), (.int .i32 v2.1)]) fun (v4 : Bool) =>
bif (!v4) then (
rt (
some (.str t0v0))) else (
bd (slStr t0v0 (some (.int .i64 v2.2.1)) none) fun v5 =>
some (.inl ((v5, t1v0, ()), (()))))) else (
rt (
some (.str t0v0)))) ((a0, a1, ()), (()))
theorem S114_eq (lp : Lp) (cl : CL) (a0 : List UInt8) (a1 : List UInt8) : runS lp Tryz.prog TryzG cl 114 [(.str a0), (.str a1)] = S114 lp cl a0 a1 := by kernel_rfl
def S114_w (lp : Lp) (cl : CL) (args : List D) : Option D := bd (Sh.gds [.str, .str] args) fun v => S114 lp cl v.1 v.2.1
theorem S114_t : TabE TryzE 114 S114_w := tab_of (by kernel_rfl) fun lp cl v => S114_eq lp cl v.1 v.2.1

/- 115 strings.trimRightUnicode -/
def S115 (lp : Lp) (cl : CL) (a0 : List UInt8) (a1 : List UInt8) : Option D :=
lp.run (fun (((t0v0, t1v0, _), (_)) : (List UInt8 × List UInt8 × Unit) × (Unit)) =>
bif (ltZ 0 (List.length t0v0 : Int)) then (
bd (ixStr t0v0 (.int .i64 (wrapD .i64 ((List.length t0v0 : Int) - 1)))) fun v1 =>
bj (α := (List UInt8 × List UInt8 × Int × Int × Unit) × (Unit)) (
bif (leZ 128 (wrapD .i32 v1)) then (
clT q28 (cl 145 [(.str t0v0)]) fun (v4 : (Int × Int × Unit)) =>
some (.inl ((t0v0, t1v0, v4.1, v4.2.1, ()), (())))) else (
some (.inl ((t0v0, t1v0, (wrapD .i32 v1), (1 : Int), ()), (()))))) fun (((t0v2, t1v2, t5v2, t6v2, _), (_)) : (List UInt8 × List UInt8 × Int × Int × Unit) × (Unit)) =>
clT q0 (cl 144 [(.str t1v2), (.int .i32 t5v2)]) fun (v6 : Bool) =>
bif (!v6) then (
rt (
some (.str t0v2))) else (
bd (slStr t0v2 none (some (.int .i64 (wrapD .i64 ((List.length t0v2 : Int) - t6v2))))) fun v7 =>
some (.inl ((v7, t1v2, ()), (()))))) else (
rt (
some (.str t0v0)))) ((a0, a1, ()), (()))
theorem S115_eq (lp : Lp) (cl : CL) (a0 : List UInt8) (a1 : List UInt8) : runS lp Tryz.prog TryzG cl 115 [(.str a0), (.str a1)] = S115 lp cl a0 a1 := by kernel_rfl
def S115_w (lp : Lp) (cl : CL) (args : List D) : Option D := bd (Sh.gds [.str, .str] args) fun v => S115 lp cl v.1 v.2.1
theorem S115_t : TabE TryzE 115 S115_w := tab_of (by kernel_rfl) fun lp cl v => S115_eq lp cl v.1 v.2.1

end Go.Proofs.YtblbgjfkbcdlfaaGreatDoor
