/- What the functions come to. -/
import Derived.Test.YtblbgjfkbcdlfaaGreatDoorSH
set_option linter.unusedVariables false
set_option maxRecDepth 100000
namespace Go.Proofs.YtblbgjfkbcdlfaaGreatDoor
open Go Iv
/- 17 invigilator/invigilatorlaw27.ints -/
def S17 (lp : Lp) (cl : CL) (a0 : Int) (a1 : Int) (a2 : Int) : Option D :=
bif (ltZ 0 a0) then (
some (.agg [(.int .i64 1), (.int .i64 a0), (.int .i64 a1), (.int .i64 0), (.int .i64 a2)])) else (
some (.agg [(.int .i64 1), (.int .i64 a0), (.int .i64 0), (.int .i64 0), (.int .i64 a2)]))
theorem S17_eq (lp : Lp) (cl : CL) (a0 : Int) (a1 : Int) (a2 : Int) : runS lp Tryz.prog TryzG cl 17 [(.int .i64 a0), (.int .i64 a1), (.int .i64 a2)] = S17 lp cl a0 a1 a2 := by kernel_rfl
def S17_w (lp : Lp) (cl : CL) (args : List D) : Option D := bd (Sh.gds [(.int .i64), (.int .i64), (.int .i64)] args) fun v => S17 lp cl v.1 v.2.1 v.2.2.1
theorem S17_t : TabE TryzE 17 S17_w := tab_of (by kernel_rfl) fun lp cl v => S17_eq lp cl v.1 v.2.1 v.2.2.1

/- 22 invigilator/taint.of -/
def S22 (lp : Lp) (cl : CL) (a0_0 : D) (a0_1 : D) : Option D :=
clT q7 (cl 53 [(.agg [a0_0, a0_1])]) fun (v1 : (Int × Int × Unit)) =>
some (.agg [a0_0, a0_1, (.int .i64 v1.1)])
theorem S22_eq (lp : Lp) (cl : CL) (a0_0 : D) (a0_1 : D) : runS lp Tryz.prog TryzG cl 22 [(.agg [(.fz a0_0), (.fz a0_1)])] = S22 lp cl a0_0 a0_1 := by kernel_rfl
def S22_w (lp : Lp) (cl : CL) (args : List D) : Option D := bd (Sh.gds [(.agg [.fz, .fz])] args) fun v => S22 lp cl v.1.1 v.1.2.1
theorem S22_t : TabE TryzE 22 S22_w := tab_of (by kernel_rfl) fun lp cl v => S22_eq lp cl v.1.1 v.1.2.1

/- 25 (invigilator/taint.rules).join -/
def S25 (lp : Lp) (cl : CL) (a0_0 : D) (a0_1 : D) (a0_2 : Int) (a1 : D) : Option D :=
bd (lenD false a1) fun v0 =>
lp.run (fun (((_, t5v1, t10v1, t11v1, t12v1, _), ((b0v1_0, b0v1_1, b0v1_2, _), _)) : (Unit × Int × D × Int × Int × Unit) × ((D × D × Int × Unit) × Unit)) =>
bif (ltZ t12v1 t11v1) then (
ixT q4 1 t10v1 (.int .i64 t12v1) none fun (v4 : Int) =>
clT q7 (cl 57 [(.agg [b0v1_0, b0v1_1]), (.int .i64 t5v1), (.int .i64 v4)]) fun (v6 : (Int × Int × Unit)) =>
some (.inl (((), v6.1, t10v1, t11v1, (wrapD .i64 (t12v1 + 1)), ()), ((b0v1_0, b0v1_1, b0v1_2, ()), ())))) else (
rt (
some (.int .i64 t5v1)))) (((), a0_2, a1, (v0 : Int), (0 : Int), ()), ((a0_0, a0_1, a0_2, ()), ()))
theorem S25_eq (lp : Lp) (cl : CL) (a0_0 : D) (a0_1 : D) (a0_2 : Int) (a1 : D) : runS lp Tryz.prog TryzG cl 25 [(.agg [(.fz a0_0), (.fz a0_1), (.int .i64 a0_2)]), (.fz a1)] = S25 lp cl a0_0 a0_1 a0_2 a1 := by kernel_rfl
def S25_w (lp : Lp) (cl : CL) (args : List D) : Option D := bd (Sh.gds [(.agg [.fz, .fz, (.int .i64)]), .fz] args) fun v => S25 lp cl v.1.1 v.1.2.1 v.1.2.2.1 v.2.1
theorem S25_t : TabE TryzE 25 S25_w := tab_of (by kernel_rfl) fun lp cl v => S25_eq lp cl v.1.1 v.1.2.1 v.1.2.2.1 v.2.1

/- 26 (invigilator/taint.rules).lens -/
def S26 (lp : Lp) (cl : CL) (a0_0 : D) (a0_1 : D) (a0_2 : Int) (a1_0 : Int) (a1_1 : Int) (a1_2 : Int) (a1_3 : Int) (a1_4 : Int) : Option D :=
bd (bndO 2 2 (some (.int .i64 a1_1))) fun v0 =>
bd (frSl (Nat.beq 2 v0) 2 1 v0 [(.int .i64 a1_0), (.int .i64 a1_1), (.int .i64 a1_2), (.int .i64 a1_3), (.int .i64 a1_4)]) fun v1 =>
clT q4 (cl 25 [(.agg [a0_0, a0_1, (.int .i64 a0_2)]), v1]) fun (v3 : Int) =>
some (.int .i64 v3)
theorem S26_eq (lp : Lp) (cl : CL) (a0_0 : D) (a0_1 : D) (a0_2 : Int) (a1_0 : Int) (a1_1 : Int) (a1_2 : Int) (a1_3 : Int) (a1_4 : Int) : runS lp Tryz.prog TryzG cl 26 [(.agg [(.fz a0_0), (.fz a0_1), (.int .i64 a0_2)]), (.agg [(.int .i64 a1_0), (.int .i64 a1_1), (.int .i64 a1_2), (.int .i64 a1_3), (.int .i64 a1_4)])] = S26 lp cl a0_0 a0_1 a0_2 a1_0 a1_1 a1_2 a1_3 a1_4 := by kernel_rfl
def S26_w (lp : Lp) (cl : CL) (args : List D) : Option D := bd (Sh.gds [(.agg [.fz, .fz, (.int .i64)]), (.agg [(.int .i64), (.int .i64), (.int .i64), (.int .i64), (.int .i64)])] args) fun v => S26 lp cl v.1.1 v.1.2.1 v.1.2.2.1 v.2.1.1 v.2.1.2.1 v.2.1.2.2.1 v.2.1.2.2.2.1 v.2.1.2.2.2.2.1
theorem S26_t : TabE TryzE 26 S26_w := tab_of (by kernel_rfl) fun lp cl v => S26_eq lp cl v.1.1 v.1.2.1 v.1.2.2.1 v.2.1.1 v.2.1.2.1 v.2.1.2.2.1 v.2.1.2.2.2.1 v.2.1.2.2.2.2.1

/- 27 invigilator/invigilatorref03.Check -/
def S27 (lp : Lp) (cl : CL) (a0_0 : D) (a0_1 : D) : Option D :=
clT q7 (cl 58 [a0_0]) fun (v1 : (Int × Int × Unit)) =>
bif (!(eqZ v1.2.1 0)) then (
some (.tup [(.int .i64 v1.1), (.int .i64 v1.2.1)])) else (
bd (lenD false a0_0) fun v2 =>
bd (lenD false a0_1) fun v3 =>
bif (!(eqZ (v3 : Int) (v2 : Int))) then (
some (.tup [(.int .i64 (-1)), (.int .i64 6)])) else (
lp.run (fun (((_, t6v4, t7v4, _), ((b0v4_0, b0v4_1, _), _)) : (Unit × Int × Int × Unit) × ((D × D × Unit) × Unit)) =>
bif (ltZ t7v4 t6v4) then (
clT q0 (cl 59 [(.agg [b0v4_0, b0v4_1]), (.int .i64 t7v4)]) fun (v6 : Bool) =>
bif (!v6) then (
rt (
some (.tup [(.int .i64 t7v4), (.int .i64 6)]))) else (
some (.inl (((), t6v4, (wrapD .i64 (t7v4 + 1)), ()), ((b0v4_0, b0v4_1, ()), ()))))) else (
rt (
clT q19 (cl 60 [(.agg [b0v4_0, b0v4_1])]) fun (v8 : D) =>
lp.run (fun (((_, t6v9, t8v9, t9v9, _), ((b0v9_0, b0v9_1, _), _)) : (Unit × Int × D × Int × Unit) × ((D × D × Unit) × Unit)) =>
bif (ltZ t9v9 t6v9) then (
lp.run (fun (((_, t6v10, t8v10, t9v10, t10v10, _), ((b0v10_0, b0v10_1, _), _)) : (Unit × Int × D × Int × Int × Unit) × ((D × D × Unit) × Unit)) =>
bif (ltZ t10v10 t6v10) then (
clT q4 (cl 61 [b0v10_1, (.int .i64 t9v10), (.int .i64 t10v10)]) fun (v12 : Int) =>
bif (ltZ v12 0) then (
rt (
rt (
some (.tup [(.int .i64 t9v10), (.int .i64 4)])))) else (
clT q4 (cl 61 [t8v10, (.int .i64 t9v10), (.int .i64 t10v10)]) fun (v14 : Int) =>
bif (ltZ v14 0) then (
rt (
rt (
some (.tup [(.int .i64 t9v10), (.int .i64 4)])))) else (
some (.inl (((), t6v10, t8v10, t9v10, (wrapD .i64 (t10v10 + 1)), ()), ((b0v10_0, b0v10_1, ()), ())))))) else (
rt (
some (.inl (((), t6v10, t8v10, (wrapD .i64 (t9v10 + 1)), ()), ((b0v10_0, b0v10_1, ()), ())))))) (((), t6v9, t8v9, t9v9, (0 : Int), ()), ((b0v9_0, b0v9_1, ()), ()))) else (
rt (
some (.tup [(.int .i64 0), (.int .i64 0)])))) (((), t6v4, v8, (0 : Int), ()), ((b0v4_0, b0v4_1, ()), ()))))) (((), (v2 : Int), (0 : Int), ()), ((a0_0, a0_1, ()), ()))))
theorem S27_eq (lp : Lp) (cl : CL) (a0_0 : D) (a0_1 : D) : runS lp Tryz.prog TryzG cl 27 [(.agg [(.fz a0_0), (.fz a0_1)])] = S27 lp cl a0_0 a0_1 := by kernel_rfl
def S27_w (lp : Lp) (cl : CL) (args : List D) : Option D := bd (Sh.gds [(.agg [.fz, .fz])] args) fun v => S27 lp cl v.1.1 v.1.2.1
theorem S27_t : TabE TryzE 27 S27_w := tab_of (by kernel_rfl) fun lp cl v => S27_eq lp cl v.1.1 v.1.2.1

/- 31 invigilator/invigilatorref27.two -/
def S31 (lp : Lp) (cl : CL) (a0_0 : D) (a0_1 : D) (a1 : Int) (a2_0 : Int) (a2_1 : Int) (a2_2 : Int) (a2_3 : Int) (a2_4 : Int) (a3_0 : Int) (a3_1 : Int) (a3_2 : Int) (a3_3 : Int) (a3_4 : Int) : Option D :=
clT q4 (cl 32 [(.agg [a0_0, a0_1]), .nils]) fun (v1 : Int) =>
clT q4 (cl 29 [(.agg [a0_0, a0_1]), (.agg [(.int .i64 a2_0), (.int .i64 a2_1), (.int .i64 a2_2), (.int .i64 a2_3), (.int .i64 a2_4)])]) fun (v3 : Int) =>
clT q4 (cl 29 [(.agg [a0_0, a0_1]), (.agg [(.int .i64 a3_0), (.int .i64 a3_1), (.int .i64 a3_2), (.int .i64 a3_3), (.int .i64 a3_4)])]) fun (v5 : Int) =>
clT q4 (cl 32 [(.agg [a0_0, a0_1]), (.sl true 2 [(.int .i64 v3), (.int .i64 v5)])]) fun (v7 : Int) =>
clT q4 (cl 32 [(.agg [a0_0, a0_1]), (.sl true 2 [(.int .i64 a2_4), (.int .i64 a3_4)])]) fun (v9 : Int) =>
clT q4 (cl 32 [(.agg [a0_0, a0_1]), (.sl true 2 [(.int .i64 v7), (.int .i64 v9)])]) fun (v11 : Int) =>
bj (α := (Unit × Unit × Unit × Unit × Int × Int × Int × Unit) × ((Int × Int × Unit) × (Int × Int × Unit) × (Int × Int × Unit) × (Int × Int × Unit) × (Int × Int × Int × Int × Int × Unit) × (Int × Int × Int × Int × Int × Unit) × (D × D × Unit) × Unit)) (
bj (α := (Unit × Unit × Unit × Unit × Int × Int × Int × Int × Int × Bool × Unit) × ((Int × Int × Unit) × (Int × Int × Unit) × (Int × Int × Unit) × (Int × Int × Unit) × (Int × Int × Int × Int × Int × Unit) × (Int × Int × Int × Int × Int × Unit) × (D × D × Unit) × Unit)) (
bif (eqZ a1 33) then (
some (.inl (((), (), (), (), v1, v7, v9, v11, a1, (eqZ a1 33), ()), ((v7, v9, ()), (a2_4, a3_4, ()), (v3, v5, ()), ((0 : Int), (0 : Int), ()), (a3_0, a3_1, a3_2, a3_3, a3_4, ()), (a2_0, a2_1, a2_2, a2_3, a2_4, ()), (a0_0, a0_1, ()), ())))) else (
some (.inl (((), (), (), (), v1, v7, v9, v11, a1, (eqZ a1 34), ()), ((v7, v9, ()), (a2_4, a3_4, ()), (v3, v5, ()), ((0 : Int), (0 : Int), ()), (a3_0, a3_1, a3_2, a3_3, a3_4, ()), (a2_0, a2_1, a2_2, a2_3, a2_4, ()), (a0_0, a0_1, ()), ()))))) fun (((_, _, _, _, t11v13, t12v13, t13v13, t14v13, t42v13, t43v13, _), ((b4003v13_0, b4003v13_1, _), (b3005v13_0, b3005v13_1, _), (b2007v13_0, b2007v13_1, _), (b3v13_0, b3v13_1, _), (b2v13_0, b2v13_1, b2v13_2, b2v13_3, b2v13_4, _), (b1v13_0, b1v13_1, b1v13_2, b1v13_3, b1v13_4, _), (b0v13_0, b0v13_1, _), _)) : (Unit × Unit × Unit × Unit × Int × Int × Int × Int × Int × Bool × Unit) × ((Int × Int × Unit) × (Int × Int × Unit) × (Int × Int × Unit) × (Int × Int × Unit) × (Int × Int × Int × Int × Int × Unit) × (Int × Int × Int × Int × Int × Unit) × (D × D × Unit) × Unit)) =>
bif t43v13 then (
clT q4 (cl 32 [(.agg [b0v13_0, b0v13_1]), (.sl true 2 [(.int .i64 b1v13_4), (.int .i64 b2v13_2)])]) fun (v15 : Int) =>
rt (
some (.tup [(.agg [(.int .i64 v15), (.int .i64 t11v13)]), (.int .i64 t14v13), (.int .i64 t11v13)]))) else (
bif (eqZ t42v13 35) then (
rt (
some (.tup [(.agg [(.int .i64 b1v13_4), (.int .i64 t11v13)]), (.int .i64 t13v13), (.int .i64 b1v13_4)]))) else (
bif (eqZ t42v13 36) then (
clT q4 (cl 32 [(.agg [b0v13_0, b0v13_1]), (.sl true 2 [(.int .i64 b1v13_4), (.int .i64 b1v13_2)])]) fun (v17 : Int) =>
clT q4 (cl 32 [(.agg [b0v13_0, b0v13_1]), (.sl true 2 [(.int .i64 v17), (.int .i64 b2v13_2)])]) fun (v19 : Int) =>
rt (
some (.tup [(.agg [(.int .i64 v17), (.int .i64 v17)]), (.int .i64 t14v13), (.int .i64 v19)]))) else (
bif (eqZ t42v13 37) then (
clT q18 (cl 63 [(.agg [b0v13_0, b0v13_1]), (.agg [(.int .i64 b1v13_0), (.int .i64 b1v13_1), (.int .i64 b1v13_2), (.int .i64 b1v13_3), (.int .i64 b1v13_4)]), (.agg [(.int .i64 b2v13_0), (.int .i64 b2v13_1), (.int .i64 b2v13_2), (.int .i64 b2v13_3), (.int .i64 b2v13_4)])]) fun (v21 : (Int × Int × Unit)) =>
rt (
some (.tup [(.agg [(.int .i64 v21.1), (.int .i64 v21.2.1)]), (.int .i64 t14v13), (.int .i64 t12v13)]))) else (
bif (eqZ t42v13 38) then (
bj (α := (Unit × Unit × Unit × Int × Int × Unit × Unit) × ((Int × Int × Unit) × (Int × Int × Unit) × (Int × Int × Unit) × (Int × Int × Unit) × (Int × Int × Unit) × (Int × Int × Int × Int × Int × Unit) × (Int × Int × Int × Int × Int × Unit) × (D × D × Unit) × Unit)) (
bif (eqZ b2v13_1 1) then (
some (.inl (((), (), (), t12v13, t14v13, (), ()), ((b2v13_2, t11v13, ()), (b4003v13_0, b4003v13_1, ()), (b3005v13_0, b3005v13_1, ()), (b2007v13_0, b2007v13_1, ()), (b3v13_0, b3v13_1, ()), (b2v13_0, b2v13_1, b2v13_2, b2v13_3, b2v13_4, ()), (b1v13_0, b1v13_1, b1v13_2, b1v13_3, b1v13_4, ()), (b0v13_0, b0v13_1, ()), ())))) else (
some (.inl (((), (), (), t12v13, t14v13, (), ()), ((t11v13, t11v13, ()), (b4003v13_0, b4003v13_1, ()), (b3005v13_0, b3005v13_1, ()), (b2007v13_0, b2007v13_1, ()), (b3v13_0, b3v13_1, ()), (b2v13_0, b2v13_1, b2v13_2, b2v13_3, b2v13_4, ()), (b1v13_0, b1v13_1, b1v13_2, b1v13_3, b1v13_4, ()), (b0v13_0, b0v13_1, ()), ()))))) fun (((_, _, _, t12v22, t14v22, _, _), ((b17003v22_0, b17003v22_1, _), (b4003v22_0, b4003v22_1, _), (b3005v22_0, b3005v22_1, _), (b2007v22_0, b2007v22_1, _), (b3v22_0, b3v22_1, _), (b2v22_0, b2v22_1, b2v22_2, b2v22_3, b2v22_4, _), (b1v22_0, b1v22_1, b1v22_2, b1v22_3, b1v22_4, _), (b0v22_0, b0v22_1, _), _)) : (Unit × Unit × Unit × Int × Int × Unit × Unit) × ((Int × Int × Unit) × (Int × Int × Unit) × (Int × Int × Unit) × (Int × Int × Unit) × (Int × Int × Unit) × (Int × Int × Int × Int × Int × Unit) × (Int × Int × Int × Int × Int × Unit) × (D × D × Unit) × Unit)) =>
clT q4 (cl 32 [(.agg [b0v22_0, b0v22_1]), (.sl true 2 [(.int .i64 b2v22_4), (.int .i64 t12v22)])]) fun (v24 : Int) =>
rt (
some (.tup [(.agg [(.int .i64 b17003v22_0), (.int .i64 b17003v22_1)]), (.int .i64 t14v22), (.int .i64 v24)]))) else (
bif (eqZ t42v13 39) then (
lp.run (fun (((_, _, t11v25, t14v25, _, t18v25, _), ((b22003v25_0, b22003v25_1, _), (b3v25_0, b3v25_1, _), (b1v25_0, b1v25_1, b1v25_2, b1v25_3, b1v25_4, _), _)) : (Unit × Unit × Int × Int × Unit × Int × Unit) × ((Int × Int × Unit) × (Int × Int × Unit) × (Int × Int × Int × Int × Int × Unit) × Unit)) =>
bif (ltZ t18v25 b1v25_1) then (
bd (idxD 2 (.int .i64 t18v25)) fun v26 =>
tkT q4 [(.int .i64 b1v25_0), (.int .i64 b1v25_1), (.int .i64 b1v25_2), (.int .i64 b1v25_3), (.int .i64 b1v25_4)] (2 + v26 * 1) none fun (v28 : Int) =>
bd (idxD 2 (.int .i64 t18v25)) fun v29 =>
bd (inR (0 + v29 * 1) 1 2) fun _ =>
bd (Sh.gds [(.int .i64), (.int .i64)] (setQ [(.int .i64 b22003v25_0), (.int .i64 b22003v25_1)] (0 + v29 * 1) [(.int .i64 v28)])) fun (v30 : (Int × Int × Unit)) =>
some (.inl (((), (), t11v25, t14v25, (), (wrapD .i64 (t18v25 + 1)), ()), (v30, (b3v25_0, b3v25_1, ()), (b1v25_0, b1v25_1, b1v25_2, b1v25_3, b1v25_4, ()), ())))) else (
rt (
rt (
some (.tup [(.agg [(.int .i64 b22003v25_0), (.int .i64 b22003v25_1)]), (.int .i64 t14v25), (.int .i64 t11v25)]))))) (((), (), t11v13, t14v13, (), (0 : Int), ()), ((t11v13, t11v13, ()), (b3v13_0, b3v13_1, ()), (b1v13_0, b1v13_1, b1v13_2, b1v13_3, b1v13_4, ()), ()))) else (
bif (eqZ t42v13 40) then (
clT q4 (cl 32 [(.agg [b0v13_0, b0v13_1]), (.sl true 2 [(.int .i64 t12v13), (.int .i64 b1v13_4)])]) fun (v32 : Int) =>
rt (
some (.tup [(.agg [(.int .i64 v32), (.int .i64 t11v13)]), (.int .i64 t14v13), (.int .i64 t12v13)]))) else (
bj (α := (Unit × Unit × Unit × Unit × Int × Int × Int × Int × Bool × Unit) × ((Int × Int × Unit) × (Int × Int × Unit) × (Int × Int × Unit) × (Int × Int × Unit) × (Int × Int × Int × Int × Int × Unit) × (Int × Int × Int × Int × Int × Unit) × (D × D × Unit) × Unit)) (
bif (eqZ t42v13 15) then (
some (.inl (((), (), (), (), t11v13, t12v13, t13v13, t14v13, (eqZ t42v13 15), ()), ((b4003v13_0, b4003v13_1, ()), (b3005v13_0, b3005v13_1, ()), (b2007v13_0, b2007v13_1, ()), (b3v13_0, b3v13_1, ()), (b2v13_0, b2v13_1, b2v13_2, b2v13_3, b2v13_4, ()), (b1v13_0, b1v13_1, b1v13_2, b1v13_3, b1v13_4, ()), (b0v13_0, b0v13_1, ()), ())))) else (
bif (eqZ t42v13 16) then (
some (.inl (((), (), (), (), t11v13, t12v13, t13v13, t14v13, (eqZ t42v13 16), ()), ((b4003v13_0, b4003v13_1, ()), (b3005v13_0, b3005v13_1, ()), (b2007v13_0, b2007v13_1, ()), (b3v13_0, b3v13_1, ()), (b2v13_0, b2v13_1, b2v13_2, b2v13_3, b2v13_4, ()), (b1v13_0, b1v13_1, b1v13_2, b1v13_3, b1v13_4, ()), (b0v13_0, b0v13_1, ()), ())))) else (
bif (eqZ t42v13 17) then (
some (.inl (((), (), (), (), t11v13, t12v13, t13v13, t14v13, (eqZ t42v13 17), ()), ((b4003v13_0, b4003v13_1, ()), (b3005v13_0, b3005v13_1, ()), (b2007v13_0, b2007v13_1, ()), (b3v13_0, b3v13_1, ()), (b2v13_0, b2v13_1, b2v13_2, b2v13_3, b2v13_4, ()), (b1v13_0, b1v13_1, b1v13_2, b1v13_3, b1v13_4, ()), (b0v13_0, b0v13_1, ()), ())))) else (
bif (eqZ t42v13 18) then (
some (.inl (((), (), (), (), t11v13, t12v13, t13v13, t14v13, (eqZ t42v13 18), ()), ((b4003v13_0, b4003v13_1, ()), (b3005v13_0, b3005v13_1, ()), (b2007v13_0, b2007v13_1, ()), (b3v13_0, b3v13_1, ()), (b2v13_0, b2v13_1, b2v13_2, b2v13_3, b2v13_4, ()), (b1v13_0, b1v13_1, b1v13_2, b1v13_3, b1v13_4, ()), (b0v13_0, b0v13_1, ()), ())))) else (
some (.inl (((), (), (), (), t11v13, t12v13, t13v13, t14v13, (eqZ t42v13 19), ()), ((b4003v13_0, b4003v13_1, ()), (b3005v13_0, b3005v13_1, ()), (b2007v13_0, b2007v13_1, ()), (b3v13_0, b3v13_1, ()), (b2v13_0, b2v13_1, b2v13_2, b2v13_3, b2v13_4, ()), (b1v13_0, b1v13_1, b1v13_2, b1v13_3, b1v13_4, ()), (b0v13_0, b0v13_1, ()), ())))))))) fun (((_, _, _, _, t11v33, t12v33, t13v33, t14v33, t148v33, _), ((b4003v33_0, b4003v33_1, _), (b3005v33_0, b3005v33_1, _), (b2007v33_0, b2007v33_1, _), (b3v33_0, b3v33_1, _), (b2v33_0, b2v33_1, b2v33_2, b2v33_3, b2v33_4, _), (b1v33_0, b1v33_1, b1v33_2, b1v33_3, b1v33_4, _), (b0v33_0, b0v33_1, _), _)) : (Unit × Unit × Unit × Unit × Int × Int × Int × Int × Bool × Unit) × ((Int × Int × Unit) × (Int × Int × Unit) × (Int × Int × Unit) × (Int × Int × Unit) × (Int × Int × Int × Int × Int × Unit) × (Int × Int × Int × Int × Int × Unit) × (D × D × Unit) × Unit)) =>
bif t148v33 then (
clT q18 (cl 63 [(.agg [b0v33_0, b0v33_1]), (.agg [(.int .i64 b1v33_0), (.int .i64 b1v33_1), (.int .i64 b1v33_2), (.int .i64 b1v33_3), (.int .i64 b1v33_4)]), (.agg [(.int .i64 b2v33_0), (.int .i64 b2v33_1), (.int .i64 b2v33_2), (.int .i64 b2v33_3), (.int .i64 b2v33_4)])]) fun (v35 : (Int × Int × Unit)) =>
rt (
some (.tup [(.agg [(.int .i64 v35.1), (.int .i64 v35.2.1)]), (.int .i64 t13v33), (.int .i64 t14v33)]))) else (
some (.inl (((), (), (), (), t11v33, t12v33, t13v33, ()), ((b4003v33_0, b4003v33_1, ()), (b3005v33_0, b3005v33_1, ()), (b2007v33_0, b2007v33_1, ()), (b3v33_0, b3v33_1, ()), (b2v33_0, b2v33_1, b2v33_2, b2v33_3, b2v33_4, ()), (b1v33_0, b1v33_1, b1v33_2, b1v33_3, b1v33_4, ()), (b0v33_0, b0v33_1, ()), ())))))))))))) fun (((_, _, _, _, t11v12, t12v12, t13v12, _), ((b4003v12_0, b4003v12_1, _), (b3005v12_0, b3005v12_1, _), (b2007v12_0, b2007v12_1, _), (b3v12_0, b3v12_1, _), (b2v12_0, b2v12_1, b2v12_2, b2v12_3, b2v12_4, _), (b1v12_0, b1v12_1, b1v12_2, b1v12_3, b1v12_4, _), (b0v12_0, b0v12_1, _), _)) : (Unit × Unit × Unit × Unit × Int × Int × Int × Unit) × ((Int × Int × Unit) × (Int × Int × Unit) × (Int × Int × Unit) × (Int × Int × Unit) × (Int × Int × Int × Int × Int × Unit) × (Int × Int × Int × Int × Int × Unit) × (D × D × Unit) × Unit)) =>
bj (α := (Unit × Unit × Unit × Unit × Int × Int × Unit) × ((Int × Int × Unit) × (Int × Int × Unit) × (Int × Int × Unit) × (Int × Int × Unit) × (Int × Int × Int × Int × Int × Unit) × (Int × Int × Int × Int × Int × Unit) × (D × D × Unit) × Unit)) (
bj (α := (Unit × Unit × Unit × Unit × Int × Int × Int × Bool × Unit) × ((Int × Int × Unit) × (Int × Int × Unit) × (Int × Int × Unit) × (Int × Int × Unit) × (Int × Int × Int × Int × Int × Unit) × (Int × Int × Int × Int × Int × Unit) × (D × D × Unit) × Unit)) (
bif (eqZ b1v12_1 b2v12_1) then (
some (.inl (((), (), (), (), t11v12, t12v12, t13v12, (ltZ 0 b1v12_1), ()), ((b4003v12_0, b4003v12_1, ()), (b3005v12_0, b3005v12_1, ()), (b2007v12_0, b2007v12_1, ()), (b3v12_0, b3v12_1, ()), (b2v12_0, b2v12_1, b2v12_2, b2v12_3, b2v12_4, ()), (b1v12_0, b1v12_1, b1v12_2, b1v12_3, b1v12_4, ()), (b0v12_0, b0v12_1, ()), ())))) else (
some (.inl (((), (), (), (), t11v12, t12v12, t13v12, false, ()), ((b4003v12_0, b4003v12_1, ()), (b3005v12_0, b3005v12_1, ()), (b2007v12_0, b2007v12_1, ()), (b3v12_0, b3v12_1, ()), (b2v12_0, b2v12_1, b2v12_2, b2v12_3, b2v12_4, ()), (b1v12_0, b1v12_1, b1v12_2, b1v12_3, b1v12_4, ()), (b0v12_0, b0v12_1, ()), ()))))) fun (((_, _, _, _, t11v37, t12v37, t13v37, t169v37, _), ((b4003v37_0, b4003v37_1, _), (b3005v37_0, b3005v37_1, _), (b2007v37_0, b2007v37_1, _), (b3v37_0, b3v37_1, _), (b2v37_0, b2v37_1, b2v37_2, b2v37_3, b2v37_4, _), (b1v37_0, b1v37_1, b1v37_2, b1v37_3, b1v37_4, _), (b0v37_0, b0v37_1, _), _)) : (Unit × Unit × Unit × Unit × Int × Int × Int × Bool × Unit) × ((Int × Int × Unit) × (Int × Int × Unit) × (Int × Int × Unit) × (Int × Int × Unit) × (Int × Int × Int × Int × Int × Unit) × (Int × Int × Int × Int × Int × Unit) × (D × D × Unit) × Unit)) =>
bif t169v37 then (
clT q18 (cl 63 [(.agg [b0v37_0, b0v37_1]), (.agg [(.int .i64 b1v37_0), (.int .i64 b1v37_1), (.int .i64 b1v37_2), (.int .i64 b1v37_3), (.int .i64 b1v37_4)]), (.agg [(.int .i64 b2v37_0), (.int .i64 b2v37_1), (.int .i64 b2v37_2), (.int .i64 b2v37_3), (.int .i64 b2v37_4)])]) fun (v39 : (Int × Int × Unit)) =>
rt (
some (.tup [(.agg [(.int .i64 v39.1), (.int .i64 v39.2.1)]), (.int .i64 t13v37), (.int .i64 t12v37)]))) else (
some (.inl (((), (), (), (), t11v37, t13v37, ()), ((b4003v37_0, b4003v37_1, ()), (b3005v37_0, b3005v37_1, ()), (b2007v37_0, b2007v37_1, ()), (b3v37_0, b3v37_1, ()), (b2v37_0, b2v37_1, b2v37_2, b2v37_3, b2v37_4, ()), (b1v37_0, b1v37_1, b1v37_2, b1v37_3, b1v37_4, ()), (b0v37_0, b0v37_1, ()), ()))))) fun (((_, _, _, _, t11v36, t13v36, _), ((b4003v36_0, b4003v36_1, _), (b3005v36_0, b3005v36_1, _), (b2007v36_0, b2007v36_1, _), (b3v36_0, b3v36_1, _), (b2v36_0, b2v36_1, b2v36_2, b2v36_3, b2v36_4, _), (b1v36_0, b1v36_1, b1v36_2, b1v36_3, b1v36_4, _), (b0v36_0, b0v36_1, _), _)) : (Unit × Unit × Unit × Unit × Int × Int × Unit) × ((Int × Int × Unit) × (Int × Int × Unit) × (Int × Int × Unit) × (Int × Int × Unit) × (Int × Int × Int × Int × Int × Unit) × (Int × Int × Int × Int × Int × Unit) × (D × D × Unit) × Unit)) =>
clT q18 (cl 63 [(.agg [b0v36_0, b0v36_1]), (.agg [(.int .i64 b1v36_0), (.int .i64 b1v36_1), (.int .i64 b1v36_2), (.int .i64 b1v36_3), (.int .i64 b1v36_4)]), (.agg [(.int .i64 b2v36_0), (.int .i64 b2v36_1), (.int .i64 b2v36_2), (.int .i64 b2v36_3), (.int .i64 b2v36_4)])]) fun (v41 : (Int × Int × Unit)) =>
some (.tup [(.agg [(.int .i64 v41.1), (.int .i64 v41.2.1)]), (.int .i64 t13v36), (.int .i64 t11v36)])
theorem S31_eq (lp : Lp) (cl : CL) (a0_0 : D) (a0_1 : D) (a1 : Int) (a2_0 : Int) (a2_1 : Int) (a2_2 : Int) (a2_3 : Int) (a2_4 : Int) (a3_0 : Int) (a3_1 : Int) (a3_2 : Int) (a3_3 : Int) (a3_4 : Int) : runS lp Tryz.prog TryzG cl 31 [(.agg [(.fz a0_0), (.fz a0_1)]), (.int .i64 a1), (.agg [(.int .i64 a2_0), (.int .i64 a2_1), (.int .i64 a2_2), (.int .i64 a2_3), (.int .i64 a2_4)]), (.agg [(.int .i64 a3_0), (.int .i64 a3_1), (.int .i64 a3_2), (.int .i64 a3_3), (.int .i64 a3_4)])] = S31 lp cl a0_0 a0_1 a1 a2_0 a2_1 a2_2 a2_3 a2_4 a3_0 a3_1 a3_2 a3_3 a3_4 := by kernel_rfl
def S31_w (lp : Lp) (cl : CL) (args : List D) : Option D := bd (Sh.gds [(.agg [.fz, .fz]), (.int .i64), (.agg [(.int .i64), (.int .i64), (.int .i64), (.int .i64), (.int .i64)]), (.agg [(.int .i64), (.int .i64), (.int .i64), (.int .i64), (.int .i64)])] args) fun v => S31 lp cl v.1.1 v.1.2.1 v.2.1 v.2.2.1.1 v.2.2.1.2.1 v.2.2.1.2.2.1 v.2.2.1.2.2.2.1 v.2.2.1.2.2.2.2.1 v.2.2.2.1.1 v.2.2.2.1.2.1 v.2.2.2.1.2.2.1 v.2.2.2.1.2.2.2.1 v.2.2.2.1.2.2.2.2.1
theorem S31_t : TabE TryzE 31 S31_w := tab_of (by kernel_rfl) fun lp cl v => S31_eq lp cl v.1.1 v.1.2.1 v.2.1 v.2.2.1.1 v.2.2.1.2.1 v.2.2.1.2.2.1 v.2.2.1.2.2.2.1 v.2.2.1.2.2.2.2.1 v.2.2.2.1.1 v.2.2.2.1.2.1 v.2.2.2.1.2.2.1 v.2.2.2.1.2.2.2.1 v.2.2.2.1.2.2.2.2.1

/- 41 invigilator/invigilatorref12.kinds -/
def S41 (lp : Lp) (cl : CL) (a0 : Int) (a1 : D) : Option D :=
lp.run (fun (((t0v0, t1v0, t5v0, _), (_)) : (Int × D × Int × Unit) × (Unit)) =>
bd (lenD false t1v0) fun v1 =>
bif (ltZ t5v0 (v1 : Int)) then (
ixT q4 1 t1v0 (.int .i64 t5v0) none fun (v4 : Int) =>
bif (!(eqZ v4 1)) then (
ixT q4 1 t1v0 (.int .i64 t5v0) none fun (v7 : Int) =>
bif (!(eqZ v7 2)) then (
rt (
some (.bool false))) else (
some (.inl ((t0v0, t1v0, (wrapD .i64 (t5v0 + 1)), ()), (()))))) else (
some (.inl ((t0v0, t1v0, (wrapD .i64 (t5v0 + 1)), ()), (()))))) else (
rt (
clT q20 (cl 70 [(.int .i64 t0v0)]) fun (v9 : (Bool × Bool × Unit)) =>
bj (α := (Int × D × Unit) × (Unit)) (
bif v9.1 then (
ixT q4 1 t1v0 (.int .i64 0) none fun (v13 : Int) =>
bif (!(eqZ v13 1)) then (
rt (
some (.bool false))) else (
bd (lenD false t1v0) fun v14 =>
bif (eqZ (v14 : Int) 2) then (
bif v9.2.1 then (
ixT q4 1 t1v0 (.int .i64 1) none fun (v17 : Int) =>
bif (!(eqZ v17 1)) then (
rt (
some (.bool false))) else (
some (.inl ((t0v0, t1v0, ()), (()))))) else (
some (.inl ((t0v0, t1v0, ()), (()))))) else (
some (.inl ((t0v0, t1v0, ()), (())))))) else (
bd (lenD false t1v0) fun v18 =>
bif (eqZ (v18 : Int) 2) then (
bif v9.2.1 then (
ixT q4 1 t1v0 (.int .i64 1) none fun (v21 : Int) =>
bif (!(eqZ v21 1)) then (
rt (
some (.bool false))) else (
some (.inl ((t0v0, t1v0, ()), (()))))) else (
some (.inl ((t0v0, t1v0, ()), (()))))) else (
some (.inl ((t0v0, t1v0, ()), (())))))) fun (((t0v10, t1v10, _), (_)) : (Int × D × Unit) × (Unit)) =>
bif (!(eqZ t0v10 23)) then (
bif (!(eqZ t0v10 24)) then (
bif (!(eqZ t0v10 37)) then (
bif (!(eqZ t0v10 39)) then (
some (.bool true)) else (
ixT q4 1 t1v10 (.int .i64 0) none fun (v24 : Int) =>
ixT q4 1 t1v10 (.int .i64 1) none fun (v27 : Int) =>
some (.bool (eqZ v24 v27)))) else (
ixT q4 1 t1v10 (.int .i64 0) none fun (v30 : Int) =>
ixT q4 1 t1v10 (.int .i64 1) none fun (v33 : Int) =>
some (.bool (eqZ v30 v33)))) else (
ixT q4 1 t1v10 (.int .i64 0) none fun (v36 : Int) =>
ixT q4 1 t1v10 (.int .i64 1) none fun (v39 : Int) =>
some (.bool (eqZ v36 v39)))) else (
ixT q4 1 t1v10 (.int .i64 0) none fun (v42 : Int) =>
ixT q4 1 t1v10 (.int .i64 1) none fun (v45 : Int) =>
some (.bool (eqZ v42 v45)))))) ((a0, a1, (0 : Int), ()), (()))
theorem S41_eq (lp : Lp) (cl : CL) (a0 : Int) (a1 : D) : runS lp Tryz.prog TryzG cl 41 [(.int .i64 a0), (.fz a1)] = S41 lp cl a0 a1 := by kernel_rfl
def S41_w (lp : Lp) (cl : CL) (args : List D) : Option D := bd (Sh.gds [(.int .i64), .fz] args) fun v => S41 lp cl v.1 v.2.1
theorem S41_t : TabE TryzE 41 S41_w := tab_of (by kernel_rfl) fun lp cl v => S41_eq lp cl v.1 v.2.1

/- 46 invigilator/lattice.of -/
def S46 (lp : Lp) (cl : CL) (a0 : D) : Option D :=
bd (ptF a0) fun v0 =>
tkT q19 v0.1 (v0.2 + 0) none fun (v2 : D) =>
bd (lenD false v2) fun v3 =>
bd (ptF a0) fun v4 =>
tkT q19 v4.1 (v4.2 + 1) none fun (v6 : D) =>
bd (lenD false v6) fun v7 =>
lp.run (fun (((_, _, t16v8, t17v8, t18v8, _), (b1006v8, b0v8, _)) : (Unit × Unit × D × Int × Int × Unit) × (List D × List D × Unit)) =>
bif (ltZ t18v8 t17v8) then (
ixT q13 1 t16v8 (.int .i64 t18v8) none fun (v11 : Int) =>
bd (idxD 8 (.int .i64 t18v8)) fun v12 =>
bd (inR (1 + v12 * 1) 1 (List.length b1006v8)) fun _ =>
tkT q4 (setQ b1006v8 (1 + v12 * 1) [(.int .u8 v11)]) 0 none fun (v14 : Int) =>
lp.run (fun (((_, _, t4v15, t5v15, t16v15, t17v15, t18v15, t28v15, t29v15, _), (b1006v15, b0v15, _)) : (Unit × Unit × Int × Int × D × Int × Int × Int × Int × Unit) × (List D × List D × Unit)) =>
bif (ltZ t29v15 t28v15) then (
bd (idxD 8 (.int .i64 t29v15)) fun v16 =>
tkT q13 b1006v15 (9 + v16 * 1) none fun (v18 : Int) =>
bd (shrD .u8 t5v15 t29v15) fun v19 =>
bd (shlD .u8 (andZ .u8 v19 1) t4v15) fun v20 =>
bd (idxD 8 (.int .i64 t29v15)) fun v21 =>
bd (inR (9 + v21 * 1) 1 (List.length b1006v15)) fun _ =>
some (.inl (((), (), t4v15, t5v15, t16v15, t17v15, t18v15, t28v15, (wrapD .i64 (t29v15 + 1)), ()), ((setQ b1006v15 (9 + v21 * 1) [(.int .u8 (orZ .u8 v18 v20))]), b0v15, ())))) else (
rt (
some (.inl (((), (), t16v15, t17v15, (wrapD .i64 (t18v15 + 1)), ()), (b1006v15, b0v15, ())))))) (((), (), t18v8, v11, t16v8, t17v8, t18v8, v14, (0 : Int), ()), ((setQ b1006v8 (1 + v12 * 1) [(.int .u8 v11)]), b0v8, ()))) else (
rt (
tkT q14 b1006v8 0 (some 17) fun (v23 : (Int × Int × Int × Int × Int × Int × Int × Int × Int × Int × Int × Int × Int × Int × Int × Int × Int × Unit)) =>
bd (inR 0 17 (List.length b0v8)) fun _ =>
bd (takeAt (setQ b0v8 0 [(.int .i64 v23.1), (.int .u8 v23.2.1), (.int .u8 v23.2.2.1), (.int .u8 v23.2.2.2.1), (.int .u8 v23.2.2.2.2.1), (.int .u8 v23.2.2.2.2.2.1), (.int .u8 v23.2.2.2.2.2.2.1), (.int .u8 v23.2.2.2.2.2.2.2.1), (.int .u8 v23.2.2.2.2.2.2.2.2.1), (.int .u8 v23.2.2.2.2.2.2.2.2.2.1), (.int .u8 v23.2.2.2.2.2.2.2.2.2.2.1), (.int .u8 v23.2.2.2.2.2.2.2.2.2.2.2.1), (.int .u8 v23.2.2.2.2.2.2.2.2.2.2.2.2.1), (.int .u8 v23.2.2.2.2.2.2.2.2.2.2.2.2.2.1), (.int .u8 v23.2.2.2.2.2.2.2.2.2.2.2.2.2.2.1), (.int .u8 v23.2.2.2.2.2.2.2.2.2.2.2.2.2.2.2.1), (.int .u8 v23.2.2.2.2.2.2.2.2.2.2.2.2.2.2.2.2.1)]) 0 (some 17)) fun v24 =>
some v24))) (((), (), v6, (v7 : Int), (0 : Int), ()), ([(.int .i64 (v3 : Int)), (.int .u8 0), (.int .u8 0), (.int .u8 0), (.int .u8 0), (.int .u8 0), (.int .u8 0), (.int .u8 0), (.int .u8 0), (.int .u8 0), (.int .u8 0), (.int .u8 0), (.int .u8 0), (.int .u8 0), (.int .u8 0), (.int .u8 0), (.int .u8 0)], [(.int .i64 0), (.int .u8 0), (.int .u8 0), (.int .u8 0), (.int .u8 0), (.int .u8 0), (.int .u8 0), (.int .u8 0), (.int .u8 0), (.int .u8 0), (.int .u8 0), (.int .u8 0), (.int .u8 0), (.int .u8 0), (.int .u8 0), (.int .u8 0), (.int .u8 0)], ()))
theorem S46_eq (lp : Lp) (cl : CL) (a0 : D) : runS lp Tryz.prog TryzG cl 46 [(.fz a0)] = S46 lp cl a0 := by kernel_rfl
def S46_w (lp : Lp) (cl : CL) (args : List D) : Option D := bd (Sh.gds [.fz] args) fun v => S46 lp cl v.1
theorem S46_t : TabE TryzE 46 S46_w := tab_of (by kernel_rfl) fun lp cl v => S46_eq lp cl v.1

/- 49 invigilator/prims.find -/
def S49 (lp : Lp) (cl : CL) (a0 : Int) : Option D :=
bif (ltZ a0 1) then (
some (.tup [(.agg [(.str []), .nils, .nils, .nilfn, .nilfn]), (.int .i64 2)])) else (
bif (ltZ 40 a0) then (
some (.tup [(.agg [(.str []), .nils, .nils, .nilfn, .nilfn]), (.int .i64 2)])) else (
clT q19 (cl 73 []) fun (v1 : D) =>
ixT q21 5 v1 (.int .i64 a0) (some 5) fun (v4 : (List UInt8 × D × D × D × D × Unit)) =>
some (.tup [(.agg [(.str v4.1), v4.2.1, v4.2.2.1, v4.2.2.2.1, v4.2.2.2.2.1]), (.int .i64 0)])))
theorem S49_eq (lp : Lp) (cl : CL) (a0 : Int) : runS lp Tryz.prog TryzG cl 49 [(.int .i64 a0)] = S49 lp cl a0 := by kernel_rfl
def S49_w (lp : Lp) (cl : CL) (args : List D) : Option D := bd (Sh.gds [(.int .i64)] args) fun v => S49 lp cl v.1
theorem S49_t : TabE TryzE 49 S49_w := tab_of (by kernel_rfl) fun lp cl v => S49_eq lp cl v.1

/- 53 invigilator/lattice.Bottom -/
def S53 (lp : Lp) (cl : CL) (a0_0 : D) (a0_1 : D) : Option D :=
clT q4 (cl 74 [(.iptr [a0_0, a0_1] 0), .nils]) fun (v1 : Int) =>
bif (!(eqZ v1 0)) then (
some (.tup [(.int .i64 0), (.int .i64 v1)])) else (
clT q14 (cl 46 [(.iptr [a0_0, a0_1] 0)]) fun (v3 : (Int × Int × Int × Int × Int × Int × Int × Int × Int × Int × Int × Int × Int × Int × Int × Int × Int × Unit)) =>
clT q4 (cl 75 [(.agg [(.int .u8 v3.2.1), (.int .u8 v3.2.2.1), (.int .u8 v3.2.2.2.1), (.int .u8 v3.2.2.2.2.1), (.int .u8 v3.2.2.2.2.2.1), (.int .u8 v3.2.2.2.2.2.2.1), (.int .u8 v3.2.2.2.2.2.2.2.1), (.int .u8 v3.2.2.2.2.2.2.2.2.1)]), (.int .i64 v3.1)]) fun (v5 : Int) =>
some (.tup [(.int .i64 v5), (.int .i64 0)]))
theorem S53_eq (lp : Lp) (cl : CL) (a0_0 : D) (a0_1 : D) : runS lp Tryz.prog TryzG cl 53 [(.agg [(.fz a0_0), (.fz a0_1)])] = S53 lp cl a0_0 a0_1 := by kernel_rfl
def S53_w (lp : Lp) (cl : CL) (args : List D) : Option D := bd (Sh.gds [(.agg [.fz, .fz])] args) fun v => S53 lp cl v.1.1 v.1.2.1
theorem S53_t : TabE TryzE 53 S53_w := tab_of (by kernel_rfl) fun lp cl v => S53_eq lp cl v.1.1 v.1.2.1

/- 70 invigilator/invigilatorref12.ints -/
def S70 (lp : Lp) (cl : CL) (a0 : Int) : Option D :=
bj (α := (Int × Bool × Unit) × (Unit)) (
bif (eqZ a0 4) then (
some (.inl ((a0, (eqZ a0 4), ()), (())))) else (
bif (eqZ a0 5) then (
some (.inl ((a0, (eqZ a0 5), ()), (())))) else (
bif (eqZ a0 6) then (
some (.inl ((a0, (eqZ a0 6), ()), (())))) else (
bif (eqZ a0 7) then (
some (.inl ((a0, (eqZ a0 7), ()), (())))) else (
bif (eqZ a0 12) then (
some (.inl ((a0, (eqZ a0 12), ()), (())))) else (
bif (eqZ a0 23) then (
some (.inl ((a0, (eqZ a0 23), ()), (())))) else (
bif (eqZ a0 24) then (
some (.inl ((a0, (eqZ a0 24), ()), (())))) else (
bif (eqZ a0 37) then (
some (.inl ((a0, (eqZ a0 37), ()), (())))) else (
some (.inl ((a0, (eqZ a0 39), ()), (())))))))))))) fun (((t4v0, t5v0, _), (_)) : (Int × Bool × Unit) × (Unit)) =>
bif t5v0 then (
some (.tup [(.bool false), (.bool false)])) else (
bj (α := (Int × Bool × Unit) × (Unit)) (
bif (eqZ t4v0 33) then (
some (.inl ((t4v0, (eqZ t4v0 33), ()), (())))) else (
bif (eqZ t4v0 34) then (
some (.inl ((t4v0, (eqZ t4v0 34), ()), (())))) else (
bif (eqZ t4v0 35) then (
some (.inl ((t4v0, (eqZ t4v0 35), ()), (())))) else (
bif (eqZ t4v0 36) then (
some (.inl ((t4v0, (eqZ t4v0 36), ()), (())))) else (
some (.inl ((t4v0, (eqZ t4v0 40), ()), (())))))))) fun (((t4v1, t15v1, _), (_)) : (Int × Bool × Unit) × (Unit)) =>
bif t15v1 then (
some (.tup [(.bool true), (.bool false)])) else (
bif (eqZ t4v1 38) then (
some (.tup [(.bool false), (.bool true)])) else (
some (.tup [(.bool true), (.bool true)]))))
theorem S70_eq (lp : Lp) (cl : CL) (a0 : Int) : runS lp Tryz.prog TryzG cl 70 [(.int .i64 a0)] = S70 lp cl a0 := by kernel_rfl
def S70_w (lp : Lp) (cl : CL) (args : List D) : Option D := bd (Sh.gds [(.int .i64)] args) fun v => S70 lp cl v.1
theorem S70_t : TabE TryzE 70 S70_w := tab_of (by kernel_rfl) fun lp cl v => S70_eq lp cl v.1

/- 73 invigilator/prims.table -/
def S73 (lp : Lp) (cl : CL)  : Option D :=
tkT q19 g0 0 none fun (v1 : D) =>
bd (slVF 1 v1 none (some (.int .i64 1)) none) fun v2 =>
clT q19 (cl 84 [(.sl true 1 [(.int .i64 12)])]) fun (v4 : D) =>
tkT q19 g0 0 none fun (v6 : D) =>
bd (slVF 1 v6 none (some (.int .i64 1)) none) fun v7 =>
clT q19 (cl 84 [(.sl true 1 [(.int .i64 12)])]) fun (v9 : D) =>
tkT q19 g0 0 none fun (v11 : D) =>
bd (slVF 1 v11 none (some (.int .i64 1)) none) fun v12 =>
clT q19 (cl 84 [(.sl true 2 [(.int .i64 13), (.int .i64 15)])]) fun (v14 : D) =>
clT q19 (cl 84 [(.sl true 1 [(.int .i64 12)])]) fun (v16 : D) =>
clT q19 (cl 84 [(.sl true 1 [(.int .i64 13)])]) fun (v18 : D) =>
clT q19 (cl 84 [(.sl true 1 [(.int .i64 13)])]) fun (v20 : D) =>
clT q19 (cl 84 [(.sl true 1 [(.int .i64 12)])]) fun (v22 : D) =>
clT q21 (cl 96 [(.str [97, 100, 100]), (.sl true 1 [(.int .i64 12)])]) fun (v24 : (List UInt8 × D × D × D × D × Unit)) =>
clT q21 (cl 96 [(.str [115, 117, 98]), (.sl true 1 [(.int .i64 12)])]) fun (v26 : (List UInt8 × D × D × D × D × Unit)) =>
clT q21 (cl 96 [(.str [109, 117, 108]), (.sl true 1 [(.int .i64 12)])]) fun (v28 : (List UInt8 × D × D × D × D × Unit)) =>
clT q21 (cl 96 [(.str [100, 105, 118]), (.sl true 2 [(.int .i64 12), (.int .i64 13)])]) fun (v30 : (List UInt8 × D × D × D × D × Unit)) =>
clT q21 (cl 96 [(.str [109, 111, 100]), (.sl true 1 [(.int .i64 13)])]) fun (v32 : (List UInt8 × D × D × D × D × Unit)) =>
clT q21 (cl 96 [(.str [112, 108, 117, 115]), .nils]) fun (v34 : (List UInt8 × D × D × D × D × Unit)) =>
clT q21 (cl 96 [(.str [109, 105, 110, 117, 115]), .nils]) fun (v36 : (List UInt8 × D × D × D × D × Unit)) =>
clT q21 (cl 96 [(.str [116, 105, 109, 101, 115]), .nils]) fun (v38 : (List UInt8 × D × D × D × D × Unit)) =>
tkT q19 g1 0 none fun (v40 : D) =>
clT q19 (cl 84 [(.sl true 1 [(.int .i64 11)])]) fun (v42 : D) =>
tkT q19 g1 0 none fun (v44 : D) =>
clT q19 (cl 84 [(.sl true 1 [(.int .i64 11)])]) fun (v46 : D) =>
clT q21 (cl 96 [(.str [108, 116]), .nils]) fun (v48 : (List UInt8 × D × D × D × D × Unit)) =>
clT q21 (cl 96 [(.str [108, 101]), .nils]) fun (v50 : (List UInt8 × D × D × D × D × Unit)) =>
clT q21 (cl 96 [(.str [103, 116]), .nils]) fun (v52 : (List UInt8 × D × D × D × D × Unit)) =>
clT q21 (cl 96 [(.str [103, 101]), .nils]) fun (v54 : (List UInt8 × D × D × D × D × Unit)) =>
clT q21 (cl 96 [(.str [97, 110, 100]), .nils]) fun (v56 : (List UInt8 × D × D × D × D × Unit)) =>
clT q21 (cl 96 [(.str [111, 114]), .nils]) fun (v58 : (List UInt8 × D × D × D × D × Unit)) =>
clT q21 (cl 96 [(.str [109, 105, 110]), .nils]) fun (v60 : (List UInt8 × D × D × D × D × Unit)) =>
clT q21 (cl 96 [(.str [109, 97, 120]), .nils]) fun (v62 : (List UInt8 × D × D × D × D × Unit)) =>
clT q19 (cl 84 [(.sl true 2 [(.int .i64 13), (.int .i64 15)])]) fun (v64 : D) =>
clT q19 (cl 84 [(.sl true 3 [(.int .i64 11), (.int .i64 13), (.int .i64 15)])]) fun (v66 : D) =>
clT q19 (cl 84 [(.sl true 2 [(.int .i64 11), (.int .i64 15)])]) fun (v68 : D) =>
clT q19 (cl 84 [(.sl true 1 [(.int .i64 14)])]) fun (v70 : D) =>
clT q19 (cl 84 [(.sl true 1 [(.int .i64 11)])]) fun (v72 : D) =>
some (.sl (Nat.beq 41 41) 41 [(.str []), .nils, .nils, .nilfn, .nilfn, (.str [110, 101, 103]), v2, v4, .nilfn, .nilfn, (.str [97, 98, 115]), v7, v9, .nilfn, .nilfn, (.str [110, 111, 116]), v12, .nils, .nilfn, .nilfn, (.str [115, 104, 97, 112, 101]), (.sl true 1 [(.str [107, 110, 105, 49])]), .nils, (.fn (.func 85) [] []), .nilfn, (.str [114, 97, 118, 101, 108]), (.sl true 1 [(.str [107, 110, 107, 49])]), .nils, (.fn (.func 86) [] []), .nilfn, (.str [114, 101, 118, 101, 114, 115, 101]), (.sl true 2 [(.str [107, 49, 107, 49]), (.str [107, 50, 107, 50])]), .nils, (.fn (.func 87) [] []), .nilfn, (.str [102, 108, 105, 112]), (.sl true 1 [(.str [107, 50, 107, 50])]), .nils, (.fn (.func 88) [] []), .nilfn, (.str [105, 111, 116, 97]), (.sl true 1 [(.str [105, 48, 105, 49])]), v14, (.fn (.func 89) [] []), .nilfn, (.str [115, 117, 109]), (.sl true 2 [(.str [105, 49, 105, 48]), (.str [105, 50, 105, 49])]), v16, (.fn (.func 90) [] []), .nilfn, (.str [108, 101, 97, 115, 116]), (.sl true 2 [(.str [105, 49, 105, 48]), (.str [105, 50, 105, 49])]), v18, (.fn (.func 91) [] []), .nilfn, (.str [109, 111, 115, 116]), (.sl true 2 [(.str [105, 49, 105, 48]), (.str [105, 50, 105, 49])]), v20, (.fn (.func 92) [] []), .nilfn, (.str [99, 111, 117, 110, 116]), (.sl true 2 [(.str [107, 49, 105, 48]), (.str [107, 50, 105, 49])]), .nils, (.fn (.func 93) [] []), .nilfn, (.str [115, 99, 97, 110]), (.sl true 2 [(.str [105, 49, 105, 49]), (.str [105, 50, 105, 50])]), v22, (.fn (.func 94) [] []), .nilfn, (.str [103, 114, 97, 100, 101]), (.sl true 1 [(.str [105, 49, 105, 49])]), .nils, (.fn (.func 95) [] []), .nilfn, (.str v24.1), v24.2.1, v24.2.2.1, v24.2.2.2.1, v24.2.2.2.2.1, (.str v26.1), v26.2.1, v26.2.2.1, v26.2.2.2.1, v26.2.2.2.2.1, (.str v28.1), v28.2.1, v28.2.2.1, v28.2.2.2.1, v28.2.2.2.2.1, (.str v30.1), v30.2.1, v30.2.2.1, v30.2.2.2.1, v30.2.2.2.2.1, (.str v32.1), v32.2.1, v32.2.2.1, v32.2.2.2.1, v32.2.2.2.2.1, (.str v34.1), v34.2.1, v34.2.2.1, v34.2.2.2.1, v34.2.2.2.2.1, (.str v36.1), v36.2.1, v36.2.2.1, v36.2.2.2.1, v36.2.2.2.2.1, (.str v38.1), v38.2.1, v38.2.2.1, v38.2.2.2.1, v38.2.2.2.2.1, (.str [101, 113]), v40, v42, .nilfn, .nilfn, (.str [110, 101]), v44, v46, .nilfn, .nilfn, (.str v48.1), v48.2.1, v48.2.2.1, v48.2.2.2.1, v48.2.2.2.2.1, (.str v50.1), v50.2.1, v50.2.2.1, v50.2.2.2.1, v50.2.2.2.2.1, (.str v52.1), v52.2.1, v52.2.2.1, v52.2.2.2.1, v52.2.2.2.2.1, (.str v54.1), v54.2.1, v54.2.2.1, v54.2.2.2.1, v54.2.2.2.2.1, (.str v56.1), v56.2.1, v56.2.2.1, v56.2.2.2.1, v56.2.2.2.2.1, (.str v58.1), v58.2.1, v58.2.2.1, v58.2.2.2.1, v58.2.2.2.2.1, (.str v60.1), v60.2.1, v60.2.2.1, v60.2.2.2.1, v60.2.2.2.2.1, (.str v62.1), v62.2.1, v62.2.2.1, v62.2.2.2.1, v62.2.2.2.2.1, (.str [116, 97, 107, 101]), (.sl true 1 [(.str [105, 48, 107, 49, 107, 49])]), .nils, .nilfn, (.fn (.func 97) [] []), (.str [100, 114, 111, 112]), (.sl true 1 [(.str [105, 48, 107, 49, 107, 49])]), .nils, .nilfn, (.fn (.func 98) [] []), (.str [102, 105, 108, 108]), (.sl true 1 [(.str [105, 48, 107, 48, 107, 49])]), v64, .nilfn, (.fn (.func 99) [] []), (.str [103, 114, 105, 100]), (.sl true 1 [(.str [105, 49, 107, 49, 107, 50])]), v66, .nilfn, (.fn (.func 100) [] []), (.str [99, 97, 116]), (.sl true 2 [(.str [107, 49, 107, 49, 107, 49]), (.str [107, 50, 107, 50, 107, 50])]), v68, .nilfn, (.fn (.func 101) [] []), (.str [97, 116]), (.sl true 2 [(.str [107, 49, 105, 48, 107, 48]), (.str [107, 49, 105, 49, 107, 49])]), v70, .nilfn, (.fn (.func 102) [] []), (.str [105, 110]), (.sl true 1 [(.str [107, 110, 107, 49, 105, 110])]), .nils, .nilfn, (.fn (.func 103) [] []), (.str [112, 105, 99, 107]), (.sl true 1 [(.str [105, 49, 107, 49, 107, 49])]), v72, .nilfn, (.fn (.func 104) [] [])])
theorem S73_eq (lp : Lp) (cl : CL)  : runS lp Tryz.prog TryzG cl 73 [] = S73 lp cl  := by kernel_rfl
def S73_w (lp : Lp) (cl : CL) (args : List D) : Option D := bd (Sh.gds [] args) fun v => S73 lp cl 
theorem S73_t : TabE TryzE 73 S73_w := tab_of (by kernel_rfl) fun lp cl v => S73_eq lp cl 

/- 75 invigilator/lattice.end[invigilator/lattice.ups] -/
def S75 (lp : Lp) (cl : CL) (a0_0 : Int) (a0_1 : Int) (a0_2 : Int) (a0_3 : Int) (a0_4 : Int) (a0_5 : Int) (a0_6 : Int) (a0_7 : Int) (a1 : Int) : Option D :=
lp.run (fun (((t1v0, _, t5v0, _), (b0v0, _)) : (Int × Unit × Int × Unit) × (List D × Unit)) =>
bif (ltZ t5v0 (wrapD .i64 (t1v0 - 1))) then (
bd (idxD 8 (.int .i64 t5v0)) fun v1 =>
tkT q13 b0v0 (0 + v1 * 1) none fun (v3 : Int) =>
clT q4 (cl 105 [(.int .u8 v3)]) fun (v5 : Int) =>
bif (ltZ v5 t1v0) then (
some (.inl ((t1v0, (), (wrapD .i64 (t5v0 + 1)), ()), (b0v0, ())))) else (
rt (
some (.int .i64 t5v0)))) else (
rt (
some (.int .i64 t5v0)))) ((a1, (), (0 : Int), ()), ([(.int .u8 a0_0), (.int .u8 a0_1), (.int .u8 a0_2), (.int .u8 a0_3), (.int .u8 a0_4), (.int .u8 a0_5), (.int .u8 a0_6), (.int .u8 a0_7)], ()))
theorem S75_eq (lp : Lp) (cl : CL) (a0_0 : Int) (a0_1 : Int) (a0_2 : Int) (a0_3 : Int) (a0_4 : Int) (a0_5 : Int) (a0_6 : Int) (a0_7 : Int) (a1 : Int) : runS lp Tryz.prog TryzG cl 75 [(.agg [(.int .u8 a0_0), (.int .u8 a0_1), (.int .u8 a0_2), (.int .u8 a0_3), (.int .u8 a0_4), (.int .u8 a0_5), (.int .u8 a0_6), (.int .u8 a0_7)]), (.int .i64 a1)] = S75 lp cl a0_0 a0_1 a0_2 a0_3 a0_4 a0_5 a0_6 a0_7 a1 := by kernel_rfl
def S75_w (lp : Lp) (cl : CL) (args : List D) : Option D := bd (Sh.gds [(.agg [(.int .u8), (.int .u8), (.int .u8), (.int .u8), (.int .u8), (.int .u8), (.int .u8), (.int .u8)]), (.int .i64)] args) fun v => S75 lp cl v.1.1 v.1.2.1 v.1.2.2.1 v.1.2.2.2.1 v.1.2.2.2.2.1 v.1.2.2.2.2.2.1 v.1.2.2.2.2.2.2.1 v.1.2.2.2.2.2.2.2.1 v.2.1
theorem S75_t : TabE TryzE 75 S75_w := tab_of (by kernel_rfl) fun lp cl v => S75_eq lp cl v.1.1 v.1.2.1 v.1.2.2.1 v.1.2.2.2.1 v.1.2.2.2.2.1 v.1.2.2.2.2.2.1 v.1.2.2.2.2.2.2.1 v.1.2.2.2.2.2.2.2.1 v.2.1

/- 76 invigilator/invigilatorref01.Name -/
def S76 (lp : Lp) (cl : CL) (a0 : List UInt8) : Option D :=
bj (α := (List UInt8 × Unit) × (Unit)) (
bif (ltZ (List.length a0 : Int) 1) then (
rt (
some (.bool false))) else (
bif (ltZ 16 (List.length a0 : Int)) then (
rt (
some (.bool false))) else (
bd (ixStr a0 (.int .i64 0)) fun v1 =>
clT q0 (cl 106 [(.int .u8 v1)]) fun (v3 : Bool) =>
bif (!v3) then (
rt (
some (.bool false))) else (
some (.inl ((a0, ()), (()))))))) fun (((t0v0, _), (_)) : (List UInt8 × Unit) × (Unit)) =>
lp.run (fun (((t0v4, t3v4, _), (_)) : (List UInt8 × Int × Unit) × (Unit)) =>
bif (ltZ t3v4 (List.length t0v4 : Int)) then (
bd (ixStr t0v4 (.int .i64 t3v4)) fun v5 =>
clT q0 (cl 106 [(.int .u8 v5)]) fun (v7 : Bool) =>
bif (!v7) then (
bd (ixStr t0v4 (.int .i64 t3v4)) fun v8 =>
clT q0 (cl 107 [(.int .u8 v8)]) fun (v10 : Bool) =>
bif (!v10) then (
bd (ixStr t0v4 (.int .i64 t3v4)) fun v11 =>
bif (!(eqZ v11 45)) then (
rt (
some (.bool false))) else (
some (.inl ((t0v4, (wrapD .i64 (t3v4 + 1)), ()), (()))))) else (
some (.inl ((t0v4, (wrapD .i64 (t3v4 + 1)), ()), (()))))) else (
some (.inl ((t0v4, (wrapD .i64 (t3v4 + 1)), ()), (()))))) else (
rt (
some (.bool true)))) ((t0v0, (0 : Int), ()), (()))
theorem S76_eq (lp : Lp) (cl : CL) (a0 : List UInt8) : runS lp Tryz.prog TryzG cl 76 [(.str a0)] = S76 lp cl a0 := by kernel_rfl
def S76_w (lp : Lp) (cl : CL) (args : List D) : Option D := bd (Sh.gds [.str] args) fun v => S76 lp cl v.1
theorem S76_t : TabE TryzE 76 S76_w := tab_of (by kernel_rfl) fun lp cl v => S76_eq lp cl v.1

/- 96 invigilator/prims.pair -/
def S96 (lp : Lp) (cl : CL) (a0 : List UInt8) (a1 : D) : Option D :=
tkT q19 g0 0 none fun (v1 : D) =>
bd (slVF 1 v1 (some (.int .i64 1)) none none) fun v2 =>
clT q19 (cl 84 [(.sl true 1 [(.int .i64 11)])]) fun (v4 : D) =>
bd (slF 1 a1) fun v5 =>
bif Nat.beq v5.2 0 then (
bd (isSl v4) fun _ =>
some (.agg [(.str a0), v2, v4, .nilfn, .nilfn])) else (
bd (apF v4 1 v5.2 8) fun v6 =>
bd (frSl false 0 1 (v6.2 + v5.2) (v6.1 ++ v5.1)) fun v7 =>
some (.agg [(.str a0), v2, v7, .nilfn, .nilfn]))
theorem S96_eq (lp : Lp) (cl : CL) (a0 : List UInt8) (a1 : D) : runS lp Tryz.prog TryzG cl 96 [(.str a0), (.fz a1)] = S96 lp cl a0 a1 := by kernel_rfl
def S96_w (lp : Lp) (cl : CL) (args : List D) : Option D := bd (Sh.gds [.str, .fz] args) fun v => S96 lp cl v.1 v.2.1
theorem S96_t : TabE TryzE 96 S96_w := tab_of (by kernel_rfl) fun lp cl v => S96_eq lp cl v.1 v.2.1

/- 106 invigilator/invigilatorref01.lower -/
def S106 (lp : Lp) (cl : CL) (a0 : Int) : Option D :=
bif (leZ 97 a0) then (
some (.bool (leZ a0 122))) else (
some (.bool false))
theorem S106_eq (lp : Lp) (cl : CL) (a0 : Int) : runS lp Tryz.prog TryzG cl 106 [(.int .u8 a0)] = S106 lp cl a0 := by kernel_rfl
def S106_w (lp : Lp) (cl : CL) (args : List D) : Option D := bd (Sh.gds [(.int .u8)] args) fun v => S106 lp cl v.1
theorem S106_t : TabE TryzE 106 S106_w := tab_of (by kernel_rfl) fun lp cl v => S106_eq lp cl v.1

/- 110 strings.trimRightByte -/
def S110 (lp : Lp) (cl : CL) (a0 : List UInt8) (a1 : Int) : Option D :=
lp.run (fun (((t0v0, t1v0, _), (_)) : (List UInt8 × Int × Unit) × (Unit)) =>
bif (ltZ 0 (List.length t0v0 : Int)) then (
bd (ixStr t0v0 (.int .i64 (wrapD .i64 ((List.length t0v0 : Int) - 1)))) fun v1 =>
bif (eqZ v1 t1v0) then (
bd (slStr t0v0 none (some (.int .i64 (wrapD .i64 ((List.length t0v0 : Int) - 1))))) fun v2 =>
some (.inl ((v2, t1v0, ()), (())))) else (
rt (
some (.str t0v0)))) else (
rt (
some (.str t0v0)))) ((a0, a1, ()), (()))
theorem S110_eq (lp : Lp) (cl : CL) (a0 : List UInt8) (a1 : Int) : runS lp Tryz.prog TryzG cl 110 [(.str a0), (.int .u8 a1)] = S110 lp cl a0 a1 := by kernel_rfl
def S110_w (lp : Lp) (cl : CL) (args : List D) : Option D := bd (Sh.gds [.str, (.int .u8)] args) fun v => S110 lp cl v.1 v.2.1
theorem S110_t : TabE TryzE 110 S110_w := tab_of (by kernel_rfl) fun lp cl v => S110_eq lp cl v.1 v.2.1

/- 111 strings.makeASCIISet -/
def S111 (lp : Lp) (cl : CL) (a0 : List UInt8) : Option D :=
lp.run (fun (((t0v0, _, t4v0, _), (b0v0, _)) : (List UInt8 × Unit × Int × Unit) × (List D × Unit)) =>
bif (ltZ t4v0 (List.length t0v0 : Int)) then (
bd (ixStr t0v0 (.int .i64 t4v0)) fun v1 =>
bif (leZ 128 v1) then (
bd (takeAt b0v0 0 (some 256)) fun v2 =>
bd (cellsF 256 v2) fun v3 =>
bd (inR 0 256 (List.length b0v0)) fun _ =>
rt (
bd (takeAt (setQ b0v0 0 v3) 0 (some 256)) fun v4 =>
some (.tup [v4, (.bool false)]))) else (
bd (idxD 256 (.int .u8 v1)) fun v5 =>
bd (inR (0 + v5 * 1) 1 (List.length b0v0)) fun _ =>
some (.inl ((t0v0, (), (wrapD .i64 (t4v0 + 1)), ()), ((setQ b0v0 (0 + v5 * 1) [(.bool true)]), ()))))) else (
rt (
bd (takeAt b0v0 0 (some 256)) fun v6 =>
bd (cellsF 256 v6) fun v7 =>
bd (inR 0 256 (List.length b0v0)) fun _ =>
bd (takeAt (setQ b0v0 0 v7) 0 (some 256)) fun v8 =>
some (.tup [v8, (.bool true)])))) ((a0, (), (0 : Int), ()), ([(.bool false), (.bool false), (.bool false), (.bool false), (.bool false), (.bool false), (.bool false), (.bool false), (.bool false), (.bool false), (.bool false), (.bool false), (.bool false), (.bool false), (.bool false), (.bool false), (.bool false), (.bool false), (.bool false), (.bool false), (.bool false), (.bool false), (.bool false), (.bool false), (.bool false), (.bool false), (.bool false), (.bool false), (.bool false), (.bool false), (.bool false), (.bool false), (.bool false), (.bool false), (.bool false), (.bool false), (.bool false), (.bool false), (.bool false), (.bool false), (.bool false), (.bool false), (.bool false), (.bool false), (.bool false), (.bool false), (.bool false), (.bool false), (.bool false), (.bool false), (.bool false), (.bool false), (.bool false), (.bool false), (.bool false), (.bool false), (.bool false), (.bool false), (.bool false), (.bool false), (.bool false), (.bool false), (.bool false), (.bool false), (.bool false), (.bool false), (.bool false), (.bool false), (.bool false), (.bool false), (.bool false), (.bool false), (.bool false), (.bool false), (.bool false), (.bool false), (.bool false), (.bool false), (.bool false), (.bool false), (.bool false), (.bool false), (.bool false), (.bool false), (.bool false), (.bool false), (.bool false), (.bool false), (.bool false), (.bool false), (.bool false), (.bool false), (.bool false), (.bool false), (.bool false), (.bool false), (.bool false), (.bool false), (.bool false), (.bool false), (.bool false), (.bool false), (.bool false), (.bool false), (.bool false), (.bool false), (.bool false), (.bool false), (.bool false), (.bool false), (.bool false), (.bool false), (.bool false), (.bool false), (.bool false), (.bool false), (.bool false), (.bool false), (.bool false), (.bool false), (.bool false), (.bool false), (.bool false), (.bool false), (.bool false), (.bool false), (.bool false), (.bool false), (.bool false), (.bool false), (.bool false), (.bool false), (.bool false), (.bool false), (.bool false), (.bool false), (.bool false), (.bool false), (.bool false), (.bool false), (.bool false), (.bool false), (.bool false), (.bool false), (.bool false), (.bool false), (.bool false), (.bool false), (.bool false), (.bool false), (.bool false), (.bool false), (.bool false), (.bool false), (.bool false), (.bool false), (.bool false), (.bool false), (.bool false), (.bool false), (.bool false), (.bool false), (.bool false), (.bool false), (.bool false), (.bool false), (.bool false), (.bool false), (.bool false), (.bool false), (.bool false), (.bool false), (.bool false), (.bool false), (.bool false), (.bool false), (.bool false), (.bool false), (.bool false), (.bool false), (.bool false), (.bool false), (.bool false), (.bool false), (.bool false), (.bool false), (.bool false), (.bool false), (.bool false), (.bool false), (.bool false), (.bool false), (.bool false), (.bool false), (.bool false), (.bool false), (.bool false), (.bool false), (.bool false), (.bool false), (.bool false), (.bool false), (.bool false), (.bool false), (.bool false), (.bool false), (.bool false), (.bool false), (.bool false), (.bool false), (.bool false), (.bool false), (.bool false), (.bool false), (.bool false), (.bool false), (.bool false), (.bool false), (.bool false), (.bool false), (.bool false), (.bool false), (.bool false), (.bool false), (.bool false), (.bool false), (.bool false), (.bool false), (.bool false), (.bool false), (.bool false), (.bool false), (.bool false), (.bool false), (.bool false), (.bool false), (.bool false), (.bool false), (.bool false), (.bool false), (.bool false), (.bool false), (.bool false), (.bool false), (.bool false), (.bool false), (.bool false), (.bool false), (.bool false), (.bool false), (.bool false), (.bool false), (.bool false), (.bool false), (.bool false), (.bool false)], ()))
theorem S111_eq (lp : Lp) (cl : CL) (a0 : List UInt8) : runS lp Tryz.prog TryzG cl 111 [(.str a0)] = S111 lp cl a0 := by kernel_rfl
def S111_w (lp : Lp) (cl : CL) (args : List D) : Option D := bd (Sh.gds [.str] args) fun v => S111 lp cl v.1
theorem S111_t : TabE TryzE 111 S111_w := tab_of (by kernel_rfl) fun lp cl v => S111_eq lp cl v.1

/- 113 strings.trimRightASCII -/
def S113 (lp : Lp) (cl : CL) (a0 : List UInt8) (a1 : D) : Option D :=
lp.run (fun (((t0v0, t1v0, _), (_)) : (List UInt8 × D × Unit) × (Unit)) =>
bif (ltZ 0 (List.length t0v0 : Int)) then (
bd (ixStr t0v0 (.int .i64 (wrapD .i64 ((List.length t0v0 : Int) - 1)))) fun v1 =>
clT q0 (cl 142 [t1v0, (.int .u8 v1)]) fun (v3 : Bool) =>
bif (!v3) then (
rt (
some (.str t0v0))) else (
bd (slStr t0v0 none (some (.int .i64 (wrapD .i64 ((List.length t0v0 : Int) - 1))))) fun v4 =>
some (.inl ((v4, t1v0, ()), (()))))) else (
rt (
some (.str t0v0)))) ((a0, a1, ()), (()))
theorem S113_eq (lp : Lp) (cl : CL) (a0 : List UInt8) (a1 : D) : runS lp Tryz.prog TryzG cl 113 [(.str a0), (.fz a1)] = S113 lp cl a0 a1 := by kernel_rfl
def S113_w (lp : Lp) (cl : CL) (args : List D) : Option D := bd (Sh.gds [.str, .fz] args) fun v => S113 lp cl v.1 v.2.1
theorem S113_t : TabE TryzE 113 S113_w := tab_of (by kernel_rfl) fun lp cl v => S113_eq lp cl v.1 v.2.1

/- 158 unicode/utf8.RuneStart -/
def S158 (lp : Lp) (cl : CL) (a0 : Int) : Option D :=
some (.bool (!(eqZ (andZ .u8 a0 192) 128)))
theorem S158_eq (lp : Lp) (cl : CL) (a0 : Int) : runS lp Tryz.prog TryzG cl 158 [(.int .u8 a0)] = S158 lp cl a0 := by kernel_rfl
def S158_w (lp : Lp) (cl : CL) (args : List D) : Option D := bd (Sh.gds [(.int .u8)] args) fun v => S158 lp cl v.1
theorem S158_t : TabE TryzE 158 S158_w := tab_of (by kernel_rfl) fun lp cl v => S158_eq lp cl v.1

end Go.Proofs.YtblbgjfkbcdlfaaGreatDoor
