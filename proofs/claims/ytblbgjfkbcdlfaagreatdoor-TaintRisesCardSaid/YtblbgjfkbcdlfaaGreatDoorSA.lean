/- What the functions come to. -/
import Derived.Test.YtblbgjfkbcdlfaaGreatDoorSH
set_option linter.unusedVariables false
set_option maxRecDepth 100000
namespace Go.Proofs.YtblbgjfkbcdlfaaGreatDoor
open Go Iv
/- 12 invigilator/invigilatorlaw27.leq -/
def S12 (lp : Lp) (cl : CL) (a0_0 : D) (a0_1 : D) (a1 : Int) (a2 : Int) : Option D :=
clT q11 (cl 34 [(.agg [a0_0, a0_1]), (.int .i64 a1), (.int .i64 a2)]) fun (v1 : (Bool × Int × Unit)) =>
bif v1.1 then (
some (.bool (eqZ v1.2.1 0))) else (
some (.bool false))
theorem S12_eq (lp : Lp) (cl : CL) (a0_0 : D) (a0_1 : D) (a1 : Int) (a2 : Int) : runS lp Tryz.prog TryzG cl 12 [(.agg [(.fz a0_0), (.fz a0_1)]), (.int .i64 a1), (.int .i64 a2)] = S12 lp cl a0_0 a0_1 a1 a2 := by kernel_rfl
def S12_w (lp : Lp) (cl : CL) (args : List D) : Option D := bd (Sh.gds [(.agg [.fz, .fz]), (.int .i64), (.int .i64)] args) fun v => S12 lp cl v.1.1 v.1.2.1 v.2.1 v.2.2.1
theorem S12_t : TabE TryzE 12 S12_w := tab_of (by kernel_rfl) fun lp cl v => S12_eq lp cl v.1.1 v.1.2.1 v.2.1 v.2.2.1

/- 20 invigilator/prims.Fits -/
def S20 (lp : Lp) (cl : CL) (a0 : Int) (a1 : D) (a2 : D) : Option D :=
clT q16 (cl 49 [(.int .i64 a0)]) fun (v1 : ((List UInt8 × D × D × D × D × Unit) × Int × Unit)) =>
bif (!(eqZ v1.2.1 0)) then (
some (.tup [(.int .i64 0), (.int .i64 0), (.int .i64 v1.2.1)])) else (
bj (α := (D × D × Unit × Unit) × ((List UInt8 × D × D × D × D × Unit) × Unit)) (
bd (lenD false a1) fun v3 =>
clT q4 (cl 50 [(.agg [(.str v1.1.1), v1.1.2.1, v1.1.2.2.1, v1.1.2.2.2.1, v1.1.2.2.2.2.1])]) fun (v5 : Int) =>
bif (!(eqZ (v3 : Int) v5)) then (
rt (
some (.tup [(.int .i64 0), (.int .i64 0), (.int .i64 23)]))) else (
bd (lenD false a2) fun v6 =>
clT q4 (cl 50 [(.agg [(.str v1.1.1), v1.1.2.1, v1.1.2.2.1, v1.1.2.2.2.1, v1.1.2.2.2.2.1])]) fun (v8 : Int) =>
bif (!(eqZ (v6 : Int) v8)) then (
rt (
some (.tup [(.int .i64 0), (.int .i64 0), (.int .i64 23)]))) else (
some (.inl ((a1, a2, (), ()), ((v1.1.1, v1.1.2.1, v1.1.2.2.1, v1.1.2.2.2.1, v1.1.2.2.2.2.1, ()), ())))))) fun (((t1v2, t2v2, _, _), ((b1005v2_0, b1005v2_1, b1005v2_2, b1005v2_3, b1005v2_4, _), _)) : (D × D × Unit × Unit) × ((List UInt8 × D × D × D × D × Unit) × Unit)) =>
bd (lenD false b1005v2_1) fun v9 =>
lp.run (fun (((t1v10, t2v10, t8v10, t37v10, t38v10, t39v10, _), (_)) : (D × D × Int × D × Int × Int × Unit) × (Unit)) =>
bif (ltZ t39v10 t38v10) then (
ixT q12 1 t37v10 (.int .i64 t39v10) none fun (v13 : List UInt8) =>
clT q17 (cl 51 [(.str v13), t1v10, t2v10]) fun (v15 : (Int × Int × Bool × Bool × Unit)) =>
bj (α := (D × D × Int × Int × Int × Bool × D × Int × Int × Bool × Unit) × (Unit)) (
bif v15.2.2.1 then (
some (.inl ((t1v10, t2v10, t8v10, v15.1, v15.2.1, v15.2.2.1, t37v10, t38v10, t39v10, v15.2.2.2.1, ()), (())))) else (
some (.inl ((t1v10, t2v10, t8v10, v15.1, v15.2.1, v15.2.2.1, t37v10, t38v10, t39v10, false, ()), (()))))) fun (((t1v16, t2v16, t8v16, t12v16, t13v16, t14v16, t37v16, t38v16, t39v16, t52v16, _), (_)) : (D × D × Int × Int × Int × Bool × D × Int × Int × Bool × Unit) × (Unit)) =>
bif t52v16 then (
rt (
some (.tup [(.int .i64 t12v16), (.int .i64 t13v16), (.int .i64 0)]))) else (
bif t14v16 then (
some (.inl ((t1v16, t2v16, (22 : Int), t37v16, t38v16, (wrapD .i64 (t39v16 + 1)), ()), (())))) else (
some (.inl ((t1v16, t2v16, t8v16, t37v16, t38v16, (wrapD .i64 (t39v16 + 1)), ()), (())))))) else (
rt (
some (.tup [(.int .i64 0), (.int .i64 0), (.int .i64 t8v10)])))) ((t1v2, t2v2, (21 : Int), b1005v2_1, (v9 : Int), (0 : Int), ()), (())))
theorem S20_eq (lp : Lp) (cl : CL) (a0 : Int) (a1 : D) (a2 : D) : runS lp Tryz.prog TryzG cl 20 [(.int .i64 a0), (.fz a1), (.fz a2)] = S20 lp cl a0 a1 a2 := by kernel_rfl
def S20_w (lp : Lp) (cl : CL) (args : List D) : Option D := bd (Sh.gds [(.int .i64), .fz, .fz] args) fun v => S20 lp cl v.1 v.2.1 v.2.2.1
theorem S20_t : TabE TryzE 20 S20_w := tab_of (by kernel_rfl) fun lp cl v => S20_eq lp cl v.1 v.2.1 v.2.2.1

/- 21 invigilator/taint.known -/
def S21 (lp : Lp) (cl : CL) (a0_0 : D) (a0_1 : D) (a1_0 : Int) (a1_1 : Int) (a1_2 : Int) (a1_3 : Int) (a1_4 : Int) : Option D :=
bd (bndO 2 2 (some (.int .i64 a1_1))) fun v0 =>
lp.run (fun (((_, t5v1, (t12v1_l, t12v1_c), t13v1, t14v1, _), ((b1v1_0, b1v1_1, b1v1_2, b1v1_3, b1v1_4, _), (b0v1_0, b0v1_1, _), _)) : (Unit × ((Unit) × (Unit × Unit)) × (Nat × Nat) × Int × Int × Unit) × ((Int × Int × Int × Int × Int × Unit) × (D × D × Unit) × Unit)) =>
bif (ltZ t14v1 t13v1) then (
bd (idxD t12v1_l (.int .i64 t14v1)) fun v2 =>
tkT q4 [(.int .i64 b1v1_0), (.int .i64 b1v1_1), (.int .i64 b1v1_2), (.int .i64 b1v1_3), (.int .i64 b1v1_4)] (2 + v2 * 1) none fun (v4 : Int) =>
clT q0 (cl 52 [(.int .i64 v4), (.iptr [b0v1_0, b0v1_1] 0)]) fun (v6 : Bool) =>
bif (!v6) then (
rt (
some (.bool false))) else (
some (.inl (((), ((()), ((), ())), (t12v1_l, t12v1_c), t13v1, (wrapD .i64 (t14v1 + 1)), ()), ((b1v1_0, b1v1_1, b1v1_2, b1v1_3, b1v1_4, ()), (b0v1_0, b0v1_1, ()), ()))))) else (
rt (
clT q0 (cl 52 [(.int .i64 b1v1_4), (.iptr [b0v1_0, b0v1_1] 0)]) fun (v8 : Bool) =>
some (.bool v8)))) (((), ((()), ((), ())), (v0, 2), (v0 : Int), (0 : Int), ()), ((a1_0, a1_1, a1_2, a1_3, a1_4, ()), (a0_0, a0_1, ()), ()))
theorem S21_eq (lp : Lp) (cl : CL) (a0_0 : D) (a0_1 : D) (a1_0 : Int) (a1_1 : Int) (a1_2 : Int) (a1_3 : Int) (a1_4 : Int) : runS lp Tryz.prog TryzG cl 21 [(.agg [(.fz a0_0), (.fz a0_1)]), (.agg [(.int .i64 a1_0), (.int .i64 a1_1), (.int .i64 a1_2), (.int .i64 a1_3), (.int .i64 a1_4)])] = S21 lp cl a0_0 a0_1 a1_0 a1_1 a1_2 a1_3 a1_4 := by kernel_rfl
def S21_w (lp : Lp) (cl : CL) (args : List D) : Option D := bd (Sh.gds [(.agg [.fz, .fz]), (.agg [(.int .i64), (.int .i64), (.int .i64), (.int .i64), (.int .i64)])] args) fun v => S21 lp cl v.1.1 v.1.2.1 v.2.1.1 v.2.1.2.1 v.2.1.2.2.1 v.2.1.2.2.2.1 v.2.1.2.2.2.2.1
theorem S21_t : TabE TryzE 21 S21_w := tab_of (by kernel_rfl) fun lp cl v => S21_eq lp cl v.1.1 v.1.2.1 v.2.1.1 v.2.1.2.1 v.2.1.2.2.1 v.2.1.2.2.2.1 v.2.1.2.2.2.2.1

/- 22 invigilator/taint.of -/
def S22 (lp : Lp) (cl : CL) (a0_0 : D) (a0_1 : D) : Option D :=
clT q7 (cl 53 [(.agg [a0_0, a0_1])]) fun (v1 : (Int × Int × Unit)) =>
some (.agg [a0_0, a0_1, (.int .i64 v1.1)])
theorem S22_eq (lp : Lp) (cl : CL) (a0_0 : D) (a0_1 : D) : runS lp Tryz.prog TryzG cl 22 [(.agg [(.fz a0_0), (.fz a0_1)])] = S22 lp cl a0_0 a0_1 := by kernel_rfl
def S22_w (lp : Lp) (cl : CL) (args : List D) : Option D := bd (Sh.gds [(.agg [.fz, .fz])] args) fun v => S22 lp cl v.1.1 v.1.2.1
theorem S22_t : TabE TryzE 22 S22_w := tab_of (by kernel_rfl) fun lp cl v => S22_eq lp cl v.1.1 v.1.2.1

/- 25 (invigilator/taint.rules).join -/
def S25 (lp : Lp) (cl : CL) (a0_0 : D) (a0_1 : D) (a0_2 : Int) (a1 : D) : Option D :=
bd (lenD false a1) fun v0 =>
lp.run (fun (((_, t5v1, t10v1, t11v1, t12v1, _), ((b0v1_0, b0v1_1, b0v1_2, _), _)) : (Unit × Int × D × Int × Int × Unit) × ((D × D × Int × Unit) × Unit)) =>
bif (ltZ t12v1 t11v1) then (
ixT q4 1 t10v1 (.int .i64 t12v1) none fun (v4 : Int) =>
clT q7 (cl 57 [(.agg [b0v1_0, b0v1_1]), (.int .i64 t5v1), (.int .i64 v4)]) fun (v6 : (Int × Int × Unit)) =>
some (.inl (((), v6.1, t10v1, t11v1, (wrapD .i64 (t12v1 + 1)), ()), ((b0v1_0, b0v1_1, b0v1_2, ()), ())))) else (
rt (
some (.int .i64 t5v1)))) (((), a0_2, a1, (v0 : Int), (0 : Int), ()), ((a0_0, a0_1, a0_2, ()), ()))
theorem S25_eq (lp : Lp) (cl : CL) (a0_0 : D) (a0_1 : D) (a0_2 : Int) (a1 : D) : runS lp Tryz.prog TryzG cl 25 [(.agg [(.fz a0_0), (.fz a0_1), (.int .i64 a0_2)]), (.fz a1)] = S25 lp cl a0_0 a0_1 a0_2 a1 := by kernel_rfl
def S25_w (lp : Lp) (cl : CL) (args : List D) : Option D := bd (Sh.gds [(.agg [.fz, .fz, (.int .i64)]), .fz] args) fun v => S25 lp cl v.1.1 v.1.2.1 v.1.2.2.1 v.2.1
theorem S25_t : TabE TryzE 25 S25_w := tab_of (by kernel_rfl) fun lp cl v => S25_eq lp cl v.1.1 v.1.2.1 v.1.2.2.1 v.2.1

/- 29 invigilator/invigilatorref27.axes -/
def S29 (lp : Lp) (cl : CL) (a0_0 : D) (a0_1 : D) (a1_0 : Int) (a1_1 : Int) (a1_2 : Int) (a1_3 : Int) (a1_4 : Int) : Option D :=
clT q4 (cl 32 [(.agg [a0_0, a0_1]), .nils]) fun (v1 : Int) =>
lp.run (fun (((_, _, t5v2, t6v2, _), ((b1v2_0, b1v2_1, b1v2_2, b1v2_3, b1v2_4, _), (b0v2_0, b0v2_1, _), _)) : (Unit × Unit × Int × Int × Unit) × ((Int × Int × Int × Int × Int × Unit) × (D × D × Unit) × Unit)) =>
bif (ltZ t6v2 b1v2_1) then (
bd (idxD 2 (.int .i64 t6v2)) fun v3 =>
tkT q4 [(.int .i64 b1v2_0), (.int .i64 b1v2_1), (.int .i64 b1v2_2), (.int .i64 b1v2_3), (.int .i64 b1v2_4)] (2 + v3 * 1) none fun (v5 : Int) =>
clT q4 (cl 32 [(.agg [b0v2_0, b0v2_1]), (.sl true 2 [(.int .i64 t5v2), (.int .i64 v5)])]) fun (v7 : Int) =>
some (.inl (((), (), v7, (wrapD .i64 (t6v2 + 1)), ()), ((b1v2_0, b1v2_1, b1v2_2, b1v2_3, b1v2_4, ()), (b0v2_0, b0v2_1, ()), ())))) else (
rt (
some (.int .i64 t5v2)))) (((), (), v1, (0 : Int), ()), ((a1_0, a1_1, a1_2, a1_3, a1_4, ()), (a0_0, a0_1, ()), ()))
theorem S29_eq (lp : Lp) (cl : CL) (a0_0 : D) (a0_1 : D) (a1_0 : Int) (a1_1 : Int) (a1_2 : Int) (a1_3 : Int) (a1_4 : Int) : runS lp Tryz.prog TryzG cl 29 [(.agg [(.fz a0_0), (.fz a0_1)]), (.agg [(.int .i64 a1_0), (.int .i64 a1_1), (.int .i64 a1_2), (.int .i64 a1_3), (.int .i64 a1_4)])] = S29 lp cl a0_0 a0_1 a1_0 a1_1 a1_2 a1_3 a1_4 := by kernel_rfl
def S29_w (lp : Lp) (cl : CL) (args : List D) : Option D := bd (Sh.gds [(.agg [.fz, .fz]), (.agg [(.int .i64), (.int .i64), (.int .i64), (.int .i64), (.int .i64)])] args) fun v => S29 lp cl v.1.1 v.1.2.1 v.2.1.1 v.2.1.2.1 v.2.1.2.2.1 v.2.1.2.2.2.1 v.2.1.2.2.2.2.1
theorem S29_t : TabE TryzE 29 S29_w := tab_of (by kernel_rfl) fun lp cl v => S29_eq lp cl v.1.1 v.1.2.1 v.2.1.1 v.2.1.2.1 v.2.1.2.2.1 v.2.1.2.2.2.1 v.2.1.2.2.2.2.1

/- 34 invigilator/invigilatorref03.Leq -/
def S34 (lp : Lp) (cl : CL) (a0_0 : D) (a0_1 : D) (a1 : Int) (a2 : Int) : Option D :=
clT q4 (cl 64 [(.agg [a0_0, a0_1]), (.int .i64 a1), (.int .i64 a2)]) fun (v1 : Int) =>
bif (eqZ v1 0) then (
clT q0 (cl 37 [(.agg [a0_0, a0_1]), (.int .i64 a1), (.int .i64 a2)]) fun (v3 : Bool) =>
some (.tup [(.bool v3), (.int .i64 v1)])) else (
some (.tup [(.bool false), (.int .i64 v1)]))
theorem S34_eq (lp : Lp) (cl : CL) (a0_0 : D) (a0_1 : D) (a1 : Int) (a2 : Int) : runS lp Tryz.prog TryzG cl 34 [(.agg [(.fz a0_0), (.fz a0_1)]), (.int .i64 a1), (.int .i64 a2)] = S34 lp cl a0_0 a0_1 a1 a2 := by kernel_rfl
def S34_w (lp : Lp) (cl : CL) (args : List D) : Option D := bd (Sh.gds [(.agg [.fz, .fz]), (.int .i64), (.int .i64)] args) fun v => S34 lp cl v.1.1 v.1.2.1 v.2.1 v.2.2.1
theorem S34_t : TabE TryzE 34 S34_w := tab_of (by kernel_rfl) fun lp cl v => S34_eq lp cl v.1.1 v.1.2.1 v.2.1 v.2.2.1

/- 40 invigilator/invigilatorref12.Arity -/
def S40 (lp : Lp) (cl : CL) (a0 : Int) : Option D :=
bj (α := (Int × Unit) × (Unit)) (
bif (ltZ a0 1) then (
rt (
some (.tup [(.int .i64 0), (.int .i64 2)]))) else (
bif (ltZ 40 a0) then (
rt (
some (.tup [(.int .i64 0), (.int .i64 2)]))) else (
some (.inl ((a0, ()), (())))))) fun (((t0v0, _), (_)) : (Int × Unit) × (Unit)) =>
bif (leZ t0v0 14) then (
some (.tup [(.int .i64 1), (.int .i64 0)])) else (
some (.tup [(.int .i64 2), (.int .i64 0)]))
theorem S40_eq (lp : Lp) (cl : CL) (a0 : Int) : runS lp Tryz.prog TryzG cl 40 [(.int .i64 a0)] = S40 lp cl a0 := by kernel_rfl
def S40_w (lp : Lp) (cl : CL) (args : List D) : Option D := bd (Sh.gds [(.int .i64)] args) fun v => S40 lp cl v.1
theorem S40_t : TabE TryzE 40 S40_w := tab_of (by kernel_rfl) fun lp cl v => S40_eq lp cl v.1

/- 42 invigilator/invigilatorref12.ranks -/
def S42 (lp : Lp) (cl : CL) (a0 : Int) (a1 : D) : Option D :=
lp.run (fun (((t0v0, t1v0, t5v0, _), (_)) : (Int × D × Int × Unit) × (Unit)) =>
bd (lenD false t1v0) fun v1 =>
bif (ltZ t5v0 (v1 : Int)) then (
ixT q4 1 t1v0 (.int .i64 t5v0) none fun (v4 : Int) =>
bif (ltZ v4 0) then (
rt (
some (.int .i64 (-1)))) else (
ixT q4 1 t1v0 (.int .i64 t5v0) none fun (v7 : Int) =>
bif (ltZ 2 v7) then (
rt (
some (.int .i64 (-1)))) else (
some (.inl ((t0v0, t1v0, (wrapD .i64 (t5v0 + 1)), ()), (())))))) else (
rt (
ixT q4 1 t1v0 (.int .i64 0) none fun (v10 : Int) =>
bd (lenD false t1v0) fun v11 =>
ixT q4 1 t1v0 (.int .i64 (wrapD .i64 ((v11 : Int) - 1))) none fun (v14 : Int) =>
bj (α := (Bool × Int × Unit) × (Unit)) (
bj (α := (Int × Int × Bool × Int × Int × Bool × Unit) × (Unit)) (
bif (eqZ t0v0 1) then (
some (.inl ((v10, v14, true, (1 : Int), t0v0, (eqZ t0v0 1), ()), (())))) else (
bif (eqZ t0v0 2) then (
some (.inl ((v10, v14, true, (1 : Int), t0v0, (eqZ t0v0 2), ()), (())))) else (
some (.inl ((v10, v14, true, (1 : Int), t0v0, (eqZ t0v0 3), ()), (())))))) fun (((t6v16, t7v16, t8v16, t9v16, t37v16, t52v16, _), (_)) : (Int × Int × Bool × Int × Int × Bool × Unit) × (Unit)) =>
bif t52v16 then (
some (.inl ((t8v16, t6v16, ()), (())))) else (
bj (α := (Int × Int × Bool × Int × Int × Bool × Unit) × (Unit)) (
bif (eqZ t37v16 4) then (
some (.inl ((t6v16, t7v16, t8v16, t9v16, t37v16, (eqZ t37v16 4), ()), (())))) else (
some (.inl ((t6v16, t7v16, t8v16, t9v16, t37v16, (eqZ t37v16 5), ()), (()))))) fun (((t6v17, t7v17, t8v17, t9v17, t37v17, t57v17, _), (_)) : (Int × Int × Bool × Int × Int × Bool × Unit) × (Unit)) =>
bif t57v17 then (
some (.inl ((t8v17, t9v17, ()), (())))) else (
bj (α := (Int × Int × Int × Int × Bool × Unit) × (Unit)) (
bif (eqZ t37v17 6) then (
some (.inl ((t6v17, t7v17, t9v17, t37v17, (eqZ t37v17 6), ()), (())))) else (
some (.inl ((t6v17, t7v17, t9v17, t37v17, (eqZ t37v17 13), ()), (()))))) fun (((t6v18, t7v18, t9v18, t37v18, t60v18, _), (_)) : (Int × Int × Int × Int × Bool × Unit) × (Unit)) =>
bif t60v18 then (
some (.inl (((ltZ 0 t6v18), t6v18, ()), (())))) else (
bif (eqZ t37v18 7) then (
some (.inl (((eqZ t6v18 2), (2 : Int), ()), (())))) else (
bif (eqZ t37v18 8) then (
some (.inl (((eqZ t6v18 0), t9v18, ()), (())))) else (
bj (α := (Int × Int × Int × Int × Bool × Unit) × (Unit)) (
bif (eqZ t37v18 9) then (
some (.inl ((t6v18, t7v18, t9v18, t37v18, (eqZ t37v18 9), ()), (())))) else (
bif (eqZ t37v18 10) then (
some (.inl ((t6v18, t7v18, t9v18, t37v18, (eqZ t37v18 10), ()), (())))) else (
bif (eqZ t37v18 11) then (
some (.inl ((t6v18, t7v18, t9v18, t37v18, (eqZ t37v18 11), ()), (())))) else (
some (.inl ((t6v18, t7v18, t9v18, t37v18, (eqZ t37v18 12), ()), (()))))))) fun (((t6v19, t7v19, t9v19, t37v19, t74v19, _), (_)) : (Int × Int × Int × Int × Bool × Unit) × (Unit)) =>
bif t74v19 then (
some (.inl (((ltZ 0 t6v19), (wrapD .i64 (t6v19 - 1)), ()), (())))) else (
bif (eqZ t37v19 14) then (
some (.inl (((eqZ t6v19 1), t9v19, ()), (())))) else (
bj (α := (Int × Int × Int × Int × Bool × Unit) × (Unit)) (
bif (eqZ t37v19 33) then (
some (.inl ((t6v19, t7v19, t9v19, t37v19, (eqZ t37v19 33), ()), (())))) else (
some (.inl ((t6v19, t7v19, t9v19, t37v19, (eqZ t37v19 34), ()), (()))))) fun (((t6v20, t7v20, t9v20, t37v20, t87v20, _), (_)) : (Int × Int × Int × Int × Bool × Unit) × (Unit)) =>
bif t87v20 then (
bif (eqZ t6v20 0) then (
some (.inl (((eqZ t7v20 1), t9v20, ()), (())))) else (
some (.inl ((false, t9v20, ()), (()))))) else (
bif (eqZ t37v20 35) then (
bif (eqZ t6v20 0) then (
some (.inl (((eqZ t7v20 0), t9v20, ()), (())))) else (
some (.inl ((false, t9v20, ()), (()))))) else (
bif (eqZ t37v20 36) then (
bif (eqZ t6v20 1) then (
some (.inl (((eqZ t7v20 1), (2 : Int), ()), (())))) else (
some (.inl ((false, (2 : Int), ()), (()))))) else (
bif (eqZ t37v20 37) then (
bif (eqZ t6v20 t7v20) then (
some (.inl (((ltZ 0 t6v20), t6v20, ()), (())))) else (
some (.inl ((false, t6v20, ()), (()))))) else (
bif (eqZ t37v20 38) then (
bif (eqZ t6v20 1) then (
some (.inl (((ltZ t7v20 2), t7v20, ()), (())))) else (
some (.inl ((false, t7v20, ()), (()))))) else (
bif (eqZ t37v20 39) then (
some (.inl (((eqZ t7v20 1), t6v20, ()), (())))) else (
bif (eqZ t37v20 40) then (
bif (eqZ t6v20 1) then (
some (.inl (((eqZ t7v20 1), t9v20, ()), (())))) else (
some (.inl ((false, t9v20, ()), (()))))) else (
bif (eqZ t6v20 t7v20) then (
some (.inl ((true, (mmZ true t6v20 t7v20), ()), (())))) else (
bif (eqZ t6v20 0) then (
some (.inl ((true, (mmZ true t6v20 t7v20), ()), (())))) else (
some (.inl (((eqZ t7v20 0), (mmZ true t6v20 t7v20), ()), (())))))))))))))))))))) fun (((t8v15, t9v15, _), (_)) : (Bool × Int × Unit) × (Unit)) =>
bif (!t8v15) then (
some (.int .i64 (-1))) else (
some (.int .i64 t9v15))))) ((a0, a1, (0 : Int), ()), (()))
theorem S42_eq (lp : Lp) (cl : CL) (a0 : Int) (a1 : D) : runS lp Tryz.prog TryzG cl 42 [(.int .i64 a0), (.fz a1)] = S42 lp cl a0 a1 := by kernel_rfl
def S42_w (lp : Lp) (cl : CL) (args : List D) : Option D := bd (Sh.gds [(.int .i64), .fz] args) fun v => S42 lp cl v.1 v.2.1
theorem S42_t : TabE TryzE 42 S42_w := tab_of (by kernel_rfl) fun lp cl v => S42_eq lp cl v.1 v.2.1

/- 44 invigilator/lattice.named -/
def S44 (lp : Lp) (cl : CL) (a0 : D) : Option D :=
bj (α := (D × Unit) × (Unit)) (
bd (lenD false a0) fun v1 =>
bif (ltZ (v1 : Int) 1) then (
rt (
some (.tup [(.int .i64 (-1)), (.int .i64 3)]))) else (
bd (lenD false a0) fun v2 =>
bif (ltZ 8 (v2 : Int)) then (
rt (
some (.tup [(.int .i64 (-1)), (.int .i64 3)]))) else (
some (.inl ((a0, ()), (())))))) fun (((t0v0, _), (_)) : (D × Unit) × (Unit)) =>
bd (lenD false t0v0) fun v3 =>
lp.run (fun (((t0v4, t14v4, t15v4, t16v4, _), (_)) : (D × D × Int × Int × Unit) × (Unit)) =>
bif (ltZ t16v4 t15v4) then (
ixT q12 1 t14v4 (.int .i64 t16v4) none fun (v7 : List UInt8) =>
clT q0 (cl 71 [(.str v7)]) fun (v9 : Bool) =>
bif (!v9) then (
rt (
some (.tup [(.int .i64 t16v4), (.int .i64 6)]))) else (
bd (slVF 1 t0v4 none (some (.int .i64 t16v4)) none) fun v10 =>
clT q0 (cl 72 [v10, (.str v7)]) fun (v12 : Bool) =>
bif v12 then (
rt (
some (.tup [(.int .i64 t16v4), (.int .i64 8)]))) else (
some (.inl ((t0v4, t14v4, t15v4, (wrapD .i64 (t16v4 + 1)), ()), (())))))) else (
rt (
some (.tup [(.int .i64 0), (.int .i64 0)])))) ((t0v0, t0v0, (v3 : Int), (0 : Int), ()), (()))
theorem S44_eq (lp : Lp) (cl : CL) (a0 : D) : runS lp Tryz.prog TryzG cl 44 [(.fz a0)] = S44 lp cl a0 := by kernel_rfl
def S44_w (lp : Lp) (cl : CL) (args : List D) : Option D := bd (Sh.gds [.fz] args) fun v => S44 lp cl v.1
theorem S44_t : TabE TryzE 44 S44_w := tab_of (by kernel_rfl) fun lp cl v => S44_eq lp cl v.1

/- 46 invigilator/lattice.of -/
def S46 (lp : Lp) (cl : CL) (a0 : D) : Option D :=
bd (ptF a0) fun v0 =>
tkT q19 v0.1 (v0.2 + 0) none fun (v2 : D) =>
bd (lenD false v2) fun v3 =>
bd (ptF a0) fun v4 =>
tkT q19 v4.1 (v4.2 + 1) none fun (v6 : D) =>
bd (lenD false v6) fun v7 =>
lp.run (fun (((_, _, t16v8, t17v8, t18v8, _), (b1006v8, b0v8, _)) : (Unit × Unit × D × Int × Int × Unit) × (List D × List D × Unit)) =>
bif (ltZ t18v8 t17v8) then (
ixT q13 1 t16v8 (.int .i64 t18v8) none fun (v11 : Int) =>
bd (idxD 8 (.int .i64 t18v8)) fun v12 =>
bd (inR (1 + v12 * 1) 1 (List.length b1006v8)) fun _ =>
tkT q4 (setQ b1006v8 (1 + v12 * 1) [(.int .u8 v11)]) 0 none fun (v14 : Int) =>
lp.run (fun (((_, _, t4v15, t5v15, t16v15, t17v15, t18v15, t28v15, t29v15, _), (b1006v15, b0v15, _)) : (Unit × Unit × Int × Int × D × Int × Int × Int × Int × Unit) × (List D × List D × Unit)) =>
bif (ltZ t29v15 t28v15) then (
bd (idxD 8 (.int .i64 t29v15)) fun v16 =>
tkT q13 b1006v15 (9 + v16 * 1) none fun (v18 : Int) =>
bd (shrD .u8 t5v15 t29v15) fun v19 =>
bd (shlD .u8 (andZ .u8 v19 1) t4v15) fun v20 =>
bd (idxD 8 (.int .i64 t29v15)) fun v21 =>
bd (inR (9 + v21 * 1) 1 (List.length b1006v15)) fun _ =>
some (.inl (((), (), t4v15, t5v15, t16v15, t17v15, t18v15, t28v15, (wrapD .i64 (t29v15 + 1)), ()), ((setQ b1006v15 (9 + v21 * 1) [(.int .u8 (orZ .u8 v18 v20))]), b0v15, ())))) else (
rt (
some (.inl (((), (), t16v15, t17v15, (wrapD .i64 (t18v15 + 1)), ()), (b1006v15, b0v15, ())))))) (((), (), t18v8, v11, t16v8, t17v8, t18v8, v14, (0 : Int), ()), ((setQ b1006v8 (1 + v12 * 1) [(.int .u8 v11)]), b0v8, ()))) else (
rt (
tkT q14 b1006v8 0 (some 17) fun (v23 : (Int × Int × Int × Int × Int × Int × Int × Int × Int × Int × Int × Int × Int × Int × Int × Int × Int × Unit)) =>
bd (inR 0 17 (List.length b0v8)) fun _ =>
bd (takeAt (setQ b0v8 0 [(.int .i64 v23.1), (.int .u8 v23.2.1), (.int .u8 v23.2.2.1), (.int .u8 v23.2.2.2.1), (.int .u8 v23.2.2.2.2.1), (.int .u8 v23.2.2.2.2.2.1), (.int .u8 v23.2.2.2.2.2.2.1), (.int .u8 v23.2.2.2.2.2.2.2.1), (.int .u8 v23.2.2.2.2.2.2.2.2.1), (.int .u8 v23.2.2.2.2.2.2.2.2.2.1), (.int .u8 v23.2.2.2.2.2.2.2.2.2.2.1), (.int .u8 v23.2.2.2.2.2.2.2.2.2.2.2.1), (.int .u8 v23.2.2.2.2.2.2.2.2.2.2.2.2.1), (.int .u8 v23.2.2.2.2.2.2.2.2.2.2.2.2.2.1), (.int .u8 v23.2.2.2.2.2.2.2.2.2.2.2.2.2.2.1), (.int .u8 v23.2.2.2.2.2.2.2.2.2.2.2.2.2.2.2.1), (.int .u8 v23.2.2.2.2.2.2.2.2.2.2.2.2.2.2.2.2.1)]) 0 (some 17)) fun v24 =>
some v24))) (((), (), v6, (v7 : Int), (0 : Int), ()), ([(.int .i64 (v3 : Int)), (.int .u8 0), (.int .u8 0), (.int .u8 0), (.int .u8 0), (.int .u8 0), (.int .u8 0), (.int .u8 0), (.int .u8 0), (.int .u8 0), (.int .u8 0), (.int .u8 0), (.int .u8 0), (.int .u8 0), (.int .u8 0), (.int .u8 0), (.int .u8 0)], [(.int .i64 0), (.int .u8 0), (.int .u8 0), (.int .u8 0), (.int .u8 0), (.int .u8 0), (.int .u8 0), (.int .u8 0), (.int .u8 0), (.int .u8 0), (.int .u8 0), (.int .u8 0), (.int .u8 0), (.int .u8 0), (.int .u8 0), (.int .u8 0), (.int .u8 0)], ()))
theorem S46_eq (lp : Lp) (cl : CL) (a0 : D) : runS lp Tryz.prog TryzG cl 46 [(.fz a0)] = S46 lp cl a0 := by kernel_rfl
def S46_w (lp : Lp) (cl : CL) (args : List D) : Option D := bd (Sh.gds [.fz] args) fun v => S46 lp cl v.1
theorem S46_t : TabE TryzE 46 S46_w := tab_of (by kernel_rfl) fun lp cl v => S46_eq lp cl v.1

/- 51 invigilator/prims.match -/
def S51 (lp : Lp) (cl : CL) (a0 : List UInt8) (a1 : D) (a2 : D) : Option D :=
lp.run (fun (((t1v0, t2v0, t6v0, t7v0, t8v0, t9v0, t10v0, t11v0, _, _), ((b3001v0_s, b3001v0_p), _)) : (D × D × Int × Int × Bool × Bool × Int × Int × Unit × Unit) × ((List UInt8 × Nat) × Unit)) =>
bif Nat.blt b3001v0_p (List.length b3001v0_s) then (
bd (quoD .i64 (b3001v0_p : Int) 2) fun v1 =>
bd (lenD false t1v0) fun v2 =>
bif (eqZ v1 (v2 : Int)) then (
bif (eqZ (decR b3001v0_s b3001v0_p) 105) then (
some (.inl ((t1v0, t2v0, (1 : Int), t7v0, t8v0, t9v0, t10v0, t11v0, (), ()), ((b3001v0_s, (b3001v0_p + decW b3001v0_s b3001v0_p)), ())))) else (
bif (eqZ (decR b3001v0_s b3001v0_p) 107) then (
some (.inl ((t1v0, t2v0, t10v0, t7v0, t8v0, t9v0, t10v0, t11v0, (), ()), ((b3001v0_s, (b3001v0_p + decW b3001v0_s b3001v0_p)), ())))) else (
bif (eqZ (decR b3001v0_s b3001v0_p) 110) then (
some (.inl ((t1v0, t2v0, t6v0, t11v0, t8v0, t9v0, t10v0, t11v0, (), ()), ((b3001v0_s, (b3001v0_p + decW b3001v0_s b3001v0_p)), ())))) else (
some (.inl ((t1v0, t2v0, t6v0, (wrapD .i64 (wrapD .i32 ((decR b3001v0_s b3001v0_p) - 48))), t8v0, t9v0, t10v0, t11v0, (), ()), ((b3001v0_s, (b3001v0_p + decW b3001v0_s b3001v0_p)), ()))))))) else (
bif (eqZ (decR b3001v0_s b3001v0_p) 105) then (
bif t8v0 then (
ixT q4 1 t1v0 (.int .i64 v1) none fun (v5 : Int) =>
some (.inl ((t1v0, t2v0, t6v0, t7v0, (eqZ v5 1), t9v0, t10v0, t11v0, (), ()), ((b3001v0_s, (b3001v0_p + decW b3001v0_s b3001v0_p)), ())))) else (
some (.inl ((t1v0, t2v0, t6v0, t7v0, false, t9v0, t10v0, t11v0, (), ()), ((b3001v0_s, (b3001v0_p + decW b3001v0_s b3001v0_p)), ()))))) else (
bif (eqZ (decR b3001v0_s b3001v0_p) 107) then (
bif t8v0 then (
ixT q4 1 t1v0 (.int .i64 v1) none fun (v8 : Int) =>
bif (eqZ v8 1) then (
bif (eqZ t10v0 0) then (
ixT q4 1 t1v0 (.int .i64 v1) none fun (v11 : Int) =>
some (.inl ((t1v0, t2v0, t6v0, t7v0, true, t9v0, v11, t11v0, (), ()), ((b3001v0_s, (b3001v0_p + decW b3001v0_s b3001v0_p)), ())))) else (
ixT q4 1 t1v0 (.int .i64 v1) none fun (v14 : Int) =>
ixT q4 1 t1v0 (.int .i64 v1) none fun (v17 : Int) =>
some (.inl ((t1v0, t2v0, t6v0, t7v0, (eqZ t10v0 v14), t9v0, v17, t11v0, (), ()), ((b3001v0_s, (b3001v0_p + decW b3001v0_s b3001v0_p)), ()))))) else (
ixT q4 1 t1v0 (.int .i64 v1) none fun (v20 : Int) =>
bif (eqZ v20 2) then (
bif (eqZ t10v0 0) then (
ixT q4 1 t1v0 (.int .i64 v1) none fun (v23 : Int) =>
some (.inl ((t1v0, t2v0, t6v0, t7v0, true, t9v0, v23, t11v0, (), ()), ((b3001v0_s, (b3001v0_p + decW b3001v0_s b3001v0_p)), ())))) else (
ixT q4 1 t1v0 (.int .i64 v1) none fun (v26 : Int) =>
ixT q4 1 t1v0 (.int .i64 v1) none fun (v29 : Int) =>
some (.inl ((t1v0, t2v0, t6v0, t7v0, (eqZ t10v0 v26), t9v0, v29, t11v0, (), ()), ((b3001v0_s, (b3001v0_p + decW b3001v0_s b3001v0_p)), ()))))) else (
ixT q4 1 t1v0 (.int .i64 v1) none fun (v32 : Int) =>
some (.inl ((t1v0, t2v0, t6v0, t7v0, false, t9v0, v32, t11v0, (), ()), ((b3001v0_s, (b3001v0_p + decW b3001v0_s b3001v0_p)), ())))))) else (
ixT q4 1 t1v0 (.int .i64 v1) none fun (v35 : Int) =>
some (.inl ((t1v0, t2v0, t6v0, t7v0, false, t9v0, v35, t11v0, (), ()), ((b3001v0_s, (b3001v0_p + decW b3001v0_s b3001v0_p)), ()))))) else (
bif (eqZ (decR b3001v0_s b3001v0_p) 110) then (
bif t9v0 then (
ixT q4 1 t2v0 (.int .i64 v1) none fun (v38 : Int) =>
bif (leZ 0 v38) then (
ixT q4 1 t2v0 (.int .i64 v1) none fun (v41 : Int) =>
bif (leZ v41 2) then (
bif (ltZ t11v0 0) then (
ixT q4 1 t2v0 (.int .i64 v1) none fun (v44 : Int) =>
some (.inl ((t1v0, t2v0, t6v0, t7v0, t8v0, true, t10v0, v44, (), ()), ((b3001v0_s, (b3001v0_p + decW b3001v0_s b3001v0_p)), ())))) else (
ixT q4 1 t2v0 (.int .i64 v1) none fun (v47 : Int) =>
ixT q4 1 t2v0 (.int .i64 v1) none fun (v50 : Int) =>
some (.inl ((t1v0, t2v0, t6v0, t7v0, t8v0, (eqZ t11v0 v47), t10v0, v50, (), ()), ((b3001v0_s, (b3001v0_p + decW b3001v0_s b3001v0_p)), ()))))) else (
ixT q4 1 t2v0 (.int .i64 v1) none fun (v53 : Int) =>
some (.inl ((t1v0, t2v0, t6v0, t7v0, t8v0, false, t10v0, v53, (), ()), ((b3001v0_s, (b3001v0_p + decW b3001v0_s b3001v0_p)), ()))))) else (
ixT q4 1 t2v0 (.int .i64 v1) none fun (v56 : Int) =>
some (.inl ((t1v0, t2v0, t6v0, t7v0, t8v0, false, t10v0, v56, (), ()), ((b3001v0_s, (b3001v0_p + decW b3001v0_s b3001v0_p)), ()))))) else (
ixT q4 1 t2v0 (.int .i64 v1) none fun (v59 : Int) =>
some (.inl ((t1v0, t2v0, t6v0, t7v0, t8v0, false, t10v0, v59, (), ()), ((b3001v0_s, (b3001v0_p + decW b3001v0_s b3001v0_p)), ()))))) else (
bif t9v0 then (
ixT q4 1 t2v0 (.int .i64 v1) none fun (v62 : Int) =>
some (.inl ((t1v0, t2v0, t6v0, t7v0, t8v0, (eqZ v62 (wrapD .i64 (wrapD .i32 ((decR b3001v0_s b3001v0_p) - 48)))), t10v0, t11v0, (), ()), ((b3001v0_s, (b3001v0_p + decW b3001v0_s b3001v0_p)), ())))) else (
some (.inl ((t1v0, t2v0, t6v0, t7v0, t8v0, false, t10v0, t11v0, (), ()), ((b3001v0_s, (b3001v0_p + decW b3001v0_s b3001v0_p)), ()))))))))) else (
rt (
some (.tup [(.int .i64 t6v0), (.int .i64 t7v0), (.bool t8v0), (.bool t9v0)])))) ((a1, a2, (0 : Int), (0 : Int), true, true, (0 : Int), ((-1) : Int), (), ()), ((a0, 0), ()))
theorem S51_eq (lp : Lp) (cl : CL) (a0 : List UInt8) (a1 : D) (a2 : D) : runS lp Tryz.prog TryzG cl 51 [(.str a0), (.fz a1), (.fz a2)] = S51 lp cl a0 a1 a2 := by kernel_rfl
def S51_w (lp : Lp) (cl : CL) (args : List D) : Option D := bd (Sh.gds [.str, .fz, .fz] args) fun v => S51 lp cl v.1 v.2.1 v.2.2.1
theorem S51_t : TabE TryzE 51 S51_w := tab_of (by kernel_rfl) fun lp cl v => S51_eq lp cl v.1 v.2.1 v.2.2.1

/- 53 invigilator/lattice.Bottom -/
def S53 (lp : Lp) (cl : CL) (a0_0 : D) (a0_1 : D) : Option D :=
clT q4 (cl 74 [(.iptr [a0_0, a0_1] 0), .nils]) fun (v1 : Int) =>
bif (!(eqZ v1 0)) then (
some (.tup [(.int .i64 0), (.int .i64 v1)])) else (
clT q14 (cl 46 [(.iptr [a0_0, a0_1] 0)]) fun (v3 : (Int × Int × Int × Int × Int × Int × Int × Int × Int × Int × Int × Int × Int × Int × Int × Int × Int × Unit)) =>
clT q4 (cl 75 [(.agg [(.int .u8 v3.2.1), (.int .u8 v3.2.2.1), (.int .u8 v3.2.2.2.1), (.int .u8 v3.2.2.2.2.1), (.int .u8 v3.2.2.2.2.2.1), (.int .u8 v3.2.2.2.2.2.2.1), (.int .u8 v3.2.2.2.2.2.2.2.1), (.int .u8 v3.2.2.2.2.2.2.2.2.1)]), (.int .i64 v3.1)]) fun (v5 : Int) =>
some (.tup [(.int .i64 v5), (.int .i64 0)]))
theorem S53_eq (lp : Lp) (cl : CL) (a0_0 : D) (a0_1 : D) : runS lp Tryz.prog TryzG cl 53 [(.agg [(.fz a0_0), (.fz a0_1)])] = S53 lp cl a0_0 a0_1 := by kernel_rfl
def S53_w (lp : Lp) (cl : CL) (args : List D) : Option D := bd (Sh.gds [(.agg [.fz, .fz])] args) fun v => S53 lp cl v.1.1 v.1.2.1
theorem S53_t : TabE TryzE 53 S53_w := tab_of (by kernel_rfl) fun lp cl v => S53_eq lp cl v.1.1 v.1.2.1

/- 59 invigilator/invigilatorref03.ordered -/
def S59 (lp : Lp) (cl : CL) (a0_0 : D) (a0_1 : D) (a1 : Int) : Option D :=
bd (lenD false a0_0) fun v0 =>
ixT q13 1 a0_1 (.int .i64 a1) none fun (v3 : Int) =>
bj (α := (Int × Unit × Int × Int × Unit) × ((D × D × Unit) × Unit)) (
bd (shrD .i64 (wrapD .i64 v3) (v0 : Int)) fun v5 =>
bif (ltZ 0 v5) then (
rt (
some (.bool false))) else (
clT q0 (cl 37 [(.agg [a0_0, a0_1]), (.int .i64 a1), (.int .i64 a1)]) fun (v7 : Bool) =>
bif (!v7) then (
rt (
some (.bool false))) else (
some (.inl ((a1, (), (v0 : Int), (wrapD .i64 v3), ()), ((a0_0, a0_1, ()), ())))))) fun (((t1v4, _, t5v4, t6v4, _), ((b0v4_0, b0v4_1, _), _)) : (Int × Unit × Int × Int × Unit) × ((D × D × Unit) × Unit)) =>
lp.run (fun (((t1v8, _, t5v8, t6v8, t7v8, _), ((b0v8_0, b0v8_1, _), _)) : (Int × Unit × Int × Int × Int × Unit) × ((D × D × Unit) × Unit)) =>
bif (ltZ t7v8 t5v8) then (
clT q0 (cl 37 [(.agg [b0v8_0, b0v8_1]), (.int .i64 t1v8), (.int .i64 t7v8)]) fun (v10 : Bool) =>
bif (!v10) then (
some (.inl ((t1v8, (), t5v8, t6v8, (wrapD .i64 (t7v8 + 1)), ()), ((b0v8_0, b0v8_1, ()), ())))) else (
ixT q13 1 b0v8_1 (.int .i64 t7v8) none fun (v13 : Int) =>
bd (shlD .i64 1 t5v8) fun v14 =>
bif (!(eqZ t7v8 t1v8)) then (
clT q0 (cl 37 [(.agg [b0v8_0, b0v8_1]), (.int .i64 t7v8), (.int .i64 t1v8)]) fun (v16 : Bool) =>
bif v16 then (
rt (
some (.bool false))) else (
bif (!(eqZ (andZ .i64 (andZ .i64 (wrapD .i64 v13) (wrapD .i64 (v14 - 1))) t6v8) (andZ .i64 (wrapD .i64 v13) (wrapD .i64 (v14 - 1))))) then (
rt (
some (.bool false))) else (
some (.inl ((t1v8, (), t5v8, t6v8, (wrapD .i64 (t7v8 + 1)), ()), ((b0v8_0, b0v8_1, ()), ())))))) else (
bif (!(eqZ (andZ .i64 (andZ .i64 (wrapD .i64 v13) (wrapD .i64 (v14 - 1))) t6v8) (andZ .i64 (wrapD .i64 v13) (wrapD .i64 (v14 - 1))))) then (
rt (
some (.bool false))) else (
some (.inl ((t1v8, (), t5v8, t6v8, (wrapD .i64 (t7v8 + 1)), ()), ((b0v8_0, b0v8_1, ()), ()))))))) else (
rt (
some (.bool true)))) ((t1v4, (), t5v4, t6v4, (0 : Int), ()), ((b0v4_0, b0v4_1, ()), ()))
theorem S59_eq (lp : Lp) (cl : CL) (a0_0 : D) (a0_1 : D) (a1 : Int) : runS lp Tryz.prog TryzG cl 59 [(.agg [(.fz a0_0), (.fz a0_1)]), (.int .i64 a1)] = S59 lp cl a0_0 a0_1 a1 := by kernel_rfl
def S59_w (lp : Lp) (cl : CL) (args : List D) : Option D := bd (Sh.gds [(.agg [.fz, .fz]), (.int .i64)] args) fun v => S59 lp cl v.1.1 v.1.2.1 v.2.1
theorem S59_t : TabE TryzE 59 S59_w := tab_of (by kernel_rfl) fun lp cl v => S59_eq lp cl v.1.1 v.1.2.1 v.2.1

/- 71 invigilator/words.Name -/
def S71 (lp : Lp) (cl : CL) (a0 : List UInt8) : Option D :=
bif (eqS a0 []) then (
some (.bool false)) else (
bif (ltZ 16 (List.length a0 : Int)) then (
some (.bool false)) else (
bd (ixStr a0 (.int .i64 0)) fun v0 =>
bif (ltZ v0 97) then (
some (.bool false)) else (
bd (ixStr a0 (.int .i64 0)) fun v1 =>
bif (ltZ 122 v1) then (
some (.bool false)) else (
clT q12 (cl 82 [(.str a0), (.str [97, 98, 99, 100, 101, 102, 103, 104, 105, 106, 107, 108, 109, 110, 111, 112, 113, 114, 115, 116, 117, 118, 119, 120, 121, 122, 48, 49, 50, 51, 52, 53, 54, 55, 56, 57, 45])]) fun (v3 : List UInt8) =>
some (.bool (eqS v3 []))))))
theorem S71_eq (lp : Lp) (cl : CL) (a0 : List UInt8) : runS lp Tryz.prog TryzG cl 71 [(.str a0)] = S71 lp cl a0 := by kernel_rfl
def S71_w (lp : Lp) (cl : CL) (args : List D) : Option D := bd (Sh.gds [.str] args) fun v => S71 lp cl v.1
theorem S71_t : TabE TryzE 71 S71_w := tab_of (by kernel_rfl) fun lp cl v => S71_eq lp cl v.1

/- 76 invigilator/invigilatorref01.Name -/
def S76 (lp : Lp) (cl : CL) (a0 : List UInt8) : Option D :=
bj (α := (List UInt8 × Unit) × (Unit)) (
bif (ltZ (List.length a0 : Int) 1) then (
rt (
some (.bool false))) else (
bif (ltZ 16 (List.length a0 : Int)) then (
rt (
some (.bool false))) else (
bd (ixStr a0 (.int .i64 0)) fun v1 =>
clT q0 (cl 106 [(.int .u8 v1)]) fun (v3 : Bool) =>
bif (!v3) then (
rt (
some (.bool false))) else (
some (.inl ((a0, ()), (()))))))) fun (((t0v0, _), (_)) : (List UInt8 × Unit) × (Unit)) =>
lp.run (fun (((t0v4, t3v4, _), (_)) : (List UInt8 × Int × Unit) × (Unit)) =>
bif (ltZ t3v4 (List.length t0v4 : Int)) then (
bd (ixStr t0v4 (.int .i64 t3v4)) fun v5 =>
clT q0 (cl 106 [(.int .u8 v5)]) fun (v7 : Bool) =>
bif (!v7) then (
bd (ixStr t0v4 (.int .i64 t3v4)) fun v8 =>
clT q0 (cl 107 [(.int .u8 v8)]) fun (v10 : Bool) =>
bif (!v10) then (
bd (ixStr t0v4 (.int .i64 t3v4)) fun v11 =>
bif (!(eqZ v11 45)) then (
rt (
some (.bool false))) else (
some (.inl ((t0v4, (wrapD .i64 (t3v4 + 1)), ()), (()))))) else (
some (.inl ((t0v4, (wrapD .i64 (t3v4 + 1)), ()), (()))))) else (
some (.inl ((t0v4, (wrapD .i64 (t3v4 + 1)), ()), (()))))) else (
rt (
some (.bool true)))) ((t0v0, (0 : Int), ()), (()))
theorem S76_eq (lp : Lp) (cl : CL) (a0 : List UInt8) : runS lp Tryz.prog TryzG cl 76 [(.str a0)] = S76 lp cl a0 := by kernel_rfl
def S76_w (lp : Lp) (cl : CL) (args : List D) : Option D := bd (Sh.gds [.str] args) fun v => S76 lp cl v.1
theorem S76_t : TabE TryzE 76 S76_w := tab_of (by kernel_rfl) fun lp cl v => S76_eq lp cl v.1

/- 82 strings.Trim -/
def S82 (lp : Lp) (cl : CL) (a0 : List UInt8) (a1 : List UInt8) : Option D :=
bj (α := (List UInt8 × List UInt8 × Unit) × (Unit)) (
bif (eqS a0 []) then (
rt (
some (.str a0))) else (
bif (eqS a1 []) then (
rt (
some (.str a0))) else (
some (.inl ((a0, a1, ()), (())))))) fun (((t0v0, t1v0, _), (_)) : (List UInt8 × List UInt8 × Unit) × (Unit)) =>
bj (α := (List UInt8 × List UInt8 × Unit) × (Unit)) (
bj (α := (List UInt8 × List UInt8 × Bool × Unit) × (Unit)) (
bif (eqZ (List.length t1v0 : Int) 1) then (
bd (ixStr t1v0 (.int .i64 0)) fun v3 =>
some (.inl ((t0v0, t1v0, (ltZ v3 128), ()), (())))) else (
some (.inl ((t0v0, t1v0, false, ()), (()))))) fun (((t0v2, t1v2, t21v2, _), (_)) : (List UInt8 × List UInt8 × Bool × Unit) × (Unit)) =>
bif t21v2 then (
bd (ixStr t1v2 (.int .i64 0)) fun v4 =>
clT q12 (cl 110 [(.str t0v2), (.int .u8 v4)]) fun (v6 : List UInt8) =>
bd (ixStr t1v2 (.int .i64 0)) fun v7 =>
clT q12 (cl 109 [(.str v6), (.int .u8 v7)]) fun (v9 : List UInt8) =>
rt (
some (.str v9))) else (
some (.inl ((t0v2, t1v2, ()), (()))))) fun (((t0v1, t1v1, _), (_)) : (List UInt8 × List UInt8 × Unit) × (Unit)) =>
clT q22 (cl 111 [(.str t1v1)]) fun (v11 : (D × Bool × Unit)) =>
bd (cellsF 256 v11.1) fun v12 =>
bd (inR 0 256 256) fun _ =>
bif v11.2.1 then (
clT q12 (cl 113 [(.str t0v1), (.iptr (setQ [(.bool false), (.bool false), (.bool false), (.bool false), (.bool false), (.bool false), (.bool false), (.bool false), (.bool false), (.bool false), (.bool false), (.bool false), (.bool false), (.bool false), (.bool false), (.bool false), (.bool false), (.bool false), (.bool false), (.bool false), (.bool false), (.bool false), (.bool false), (.bool false), (.bool false), (.bool false), (.bool false), (.bool false), (.bool false), (.bool false), (.bool false), (.bool false), (.bool false), (.bool false), (.bool false), (.bool false), (.bool false), (.bool false), (.bool false), (.bool false), (.bool false), (.bool false), (.bool false), (.bool false), (.bool false), (.bool false), (.bool false), (.bool false), (.bool false), (.bool false), (.bool false), (.bool false), (.bool false), (.bool false), (.bool false), (.bool false), (.bool false), (.bool false), (.bool false), (.bool false), (.bool false), (.bool false), (.bool false), (.bool false), (.bool false), (.bool false), (.bool false), (.bool false), (.bool false), (.bool false), (.bool false), (.bool false), (.bool false), (.bool false), (.bool false), (.bool false), (.bool false), (.bool false), (.bool false), (.bool false), (.bool false), (.bool false), (.bool false), (.bool false), (.bool false), (.bool false), (.bool false), (.bool false), (.bool false), (.bool false), (.bool false), (.bool false), (.bool false), (.bool false), (.bool false), (.bool false), (.bool false), (.bool false), (.bool false), (.bool false), (.bool false), (.bool false), (.bool false), (.bool false), (.bool false), (.bool false), (.bool false), (.bool false), (.bool false), (.bool false), (.bool false), (.bool false), (.bool false), (.bool false), (.bool false), (.bool false), (.bool false), (.bool false), (.bool false), (.bool false), (.bool false), (.bool false), (.bool false), (.bool false), (.bool false), (.bool false), (.bool false), (.bool false), (.bool false), (.bool false), (.bool false), (.bool false), (.bool false), (.bool false), (.bool false), (.bool false), (.bool false), (.bool false), (.bool false), (.bool false), (.bool false), (.bool false), (.bool false), (.bool false), (.bool false), (.bool false), (.bool false), (.bool false), (.bool false), (.bool false), (.bool false), (.bool false), (.bool false), (.bool false), (.bool false), (.bool false), (.bool false), (.bool false), (.bool false), (.bool false), (.bool false), (.bool false), (.bool false), (.bool false), (.bool false), (.bool false), (.bool false), (.bool false), (.bool false), (.bool false), (.bool false), (.bool false), (.bool false), (.bool false), (.bool false), (.bool false), (.bool false), (.bool false), (.bool false), (.bool false), (.bool false), (.bool false), (.bool false), (.bool false), (.bool false), (.bool false), (.bool false), (.bool false), (.bool false), (.bool false), (.bool false), (.bool false), (.bool false), (.bool false), (.bool false), (.bool false), (.bool false), (.bool false), (.bool false), (.bool false), (.bool false), (.bool false), (.bool false), (.bool false), (.bool false), (.bool false), (.bool false), (.bool false), (.bool false), (.bool false), (.bool false), (.bool false), (.bool false), (.bool false), (.bool false), (.bool false), (.bool false), (.bool false), (.bool false), (.bool false), (.bool false), (.bool false), (.bool false), (.bool false), (.bool false), (.bool false), (.bool false), (.bool false), (.bool false), (.bool false), (.bool false), (.bool false), (.bool false), (.bool false), (.bool false), (.bool false), (.bool false), (.bool false), (.bool false), (.bool false), (.bool false), (.bool false), (.bool false), (.bool false), (.bool false), (.bool false), (.bool false), (.bool false), (.bool false), (.bool false), (.bool false), (.bool false), (.bool false), (.bool false), (.bool false), (.bool false)] 0 v12) 0)]) fun (v14 : List UInt8) =>
clT q12 (cl 112 [(.str v14), (.iptr (setQ [(.bool false), (.bool false), (.bool false), (.bool false), (.bool false), (.bool false), (.bool false), (.bool false), (.bool false), (.bool false), (.bool false), (.bool false), (.bool false), (.bool false), (.bool false), (.bool false), (.bool false), (.bool false), (.bool false), (.bool false), (.bool false), (.bool false), (.bool false), (.bool false), (.bool false), (.bool false), (.bool false), (.bool false), (.bool false), (.bool false), (.bool false), (.bool false), (.bool false), (.bool false), (.bool false), (.bool false), (.bool false), (.bool false), (.bool false), (.bool false), (.bool false), (.bool false), (.bool false), (.bool false), (.bool false), (.bool false), (.bool false), (.bool false), (.bool false), (.bool false), (.bool false), (.bool false), (.bool false), (.bool false), (.bool false), (.bool false), (.bool false), (.bool false), (.bool false), (.bool false), (.bool false), (.bool false), (.bool false), (.bool false), (.bool false), (.bool false), (.bool false), (.bool false), (.bool false), (.bool false), (.bool false), (.bool false), (.bool false), (.bool false), (.bool false), (.bool false), (.bool false), (.bool false), (.bool false), (.bool false), (.bool false), (.bool false), (.bool false), (.bool false), (.bool false), (.bool false), (.bool false), (.bool false), (.bool false), (.bool false), (.bool false), (.bool false), (.bool false), (.bool false), (.bool false), (.bool false), (.bool false), (.bool false), (.bool false), (.bool false), (.bool false), (.bool false), (.bool false), (.bool false), (.bool false), (.bool false), (.bool false), (.bool false), (.bool false), (.bool false), (.bool false), (.bool false), (.bool false), (.bool false), (.bool false), (.bool false), (.bool false), (.bool false), (.bool false), (.bool false), (.bool false), (.bool false), (.bool false), (.bool false), (.bool false), (.bool false), (.bool false), (.bool false), (.bool false), (.bool false), (.bool false), (.bool false), (.bool false), (.bool false), (.bool false), (.bool false), (.bool false), (.bool false), (.bool false), (.bool false), (.bool false), (.bool false), (.bool false), (.bool false), (.bool false), (.bool false), (.bool false), (.bool false), (.bool false), (.bool false), (.bool false), (.bool false), (.bool false), (.bool false), (.bool false), (.bool false), (.bool false), (.bool false), (.bool false), (.bool false), (.bool false), (.bool false), (.bool false), (.bool false), (.bool false), (.bool false), (.bool false), (.bool false), (.bool false), (.bool false), (.bool false), (.bool false), (.bool false), (.bool false), (.bool false), (.bool false), (.bool false), (.bool false), (.bool false), (.bool false), (.bool false), (.bool false), (.bool false), (.bool false), (.bool false), (.bool false), (.bool false), (.bool false), (.bool false), (.bool false), (.bool false), (.bool false), (.bool false), (.bool false), (.bool false), (.bool false), (.bool false), (.bool false), (.bool false), (.bool false), (.bool false), (.bool false), (.bool false), (.bool false), (.bool false), (.bool false), (.bool false), (.bool false), (.bool false), (.bool false), (.bool false), (.bool false), (.bool false), (.bool false), (.bool false), (.bool false), (.bool false), (.bool false), (.bool false), (.bool false), (.bool false), (.bool false), (.bool false), (.bool false), (.bool false), (.bool false), (.bool false), (.bool false), (.bool false), (.bool false), (.bool false), (.bool false), (.bool false), (.bool false), (.bool false), (.bool false), (.bool false), (.bool false), (.bool false), (.bool false), (.bool false), (.bool false), (.bool false), (.bool false), (.bool false), (.bool false), (.bool false), (.bool false), (.bool false), (.bool false), (.bool false), (.bool false), (.bool false), (.bool false), (.bool false), (.bool false)] 0 v12) 0)]) fun (v16 : List UInt8) =>
some (.str v16)) else (
clT q12 (cl 115 [(.str t0v1), (.str t1v1)]) fun (v18 : List UInt8) =>
clT q12 (cl 114 [(.str v18), (.str t1v1)]) fun (v20 : List UInt8) =>
some (.str v20))
theorem S82_eq (lp : Lp) (cl : CL) (a0 : List UInt8) (a1 : List UInt8) : runS lp Tryz.prog TryzG cl 82 [(.str a0), (.str a1)] = S82 lp cl a0 a1 := by kernel_rfl
def S82_w (lp : Lp) (cl : CL) (args : List D) : Option D := bd (Sh.gds [.str, .str] args) fun v => S82 lp cl v.1 v.2.1
theorem S82_t : TabE TryzE 82 S82_w := tab_of (by kernel_rfl) fun lp cl v => S82_eq lp cl v.1 v.2.1

/- 84 invigilator/prims.errs -/
def S84 (lp : Lp) (cl : CL) (a0 : D) : Option D :=
some a0
theorem S84_eq (lp : Lp) (cl : CL) (a0 : D) : runS lp Tryz.prog TryzG cl 84 [(.fz a0)] = S84 lp cl a0 := by kernel_rfl
def S84_w (lp : Lp) (cl : CL) (args : List D) : Option D := bd (Sh.gds [.fz] args) fun v => S84 lp cl v.1
theorem S84_t : TabE TryzE 84 S84_w := tab_of (by kernel_rfl) fun lp cl v => S84_eq lp cl v.1

/- 114 strings.trimLeftUnicode -/
def S114 (lp : Lp) (cl : CL) (a0 : List UInt8) (a1 : List UInt8) : Option D :=
lp.run (fun (((t0v0, t1v0, _), (_)) : (List UInt8 × List UInt8 × Unit) × (Unit)) =>
bif (ltZ 0 (List.length t0v0 : Int)) then (
clT q28 (cl 143 [(.str t0v0)]) fun (v2 : (Int × Int × Unit)) =>
clT q0 (cl 144 [(.str t1v0), (.int .i32 v2.1)]) fun (v4 : Bool) =>
bif (!v4) then (
rt (
some (.str t0v0))) else (
bd (slStr t0v0 (some (.int .i64 v2.2.1)) none) fun v5 =>
some (.inl ((v5, t1v0, ()), (()))))) else (
rt (
some (.str t0v0)))) ((a0, a1, ()), (()))
theorem S114_eq (lp : Lp) (cl : CL) (a0 : List UInt8) (a1 : List UInt8) : runS lp Tryz.prog TryzG cl 114 [(.str a0), (.str a1)] = S114 lp cl a0 a1 := by kernel_rfl
def S114_w (lp : Lp) (cl : CL) (args : List D) : Option D := bd (Sh.gds [.str, .str] args) fun v => S114 lp cl v.1 v.2.1
theorem S114_t : TabE TryzE 114 S114_w := tab_of (by kernel_rfl) fun lp cl v => S114_eq lp cl v.1 v.2.1

/- 144 strings.ContainsRune -/
def S144 (lp : Lp) (cl : CL) (a0 : List UInt8) (a1 : Int) : Option D :=
clT q4 (cl 157 [(.str a0), (.int .i32 a1)]) fun (v1 : Int) =>
some (.bool (leZ 0 v1))
theorem S144_eq (lp : Lp) (cl : CL) (a0 : List UInt8) (a1 : Int) : runS lp Tryz.prog TryzG cl 144 [(.str a0), (.int .i32 a1)] = S144 lp cl a0 a1 := by kernel_rfl
def S144_w (lp : Lp) (cl : CL) (args : List D) : Option D := bd (Sh.gds [.str, (.int .i32)] args) fun v => S144 lp cl v.1 v.2.1
theorem S144_t : TabE TryzE 144 S144_w := tab_of (by kernel_rfl) fun lp cl v => S144_eq lp cl v.1 v.2.1

end Go.Proofs.YtblbgjfkbcdlfaaGreatDoor
