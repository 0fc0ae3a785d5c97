/- What the functions come to. -/
import Derived.Test.YtblbgjfkbcdlfaaGreatDoorSH
set_option linter.unusedVariables false
set_option maxRecDepth 100000
namespace Go.Proofs.YtblbgjfkbcdlfaaGreatDoor
open Go Iv
/- 4 invigilator/invigilatorlaw27.TaintRises -/
def S4 (lp : Lp) (cl : CL) (a0_0 : D) (a0_1 : D) (a1 : D) (a2_0 : Int) (a2_1 : Int) (a2_2 : Int) : Option D :=
bj (α := (D × Unit × Unit × Unit) × ((Int × Int × Int × Unit) × (D × D × Unit) × Unit)) (
clT q0 (cl 6 [(.agg [a0_0, a0_1])]) fun (v2 : Bool) =>
bif v2 then (
clT q0 (cl 7 []) fun (v4 : Bool) =>
rt (
some (.bool v4))) else (
bd (lenD false a1) fun v5 =>
bif (eqZ (v5 : Int) 0) then (
clT q0 (cl 7 []) fun (v7 : Bool) =>
rt (
some (.bool v7))) else (
bd (lenD false a1) fun v8 =>
bif (ltZ 2 (v8 : Int)) then (
clT q0 (cl 7 []) fun (v10 : Bool) =>
rt (
some (.bool v10))) else (
bd (lenD false a0_0) fun v11 =>
bif (eqZ (v11 : Int) 0) then (
clT q0 (cl 7 []) fun (v13 : Bool) =>
rt (
some (.bool v13))) else (
some (.inl ((a1, (), (), ()), ((a2_0, a2_1, a2_2, ()), (a0_0, a0_1, ()), ())))))))) fun (((t1v0, _, _, _), ((b1v0_0, b1v0_1, b1v0_2, _), (b0v0_0, b0v0_1, _), _)) : (D × Unit × Unit × Unit) × ((Int × Int × Int × Unit) × (D × D × Unit) × Unit)) =>
bd (remD (wrapD .i64 b1v0_0) 40) fun v14 =>
clT q1 (cl 8 [(.agg [b0v0_0, b0v0_1]), (.int .i64 (wrapD .i64 (v14 + 1))), t1v0]) fun (v16 : ((Int × Int × Int × Int × Int × Int × Int × Unit) × Int × Unit)) =>
bif (!(eqZ v16.2.1 0)) then (
clT q0 (cl 7 []) fun (v18 : Bool) =>
some (.bool v18)) else (
bd (lenD false t1v0) fun v19 =>
bd (remD (wrapD .i64 b1v0_1) (v19 : Int)) fun v20 =>
bd (slF 5 t1v0) fun v21 =>
bif Nat.ble (0 + v21.2) 0 then (
bd (apG (!(v21.1.any isAg)) 0 0 0 0) fun _ =>
bd (inR (0 + 0 * 5) (List.length v21.1) 0) fun _ =>
bd (idxD (0 + v21.2) (.int .i64 v20)) fun v22 =>
tkT q2 (setQ [] (0 + 0 * 5) v21.1) (0 + v22 * 5) (some 5) fun (v24 : (Int × Int × Int × Int × Int × Unit)) =>
bd (lenD false b0v0_0) fun v25 =>
bd (remD (wrapD .i64 b1v0_2) (v25 : Int)) fun v26 =>
clT q3 (cl 10 [(.agg [b0v0_0, b0v0_1]), (.agg [(.int .i64 v24.1), (.int .i64 v24.2.1), (.int .i64 v24.2.2.1), (.int .i64 v24.2.2.2.1), (.int .i64 v24.2.2.2.2.1)]), (.int .i64 v26)]) fun (v28 : ((Int × Int × Int × Int × Int × Unit) × Int × Unit)) =>
bd (idxD (0 + v21.2) (.int .i64 v20)) fun v29 =>
bd (inR (0 + v29 * 5) 5 (List.length (setQ [] (0 + 0 * 5) v21.1))) fun _ =>
bd (frSl (Nat.beq 0 (0 + v21.2)) 0 5 (0 + v21.2) (setQ (setQ [] (0 + 0 * 5) v21.1) (0 + v29 * 5) [(.int .i64 v28.1.1), (.int .i64 v28.1.2.1), (.int .i64 v28.1.2.2.1), (.int .i64 v28.1.2.2.2.1), (.int .i64 v28.1.2.2.2.2.1)])) fun v30 =>
clT q1 (cl 8 [(.agg [b0v0_0, b0v0_1]), (.int .i64 (wrapD .i64 (v14 + 1))), v30]) fun (v32 : ((Int × Int × Int × Int × Int × Int × Int × Unit) × Int × Unit)) =>
bif (eqZ v28.2.1 0) then (
bif (eqZ v32.2.1 0) then (
bif (eqZ v16.1.1 v32.1.1) then (
bif (eqZ v16.1.2.1 v32.1.2.1) then (
clT q0 (cl 11 [(.agg [b0v0_0, b0v0_1]), (.agg [(.int .i64 v16.1.1), (.int .i64 v16.1.2.1), (.int .i64 v16.1.2.2.1), (.int .i64 v16.1.2.2.2.1), (.int .i64 v16.1.2.2.2.2.1)]), (.agg [(.int .i64 v32.1.1), (.int .i64 v32.1.2.1), (.int .i64 v32.1.2.2.1), (.int .i64 v32.1.2.2.2.1), (.int .i64 v32.1.2.2.2.2.1)])]) fun (v34 : Bool) =>
bif v34 then (
clT q0 (cl 12 [(.agg [b0v0_0, b0v0_1]), (.int .i64 v16.1.2.2.2.2.2.1), (.int .i64 v32.1.2.2.2.2.2.1)]) fun (v36 : Bool) =>
bif v36 then (
clT q0 (cl 12 [(.agg [b0v0_0, b0v0_1]), (.int .i64 v16.1.2.2.2.2.2.2.1), (.int .i64 v32.1.2.2.2.2.2.2.1)]) fun (v38 : Bool) =>
bif v38 then (
clT q0 (cl 7 []) fun (v40 : Bool) =>
some (.bool v40)) else (
some (.bool false))) else (
some (.bool false))) else (
some (.bool false))) else (
some (.bool false))) else (
some (.bool false))) else (
some (.bool false))) else (
some (.bool false))) else (
bd (apM (0 + v21.2) 40 0 (0 * 5) 0) fun _ =>
bd (idxD (0 + v21.2) (.int .i64 v20)) fun v41 =>
tkT q2 ((List.drop 0 []).take (0 * 5) ++ v21.1) (0 + v41 * 5) (some 5) fun (v43 : (Int × Int × Int × Int × Int × Unit)) =>
bd (lenD false b0v0_0) fun v44 =>
bd (remD (wrapD .i64 b1v0_2) (v44 : Int)) fun v45 =>
clT q3 (cl 10 [(.agg [b0v0_0, b0v0_1]), (.agg [(.int .i64 v43.1), (.int .i64 v43.2.1), (.int .i64 v43.2.2.1), (.int .i64 v43.2.2.2.1), (.int .i64 v43.2.2.2.2.1)]), (.int .i64 v45)]) fun (v47 : ((Int × Int × Int × Int × Int × Unit) × Int × Unit)) =>
bd (idxD (0 + v21.2) (.int .i64 v20)) fun v48 =>
bd (inR (0 + v48 * 5) 5 (List.length ((List.drop 0 []).take (0 * 5) ++ v21.1))) fun _ =>
bd (frSl false 0 5 (0 + v21.2) (setQ ((List.drop 0 []).take (0 * 5) ++ v21.1) (0 + v48 * 5) [(.int .i64 v47.1.1), (.int .i64 v47.1.2.1), (.int .i64 v47.1.2.2.1), (.int .i64 v47.1.2.2.2.1), (.int .i64 v47.1.2.2.2.2.1)])) fun v49 =>
clT q1 (cl 8 [(.agg [b0v0_0, b0v0_1]), (.int .i64 (wrapD .i64 (v14 + 1))), v49]) fun (v51 : ((Int × Int × Int × Int × Int × Int × Int × Unit) × Int × Unit)) =>
bif (eqZ v47.2.1 0) then (
bif (eqZ v51.2.1 0) then (
bif (eqZ v16.1.1 v51.1.1) then (
bif (eqZ v16.1.2.1 v51.1.2.1) then (
clT q0 (cl 11 [(.agg [b0v0_0, b0v0_1]), (.agg [(.int .i64 v16.1.1), (.int .i64 v16.1.2.1), (.int .i64 v16.1.2.2.1), (.int .i64 v16.1.2.2.2.1), (.int .i64 v16.1.2.2.2.2.1)]), (.agg [(.int .i64 v51.1.1), (.int .i64 v51.1.2.1), (.int .i64 v51.1.2.2.1), (.int .i64 v51.1.2.2.2.1), (.int .i64 v51.1.2.2.2.2.1)])]) fun (v53 : Bool) =>
bif v53 then (
clT q0 (cl 12 [(.agg [b0v0_0, b0v0_1]), (.int .i64 v16.1.2.2.2.2.2.1), (.int .i64 v51.1.2.2.2.2.2.1)]) fun (v55 : Bool) =>
bif v55 then (
clT q0 (cl 12 [(.agg [b0v0_0, b0v0_1]), (.int .i64 v16.1.2.2.2.2.2.2.1), (.int .i64 v51.1.2.2.2.2.2.2.1)]) fun (v57 : Bool) =>
bif v57 then (
clT q0 (cl 7 []) fun (v59 : Bool) =>
some (.bool v59)) else (
some (.bool false))) else (
some (.bool false))) else (
some (.bool false))) else (
some (.bool false))) else (
some (.bool false))) else (
some (.bool false))) else (
some (.bool false))))
theorem S4_eq (lp : Lp) (cl : CL) (a0_0 : D) (a0_1 : D) (a1 : D) (a2_0 : Int) (a2_1 : Int) (a2_2 : Int) : runS lp Tryz.prog TryzG cl 4 [(.agg [(.fz a0_0), (.fz a0_1)]), (.fz a1), (.agg [(.int .u8 a2_0), (.int .u8 a2_1), (.int .u8 a2_2)])] = S4 lp cl a0_0 a0_1 a1 a2_0 a2_1 a2_2 := by kernel_rfl
def S4_w (lp : Lp) (cl : CL) (args : List D) : Option D := bd (Sh.gds [(.agg [.fz, .fz]), .fz, (.agg [(.int .u8), (.int .u8), (.int .u8)])] args) fun v => S4 lp cl v.1.1 v.1.2.1 v.2.1 v.2.2.1.1 v.2.2.1.2.1 v.2.2.1.2.2.1
theorem S4_t : TabE TryzE 4 S4_w := tab_of (by kernel_rfl) fun lp cl v => S4_eq lp cl v.1.1 v.1.2.1 v.2.1 v.2.2.1.1 v.2.2.1.2.1 v.2.2.1.2.2.1

/- 17 invigilator/invigilatorlaw27.ints -/
def S17 (lp : Lp) (cl : CL) (a0 : Int) (a1 : Int) (a2 : Int) : Option D :=
bif (ltZ 0 a0) then (
some (.agg [(.int .i64 1), (.int .i64 a0), (.int .i64 a1), (.int .i64 0), (.int .i64 a2)])) else (
some (.agg [(.int .i64 1), (.int .i64 a0), (.int .i64 0), (.int .i64 0), (.int .i64 a2)]))
theorem S17_eq (lp : Lp) (cl : CL) (a0 : Int) (a1 : Int) (a2 : Int) : runS lp Tryz.prog TryzG cl 17 [(.int .i64 a0), (.int .i64 a1), (.int .i64 a2)] = S17 lp cl a0 a1 a2 := by kernel_rfl
def S17_w (lp : Lp) (cl : CL) (args : List D) : Option D := bd (Sh.gds [(.int .i64), (.int .i64), (.int .i64)] args) fun v => S17 lp cl v.1 v.2.1 v.2.2.1
theorem S17_t : TabE TryzE 17 S17_w := tab_of (by kernel_rfl) fun lp cl v => S17_eq lp cl v.1 v.2.1 v.2.2.1

/- 18 invigilator/invigilatorlaw27.two -/
def S18 (lp : Lp) (cl : CL)  : Option D :=
some (.agg [(.sl true 2 [(.str [108, 111, 119]), (.str [104, 105, 103, 104])]), (.sl true 2 [(.int .u8 3), (.int .u8 2)])])
theorem S18_eq (lp : Lp) (cl : CL)  : runS lp Tryz.prog TryzG cl 18 [] = S18 lp cl  := by kernel_rfl
def S18_w (lp : Lp) (cl : CL) (args : List D) : Option D := bd (Sh.gds [] args) fun v => S18 lp cl 
theorem S18_t : TabE TryzE 18 S18_w := tab_of (by kernel_rfl) fun lp cl v => S18_eq lp cl 

/- 20 invigilator/prims.Fits -/
def S20 (lp : Lp) (cl : CL) (a0 : Int) (a1 : D) (a2 : D) : Option D :=
clT q16 (cl 49 [(.int .i64 a0)]) fun (v1 : ((List UInt8 × D × D × D × D × Unit) × Int × Unit)) =>
bif (!(eqZ v1.2.1 0)) then (
some (.tup [(.int .i64 0), (.int .i64 0), (.int .i64 v1.2.1)])) else (
bj (α := (D × D × Unit × Unit) × ((List UInt8 × D × D × D × D × Unit) × Unit)) (
bd (lenD false a1) fun v3 =>
clT q4 (cl 50 [(.agg [(.str v1.1.1), v1.1.2.1, v1.1.2.2.1, v1.1.2.2.2.1, v1.1.2.2.2.2.1])]) fun (v5 : Int) =>
bif (!(eqZ (v3 : Int) v5)) then (
rt (
some (.tup [(.int .i64 0), (.int .i64 0), (.int .i64 23)]))) else (
bd (lenD false a2) fun v6 =>
clT q4 (cl 50 [(.agg [(.str v1.1.1), v1.1.2.1, v1.1.2.2.1, v1.1.2.2.2.1, v1.1.2.2.2.2.1])]) fun (v8 : Int) =>
bif (!(eqZ (v6 : Int) v8)) then (
rt (
some (.tup [(.int .i64 0), (.int .i64 0), (.int .i64 23)]))) else (
some (.inl ((a1, a2, (), ()), ((v1.1.1, v1.1.2.1, v1.1.2.2.1, v1.1.2.2.2.1, v1.1.2.2.2.2.1, ()), ())))))) fun (((t1v2, t2v2, _, _), ((b1005v2_0, b1005v2_1, b1005v2_2, b1005v2_3, b1005v2_4, _), _)) : (D × D × Unit × Unit) × ((List UInt8 × D × D × D × D × Unit) × Unit)) =>
bd (lenD false b1005v2_1) fun v9 =>
lp.run (fun (((t1v10, t2v10, t8v10, t37v10, t38v10, t39v10, _), (_)) : (D × D × Int × D × Int × Int × Unit) × (Unit)) =>
bif (ltZ t39v10 t38v10) then (
ixT q12 1 t37v10 (.int .i64 t39v10) none fun (v13 : List UInt8) =>
clT q17 (cl 51 [(.str v13), t1v10, t2v10]) fun (v15 : (Int × Int × Bool × Bool × Unit)) =>
bj (α := (D × D × Int × Int × Int × Bool × D × Int × Int × Bool × Unit) × (Unit)) (
bif v15.2.2.1 then (
some (.inl ((t1v10, t2v10, t8v10, v15.1, v15.2.1, v15.2.2.1, t37v10, t38v10, t39v10, v15.2.2.2.1, ()), (())))) else (
some (.inl ((t1v10, t2v10, t8v10, v15.1, v15.2.1, v15.2.2.1, t37v10, t38v10, t39v10, false, ()), (()))))) fun (((t1v16, t2v16, t8v16, t12v16, t13v16, t14v16, t37v16, t38v16, t39v16, t52v16, _), (_)) : (D × D × Int × Int × Int × Bool × D × Int × Int × Bool × Unit) × (Unit)) =>
bif t52v16 then (
rt (
some (.tup [(.int .i64 t12v16), (.int .i64 t13v16), (.int .i64 0)]))) else (
bif t14v16 then (
some (.inl ((t1v16, t2v16, (22 : Int), t37v16, t38v16, (wrapD .i64 (t39v16 + 1)), ()), (())))) else (
some (.inl ((t1v16, t2v16, t8v16, t37v16, t38v16, (wrapD .i64 (t39v16 + 1)), ()), (())))))) else (
rt (
some (.tup [(.int .i64 0), (.int .i64 0), (.int .i64 t8v10)])))) ((t1v2, t2v2, (21 : Int), b1005v2_1, (v9 : Int), (0 : Int), ()), (())))
theorem S20_eq (lp : Lp) (cl : CL) (a0 : Int) (a1 : D) (a2 : D) : runS lp Tryz.prog TryzG cl 20 [(.int .i64 a0), (.fz a1), (.fz a2)] = S20 lp cl a0 a1 a2 := by kernel_rfl
def S20_w (lp : Lp) (cl : CL) (args : List D) : Option D := bd (Sh.gds [(.int .i64), .fz, .fz] args) fun v => S20 lp cl v.1 v.2.1 v.2.2.1
theorem S20_t : TabE TryzE 20 S20_w := tab_of (by kernel_rfl) fun lp cl v => S20_eq lp cl v.1 v.2.1 v.2.2.1

/- 23 (invigilator/taint.rules).one -/
def S23 (lp : Lp) (cl : CL) (a0_0 : D) (a0_1 : D) (a0_2 : Int) (a1 : Int) (a2_0 : Int) (a2_1 : Int) (a2_2 : Int) (a2_3 : Int) (a2_4 : Int) : Option D :=
clT q4 (cl 26 [(.agg [a0_0, a0_1, (.int .i64 a0_2)]), (.agg [(.int .i64 a2_0), (.int .i64 a2_1), (.int .i64 a2_2), (.int .i64 a2_3), (.int .i64 a2_4)])]) fun (v1 : Int) =>
clT q4 (cl 25 [(.agg [a0_0, a0_1, (.int .i64 a0_2)]), (.sl true 2 [(.int .i64 v1), (.int .i64 a2_4)])]) fun (v3 : Int) =>
clT q18 (cl 54 [(.agg [a0_0, a0_1, (.int .i64 a0_2)]), (.agg [(.int .i64 a2_0), (.int .i64 a2_1), (.int .i64 a2_2), (.int .i64 a2_3), (.int .i64 a2_4)])]) fun (v5 : (Int × Int × Unit)) =>
bj (α := (Int × Unit × Unit × Unit × Int × Int × Int × Int × Unit) × ((Int × Int × Unit) × (Int × Int × Unit) × (Int × Int × Int × Int × Int × Unit) × (D × D × Int × Unit) × Unit)) (
bj (α := (Int × Unit × Unit × Unit × Int × Int × Int × Int × Bool × Unit) × ((Int × Int × Unit) × (Int × Int × Unit) × (Int × Int × Int × Int × Int × Unit) × (D × D × Int × Unit) × Unit)) (
bif (leZ 9 a1) then (
some (.inl ((a1, (), (), (), a2_4, a0_2, v1, v3, (leZ a1 12), ()), ((v1, a2_4, ()), (v5.1, v5.2.1, ()), (a2_0, a2_1, a2_2, a2_3, a2_4, ()), (a0_0, a0_1, a0_2, ()), ())))) else (
some (.inl ((a1, (), (), (), a2_4, a0_2, v1, v3, false, ()), ((v1, a2_4, ()), (v5.1, v5.2.1, ()), (a2_0, a2_1, a2_2, a2_3, a2_4, ()), (a0_0, a0_1, a0_2, ()), ()))))) fun (((t1v7, _, _, _, t7v7, t8v7, t9v7, t10v7, t32v7, _), ((b2004v7_0, b2004v7_1, _), (b2v7_0, b2v7_1, _), (b1v7_0, b1v7_1, b1v7_2, b1v7_3, b1v7_4, _), (b0v7_0, b0v7_1, b0v7_2, _), _)) : (Int × Unit × Unit × Unit × Int × Int × Int × Int × Bool × Unit) × ((Int × Int × Unit) × (Int × Int × Unit) × (Int × Int × Int × Int × Int × Unit) × (D × D × Int × Unit) × Unit)) =>
bif t32v7 then (
bd (idxD 2 (.int .i64 (wrapD .i64 (b1v7_1 - 1)))) fun v8 =>
bd (inR (0 + v8 * 1) 1 2) fun _ =>
bd (Sh.gds [(.int .i64), (.int .i64)] (setQ [(.int .i64 b2v7_0), (.int .i64 b2v7_1)] (0 + v8 * 1) [(.int .i64 b0v7_2)])) fun (v9 : (Int × Int × Unit)) =>
some (.inl ((t1v7, (), (), (), t7v7, t8v7, t9v7, t10v7, ()), ((b2004v7_0, b2004v7_1, ()), v9, (b1v7_0, b1v7_1, b1v7_2, b1v7_3, b1v7_4, ()), (b0v7_0, b0v7_1, b0v7_2, ()), ())))) else (
some (.inl ((t1v7, (), (), (), t7v7, t8v7, t9v7, t10v7, ()), ((b2004v7_0, b2004v7_1, ()), (b2v7_0, b2v7_1, ()), (b1v7_0, b1v7_1, b1v7_2, b1v7_3, b1v7_4, ()), (b0v7_0, b0v7_1, b0v7_2, ()), ()))))) fun (((t1v6, _, _, _, t7v6, t8v6, t9v6, t10v6, _), ((b2004v6_0, b2004v6_1, _), (b2v6_0, b2v6_1, _), (b1v6_0, b1v6_1, b1v6_2, b1v6_3, b1v6_4, _), (b0v6_0, b0v6_1, b0v6_2, _), _)) : (Int × Unit × Unit × Unit × Int × Int × Int × Int × Unit) × ((Int × Int × Unit) × (Int × Int × Unit) × (Int × Int × Int × Int × Int × Unit) × (D × D × Int × Unit) × Unit)) =>
bj (α := (Unit × Unit × Unit × Int × Int × Int × Int × Int × Bool × Unit) × ((Int × Int × Unit) × (Int × Int × Unit) × (Int × Int × Int × Int × Int × Unit) × (D × D × Int × Unit) × Unit)) (
bif (eqZ t1v6 1) then (
some (.inl (((), (), (), t7v6, t8v6, t9v6, t10v6, t1v6, (eqZ t1v6 1), ()), ((b2004v6_0, b2004v6_1, ()), (b2v6_0, b2v6_1, ()), (b1v6_0, b1v6_1, b1v6_2, b1v6_3, b1v6_4, ()), (b0v6_0, b0v6_1, b0v6_2, ()), ())))) else (
some (.inl (((), (), (), t7v6, t8v6, t9v6, t10v6, t1v6, (eqZ t1v6 2), ()), ((b2004v6_0, b2004v6_1, ()), (b2v6_0, b2v6_1, ()), (b1v6_0, b1v6_1, b1v6_2, b1v6_3, b1v6_4, ()), (b0v6_0, b0v6_1, b0v6_2, ()), ()))))) fun (((_, _, _, t7v10, t8v10, t9v10, t10v10, t39v10, t40v10, _), ((b2004v10_0, b2004v10_1, _), (b2v10_0, b2v10_1, _), (b1v10_0, b1v10_1, b1v10_2, b1v10_3, b1v10_4, _), (b0v10_0, b0v10_1, b0v10_2, _), _)) : (Unit × Unit × Unit × Int × Int × Int × Int × Int × Bool × Unit) × ((Int × Int × Unit) × (Int × Int × Unit) × (Int × Int × Int × Int × Int × Unit) × (D × D × Int × Unit) × Unit)) =>
bif t40v10 then (
some (.tup [(.agg [(.int .i64 b2v10_0), (.int .i64 b2v10_1)]), (.int .i64 t7v10), (.int .i64 t10v10)])) else (
bif (eqZ t39v10 7) then (
some (.tup [(.agg [(.int .i64 b2v10_1), (.int .i64 b2v10_0)]), (.int .i64 t7v10), (.int .i64 t8v10)])) else (
bif (eqZ t39v10 4) then (
clT q18 (cl 55 [(.agg [b0v10_0, b0v10_1, (.int .i64 b0v10_2)]), .nils]) fun (v12 : (Int × Int × Unit)) =>
some (.tup [(.agg [(.int .i64 v12.1), (.int .i64 v12.2.1)]), (.int .i64 t9v10), (.int .i64 t8v10)])) else (
bif (eqZ t39v10 5) then (
clT q18 (cl 55 [(.agg [b0v10_0, b0v10_1, (.int .i64 b0v10_2)]), (.sl true 1 [(.int .i64 t9v10)])]) fun (v14 : (Int × Int × Unit)) =>
some (.tup [(.agg [(.int .i64 v14.1), (.int .i64 v14.2.1)]), (.int .i64 t7v10), (.int .i64 t8v10)])) else (
bif (eqZ t39v10 8) then (
clT q18 (cl 55 [(.agg [b0v10_0, b0v10_1, (.int .i64 b0v10_2)]), (.sl true 1 [(.int .i64 b1v10_4)])]) fun (v16 : (Int × Int × Unit)) =>
some (.tup [(.agg [(.int .i64 v16.1), (.int .i64 v16.2.1)]), (.int .i64 t7v10), (.int .i64 b1v10_4)])) else (
bif (eqZ t39v10 9) then (
bd (idxD 2 (.int .i64 (wrapD .i64 (b1v10_1 - 1)))) fun v17 =>
tkT q4 [(.int .i64 b1v10_0), (.int .i64 b1v10_1), (.int .i64 b1v10_2), (.int .i64 b1v10_3), (.int .i64 b1v10_4)] (2 + v17 * 1) none fun (v19 : Int) =>
clT q4 (cl 25 [(.agg [b0v10_0, b0v10_1, (.int .i64 b0v10_2)]), (.sl true 2 [(.int .i64 b1v10_4), (.int .i64 v19)])]) fun (v21 : Int) =>
some (.tup [(.agg [(.int .i64 b2v10_0), (.int .i64 b2v10_1)]), (.int .i64 v21), (.int .i64 t10v10)])) else (
bj (α := (Unit × Unit × Unit × Int × Int × Int × Int × Int × Bool × Unit) × ((Int × Int × Unit) × (Int × Int × Unit) × (Int × Int × Int × Int × Int × Unit) × (D × D × Int × Unit) × Unit)) (
bif (eqZ t39v10 10) then (
some (.inl (((), (), (), t7v10, t8v10, t9v10, t10v10, t39v10, (eqZ t39v10 10), ()), ((b2004v10_0, b2004v10_1, ()), (b2v10_0, b2v10_1, ()), (b1v10_0, b1v10_1, b1v10_2, b1v10_3, b1v10_4, ()), (b0v10_0, b0v10_1, b0v10_2, ()), ())))) else (
some (.inl (((), (), (), t7v10, t8v10, t9v10, t10v10, t39v10, (eqZ t39v10 11), ()), ((b2004v10_0, b2004v10_1, ()), (b2v10_0, b2v10_1, ()), (b1v10_0, b1v10_1, b1v10_2, b1v10_3, b1v10_4, ()), (b0v10_0, b0v10_1, b0v10_2, ()), ()))))) fun (((_, _, _, t7v22, t8v22, t9v22, t10v22, t39v22, t86v22, _), ((b2004v22_0, b2004v22_1, _), (b2v22_0, b2v22_1, _), (b1v22_0, b1v22_1, b1v22_2, b1v22_3, b1v22_4, _), (b0v22_0, b0v22_1, b0v22_2, _), _)) : (Unit × Unit × Unit × Int × Int × Int × Int × Int × Bool × Unit) × ((Int × Int × Unit) × (Int × Int × Unit) × (Int × Int × Int × Int × Int × Unit) × (D × D × Int × Unit) × Unit)) =>
bif t86v22 then (
bd (idxD 2 (.int .i64 (wrapD .i64 (b1v22_1 - 1)))) fun v23 =>
tkT q4 [(.int .i64 b1v22_0), (.int .i64 b1v22_1), (.int .i64 b1v22_2), (.int .i64 b1v22_3), (.int .i64 b1v22_4)] (2 + v23 * 1) none fun (v25 : Int) =>
clT q4 (cl 25 [(.agg [b0v22_0, b0v22_1, (.int .i64 b0v22_2)]), (.sl true 2 [(.int .i64 b1v22_4), (.int .i64 v25)])]) fun (v27 : Int) =>
some (.tup [(.agg [(.int .i64 b2v22_0), (.int .i64 b2v22_1)]), (.int .i64 v27), (.int .i64 t9v22)])) else (
bif (eqZ t39v22 12) then (
some (.tup [(.agg [(.int .i64 b2v22_0), (.int .i64 b2v22_1)]), (.int .i64 t9v22), (.int .i64 t8v22)])) else (
bif (eqZ t39v22 13) then (
some (.tup [(.agg [(.int .i64 b2v22_0), (.int .i64 b2v22_1)]), (.int .i64 t10v22), (.int .i64 t10v22)])) else (
bif (eqZ t39v22 14) then (
bd (idxD 2 (.int .i64 (wrapD .i64 (b1v22_1 - 1)))) fun v28 =>
tkT q4 [(.int .i64 b1v22_0), (.int .i64 b1v22_1), (.int .i64 b1v22_2), (.int .i64 b1v22_3), (.int .i64 b1v22_4)] (2 + v28 * 1) none fun (v30 : Int) =>
clT q4 (cl 25 [(.agg [b0v22_0, b0v22_1, (.int .i64 b0v22_2)]), (.sl true 2 [(.int .i64 b1v22_4), (.int .i64 v30)])]) fun (v32 : Int) =>
some (.tup [(.agg [(.int .i64 b2v22_0), (.int .i64 b2v22_1)]), (.int .i64 v32), (.int .i64 t8v22)])) else (
some (.tup [(.agg [(.int .i64 b2v22_0), (.int .i64 b2v22_1)]), (.int .i64 t7v22), (.int .i64 t8v22)])))))))))))
theorem S23_eq (lp : Lp) (cl : CL) (a0_0 : D) (a0_1 : D) (a0_2 : Int) (a1 : Int) (a2_0 : Int) (a2_1 : Int) (a2_2 : Int) (a2_3 : Int) (a2_4 : Int) : runS lp Tryz.prog TryzG cl 23 [(.agg [(.fz a0_0), (.fz a0_1), (.int .i64 a0_2)]), (.int .i64 a1), (.agg [(.int .i64 a2_0), (.int .i64 a2_1), (.int .i64 a2_2), (.int .i64 a2_3), (.int .i64 a2_4)])] = S23 lp cl a0_0 a0_1 a0_2 a1 a2_0 a2_1 a2_2 a2_3 a2_4 := by kernel_rfl
def S23_w (lp : Lp) (cl : CL) (args : List D) : Option D := bd (Sh.gds [(.agg [.fz, .fz, (.int .i64)]), (.int .i64), (.agg [(.int .i64), (.int .i64), (.int .i64), (.int .i64), (.int .i64)])] args) fun v => S23 lp cl v.1.1 v.1.2.1 v.1.2.2.1 v.2.1 v.2.2.1.1 v.2.2.1.2.1 v.2.2.1.2.2.1 v.2.2.1.2.2.2.1 v.2.2.1.2.2.2.2.1
theorem S23_t : TabE TryzE 23 S23_w := tab_of (by kernel_rfl) fun lp cl v => S23_eq lp cl v.1.1 v.1.2.1 v.1.2.2.1 v.2.1 v.2.2.1.1 v.2.2.1.2.1 v.2.2.1.2.2.1 v.2.2.1.2.2.2.1 v.2.2.1.2.2.2.2.1

/- 26 (invigilator/taint.rules).lens -/
def S26 (lp : Lp) (cl : CL) (a0_0 : D) (a0_1 : D) (a0_2 : Int) (a1_0 : Int) (a1_1 : Int) (a1_2 : Int) (a1_3 : Int) (a1_4 : Int) : Option D :=
bd (bndO 2 2 (some (.int .i64 a1_1))) fun v0 =>
bd (frSl (Nat.beq 2 v0) 2 1 v0 [(.int .i64 a1_0), (.int .i64 a1_1), (.int .i64 a1_2), (.int .i64 a1_3), (.int .i64 a1_4)]) fun v1 =>
clT q4 (cl 25 [(.agg [a0_0, a0_1, (.int .i64 a0_2)]), v1]) fun (v3 : Int) =>
some (.int .i64 v3)
theorem S26_eq (lp : Lp) (cl : CL) (a0_0 : D) (a0_1 : D) (a0_2 : Int) (a1_0 : Int) (a1_1 : Int) (a1_2 : Int) (a1_3 : Int) (a1_4 : Int) : runS lp Tryz.prog TryzG cl 26 [(.agg [(.fz a0_0), (.fz a0_1), (.int .i64 a0_2)]), (.agg [(.int .i64 a1_0), (.int .i64 a1_1), (.int .i64 a1_2), (.int .i64 a1_3), (.int .i64 a1_4)])] = S26 lp cl a0_0 a0_1 a0_2 a1_0 a1_1 a1_2 a1_3 a1_4 := by kernel_rfl
def S26_w (lp : Lp) (cl : CL) (args : List D) : Option D := bd (Sh.gds [(.agg [.fz, .fz, (.int .i64)]), (.agg [(.int .i64), (.int .i64), (.int .i64), (.int .i64), (.int .i64)])] args) fun v => S26 lp cl v.1.1 v.1.2.1 v.1.2.2.1 v.2.1.1 v.2.1.2.1 v.2.1.2.2.1 v.2.1.2.2.2.1 v.2.1.2.2.2.2.1
theorem S26_t : TabE TryzE 26 S26_w := tab_of (by kernel_rfl) fun lp cl v => S26_eq lp cl v.1.1 v.1.2.1 v.1.2.2.1 v.2.1.1 v.2.1.2.1 v.2.1.2.2.1 v.2.1.2.2.2.1 v.2.1.2.2.2.2.1

/- 28 invigilator/invigilatorref27.labels -/
def S28 (lp : Lp) (cl : CL) (a0_0 : D) (a0_1 : D) (a1_0 : Int) (a1_1 : Int) (a1_2 : Int) (a1_3 : Int) (a1_4 : Int) : Option D :=
lp.run (fun (((_, _, t5v0, _), ((b1v0_0, b1v0_1, b1v0_2, b1v0_3, b1v0_4, _), (b0v0_0, b0v0_1, _), _)) : (Unit × Unit × Int × Unit) × ((Int × Int × Int × Int × Int × Unit) × (D × D × Unit) × Unit)) =>
bif (ltZ t5v0 b1v0_1) then (
bd (idxD 2 (.int .i64 t5v0)) fun v1 =>
tkT q4 [(.int .i64 b1v0_0), (.int .i64 b1v0_1), (.int .i64 b1v0_2), (.int .i64 b1v0_3), (.int .i64 b1v0_4)] (2 + v1 * 1) none fun (v3 : Int) =>
bif (ltZ v3 0) then (
rt (
some (.bool false))) else (
bd (idxD 2 (.int .i64 t5v0)) fun v4 =>
tkT q4 [(.int .i64 b1v0_0), (.int .i64 b1v0_1), (.int .i64 b1v0_2), (.int .i64 b1v0_3), (.int .i64 b1v0_4)] (2 + v4 * 1) none fun (v6 : Int) =>
bd (lenD false b0v0_0) fun v7 =>
bif (leZ (v7 : Int) v6) then (
rt (
some (.bool false))) else (
some (.inl (((), (), (wrapD .i64 (t5v0 + 1)), ()), ((b1v0_0, b1v0_1, b1v0_2, b1v0_3, b1v0_4, ()), (b0v0_0, b0v0_1, ()), ())))))) else (
rt (
bif (leZ 0 b1v0_4) then (
bd (lenD false b0v0_0) fun v8 =>
some (.bool (ltZ b1v0_4 (v8 : Int)))) else (
some (.bool false))))) (((), (), (0 : Int), ()), ((a1_0, a1_1, a1_2, a1_3, a1_4, ()), (a0_0, a0_1, ()), ()))
theorem S28_eq (lp : Lp) (cl : CL) (a0_0 : D) (a0_1 : D) (a1_0 : Int) (a1_1 : Int) (a1_2 : Int) (a1_3 : Int) (a1_4 : Int) : runS lp Tryz.prog TryzG cl 28 [(.agg [(.fz a0_0), (.fz a0_1)]), (.agg [(.int .i64 a1_0), (.int .i64 a1_1), (.int .i64 a1_2), (.int .i64 a1_3), (.int .i64 a1_4)])] = S28 lp cl a0_0 a0_1 a1_0 a1_1 a1_2 a1_3 a1_4 := by kernel_rfl
def S28_w (lp : Lp) (cl : CL) (args : List D) : Option D := bd (Sh.gds [(.agg [.fz, .fz]), (.agg [(.int .i64), (.int .i64), (.int .i64), (.int .i64), (.int .i64)])] args) fun v => S28 lp cl v.1.1 v.1.2.1 v.2.1.1 v.2.1.2.1 v.2.1.2.2.1 v.2.1.2.2.2.1 v.2.1.2.2.2.2.1
theorem S28_t : TabE TryzE 28 S28_w := tab_of (by kernel_rfl) fun lp cl v => S28_eq lp cl v.1.1 v.1.2.1 v.2.1.1 v.2.1.2.1 v.2.1.2.2.1 v.2.1.2.2.2.1 v.2.1.2.2.2.2.1

/- 35 invigilator/invigilatorref19.label -/
def S35 (lp : Lp) (cl : CL) (a0_0 : D) (a0_1 : D) (a1 : Int) : Option D :=
bif (leZ 0 a1) then (
bd (lenD false a0_0) fun v0 =>
some (.bool (ltZ a1 (v0 : Int)))) else (
some (.bool false))
theorem S35_eq (lp : Lp) (cl : CL) (a0_0 : D) (a0_1 : D) (a1 : Int) : runS lp Tryz.prog TryzG cl 35 [(.agg [(.fz a0_0), (.fz a0_1)]), (.int .i64 a1)] = S35 lp cl a0_0 a0_1 a1 := by kernel_rfl
def S35_w (lp : Lp) (cl : CL) (args : List D) : Option D := bd (Sh.gds [(.agg [.fz, .fz]), (.int .i64)] args) fun v => S35 lp cl v.1.1 v.1.2.1 v.2.1
theorem S35_t : TabE TryzE 35 S35_w := tab_of (by kernel_rfl) fun lp cl v => S35_eq lp cl v.1.1 v.1.2.1 v.2.1

/- 38 invigilator/invigilatorref20.Good -/
def S38 (lp : Lp) (cl : CL) (a0_0 : D) (a0_1 : D) (a1_0 : Int) (a1_1 : Int) (a1_2 : Int) (a1_3 : Int) (a1_4 : Int) : Option D :=
bj (α := (Unit × Unit × Unit) × ((Int × Int × Int × Int × Int × Unit) × (D × D × Unit) × Unit)) (
bif (!(eqZ a1_0 1)) then (
bif (!(eqZ a1_0 2)) then (
rt (
some (.int .i64 7))) else (
bif (ltZ a1_1 0) then (
rt (
some (.int .i64 7))) else (
bif (ltZ 2 a1_1) then (
rt (
some (.int .i64 7))) else (
some (.inl (((), (), ()), ((a1_0, a1_1, a1_2, a1_3, a1_4, ()), (a0_0, a0_1, ()), ()))))))) else (
bif (ltZ a1_1 0) then (
rt (
some (.int .i64 7))) else (
bif (ltZ 2 a1_1) then (
rt (
some (.int .i64 7))) else (
some (.inl (((), (), ()), ((a1_0, a1_1, a1_2, a1_3, a1_4, ()), (a0_0, a0_1, ()), ()))))))) fun (((_, _, _), ((b1v0_0, b1v0_1, b1v0_2, b1v0_3, b1v0_4, _), (b0v0_0, b0v0_1, _), _)) : (Unit × Unit × Unit) × ((Int × Int × Int × Int × Int × Unit) × (D × D × Unit) × Unit)) =>
bj (α := (Unit × Unit × Unit) × ((Int × Int × Int × Int × Int × Unit) × (D × D × Unit) × Unit)) (
clT q0 (cl 66 [(.agg [b0v0_0, b0v0_1]), (.int .i64 b1v0_2)]) fun (v3 : Bool) =>
bif (!v3) then (
rt (
some (.int .i64 7))) else (
clT q0 (cl 66 [(.agg [b0v0_0, b0v0_1]), (.int .i64 b1v0_3)]) fun (v5 : Bool) =>
bif (!v5) then (
rt (
some (.int .i64 7))) else (
clT q0 (cl 66 [(.agg [b0v0_0, b0v0_1]), (.int .i64 b1v0_4)]) fun (v7 : Bool) =>
bif (!v7) then (
rt (
some (.int .i64 7))) else (
some (.inl (((), (), ()), ((b1v0_0, b1v0_1, b1v0_2, b1v0_3, b1v0_4, ()), (b0v0_0, b0v0_1, ()), ()))))))) fun (((_, _, _), ((b1v1_0, b1v1_1, b1v1_2, b1v1_3, b1v1_4, _), (b0v1_0, b0v1_1, _), _)) : (Unit × Unit × Unit) × ((Int × Int × Int × Int × Int × Unit) × (D × D × Unit) × Unit)) =>
lp.run (fun (((_, _, t5v8, _), ((b1v8_0, b1v8_1, b1v8_2, b1v8_3, b1v8_4, _), (b0v8_0, b0v8_1, _), _)) : (Unit × Unit × Int × Unit) × ((Int × Int × Int × Int × Int × Unit) × (D × D × Unit) × Unit)) =>
bif (ltZ t5v8 2) then (
bd (idxD 2 (.int .i64 t5v8)) fun v9 =>
tkT q4 [(.int .i64 b1v8_0), (.int .i64 b1v8_1), (.int .i64 b1v8_2), (.int .i64 b1v8_3), (.int .i64 b1v8_4)] (2 + v9 * 1) none fun (v11 : Int) =>
clT q4 (cl 67 [(.agg [b0v8_0, b0v8_1])]) fun (v13 : Int) =>
bif (!(eqZ v11 v13)) then (
rt (
some (.int .i64 6))) else (
some (.inl (((), (), (wrapD .i64 (t5v8 + 1)), ()), ((b1v8_0, b1v8_1, b1v8_2, b1v8_3, b1v8_4, ()), (b0v8_0, b0v8_1, ()), ()))))) else (
rt (
lp.run (fun (((_, _, t6v14, _), ((b1v14_0, b1v14_1, b1v14_2, b1v14_3, b1v14_4, _), (b0v14_0, b0v14_1, _), _)) : (Unit × Unit × Int × Unit) × ((Int × Int × Int × Int × Int × Unit) × (D × D × Unit) × Unit)) =>
bif (ltZ t6v14 b1v14_1) then (
bd (idxD 2 (.int .i64 t6v14)) fun v15 =>
tkT q4 [(.int .i64 b1v14_0), (.int .i64 b1v14_1), (.int .i64 b1v14_2), (.int .i64 b1v14_3), (.int .i64 b1v14_4)] (2 + v15 * 1) none fun (v17 : Int) =>
clT q0 (cl 68 [(.agg [b0v14_0, b0v14_1]), (.int .i64 v17), (.int .i64 b1v14_4)]) fun (v19 : Bool) =>
bif (!v19) then (
rt (
some (.int .i64 25))) else (
some (.inl (((), (), (wrapD .i64 (t6v14 + 1)), ()), ((b1v14_0, b1v14_1, b1v14_2, b1v14_3, b1v14_4, ()), (b0v14_0, b0v14_1, ()), ()))))) else (
rt (
some (.int .i64 0)))) (((), (), (0 : Int), ()), ((b1v8_0, b1v8_1, b1v8_2, b1v8_3, b1v8_4, ()), (b0v8_0, b0v8_1, ()), ()))))) (((), (), b1v1_1, ()), ((b1v1_0, b1v1_1, b1v1_2, b1v1_3, b1v1_4, ()), (b0v1_0, b0v1_1, ()), ()))
theorem S38_eq (lp : Lp) (cl : CL) (a0_0 : D) (a0_1 : D) (a1_0 : Int) (a1_1 : Int) (a1_2 : Int) (a1_3 : Int) (a1_4 : Int) : runS lp Tryz.prog TryzG cl 38 [(.agg [(.fz a0_0), (.fz a0_1)]), (.agg [(.int .i64 a1_0), (.int .i64 a1_1), (.int .i64 a1_2), (.int .i64 a1_3), (.int .i64 a1_4)])] = S38 lp cl a0_0 a0_1 a1_0 a1_1 a1_2 a1_3 a1_4 := by kernel_rfl
def S38_w (lp : Lp) (cl : CL) (args : List D) : Option D := bd (Sh.gds [(.agg [.fz, .fz]), (.agg [(.int .i64), (.int .i64), (.int .i64), (.int .i64), (.int .i64)])] args) fun v => S38 lp cl v.1.1 v.1.2.1 v.2.1.1 v.2.1.2.1 v.2.1.2.2.1 v.2.1.2.2.2.1 v.2.1.2.2.2.2.1
theorem S38_t : TabE TryzE 38 S38_w := tab_of (by kernel_rfl) fun lp cl v => S38_eq lp cl v.1.1 v.1.2.1 v.2.1.1 v.2.1.2.1 v.2.1.2.2.1 v.2.1.2.2.2.1 v.2.1.2.2.2.2.1

/- 44 invigilator/lattice.named -/
def S44 (lp : Lp) (cl : CL) (a0 : D) : Option D :=
bj (α := (D × Unit) × (Unit)) (
bd (lenD false a0) fun v1 =>
bif (ltZ (v1 : Int) 1) then (
rt (
some (.tup [(.int .i64 (-1)), (.int .i64 3)]))) else (
bd (lenD false a0) fun v2 =>
bif (ltZ 8 (v2 : Int)) then (
rt (
some (.tup [(.int .i64 (-1)), (.int .i64 3)]))) else (
some (.inl ((a0, ()), (())))))) fun (((t0v0, _), (_)) : (D × Unit) × (Unit)) =>
bd (lenD false t0v0) fun v3 =>
lp.run (fun (((t0v4, t14v4, t15v4, t16v4, _), (_)) : (D × D × Int × Int × Unit) × (Unit)) =>
bif (ltZ t16v4 t15v4) then (
ixT q12 1 t14v4 (.int .i64 t16v4) none fun (v7 : List UInt8) =>
clT q0 (cl 71 [(.str v7)]) fun (v9 : Bool) =>
bif (!v9) then (
rt (
some (.tup [(.int .i64 t16v4), (.int .i64 6)]))) else (
bd (slVF 1 t0v4 none (some (.int .i64 t16v4)) none) fun v10 =>
clT q0 (cl 72 [v10, (.str v7)]) fun (v12 : Bool) =>
bif v12 then (
rt (
some (.tup [(.int .i64 t16v4), (.int .i64 8)]))) else (
some (.inl ((t0v4, t14v4, t15v4, (wrapD .i64 (t16v4 + 1)), ()), (())))))) else (
rt (
some (.tup [(.int .i64 0), (.int .i64 0)])))) ((t0v0, t0v0, (v3 : Int), (0 : Int), ()), (()))
theorem S44_eq (lp : Lp) (cl : CL) (a0 : D) : runS lp Tryz.prog TryzG cl 44 [(.fz a0)] = S44 lp cl a0 := by kernel_rfl
def S44_w (lp : Lp) (cl : CL) (args : List D) : Option D := bd (Sh.gds [.fz] args) fun v => S44 lp cl v.1
theorem S44_t : TabE TryzE 44 S44_w := tab_of (by kernel_rfl) fun lp cl v => S44_eq lp cl v.1

/- 47 invigilator/lattice.bound[invigilator/lattice.ups] -/
def S47 (lp : Lp) (cl : CL) (a0_0 : Int) (a0_1 : Int) (a0_2 : Int) (a0_3 : Int) (a0_4 : Int) (a0_5 : Int) (a0_6 : Int) (a0_7 : Int) (a1 : Int) (a2 : Int) (a3 : Int) : Option D :=
bd (idxD 8 (.int .i64 a2)) fun v0 =>
tkT q13 [(.int .u8 a0_0), (.int .u8 a0_1), (.int .u8 a0_2), (.int .u8 a0_3), (.int .u8 a0_4), (.int .u8 a0_5), (.int .u8 a0_6), (.int .u8 a0_7)] (0 + v0 * 1) none fun (v2 : Int) =>
bd (idxD 8 (.int .i64 a3)) fun v3 =>
tkT q13 [(.int .u8 a0_0), (.int .u8 a0_1), (.int .u8 a0_2), (.int .u8 a0_3), (.int .u8 a0_4), (.int .u8 a0_5), (.int .u8 a0_6), (.int .u8 a0_7)] (0 + v3 * 1) none fun (v5 : Int) =>
lp.run (fun (((_, t9v6, t18v6, t19v6, _), (b0v6, _)) : (Unit × Int × Int × Int × Unit) × (List D × Unit)) =>
bif (ltZ t19v6 t18v6) then (
bd (shrD .u8 t9v6 t19v6) fun v7 =>
bif (eqZ (andZ .u8 v7 1) 1) then (
bd (idxD 8 (.int .i64 t19v6)) fun v8 =>
tkT q13 b0v6 (0 + v8 * 1) none fun (v10 : Int) =>
bif (eqZ v10 t9v6) then (
rt (
some (.int .i64 t19v6))) else (
some (.inl (((), t9v6, t18v6, (wrapD .i64 (t19v6 + 1)), ()), (b0v6, ()))))) else (
some (.inl (((), t9v6, t18v6, (wrapD .i64 (t19v6 + 1)), ()), (b0v6, ()))))) else (
rt (
some (.int .i64 (-1))))) (((), (andZ .u8 v2 v5), a1, (0 : Int), ()), ([(.int .u8 a0_0), (.int .u8 a0_1), (.int .u8 a0_2), (.int .u8 a0_3), (.int .u8 a0_4), (.int .u8 a0_5), (.int .u8 a0_6), (.int .u8 a0_7)], ()))
theorem S47_eq (lp : Lp) (cl : CL) (a0_0 : Int) (a0_1 : Int) (a0_2 : Int) (a0_3 : Int) (a0_4 : Int) (a0_5 : Int) (a0_6 : Int) (a0_7 : Int) (a1 : Int) (a2 : Int) (a3 : Int) : runS lp Tryz.prog TryzG cl 47 [(.agg [(.int .u8 a0_0), (.int .u8 a0_1), (.int .u8 a0_2), (.int .u8 a0_3), (.int .u8 a0_4), (.int .u8 a0_5), (.int .u8 a0_6), (.int .u8 a0_7)]), (.int .i64 a1), (.int .i64 a2), (.int .i64 a3)] = S47 lp cl a0_0 a0_1 a0_2 a0_3 a0_4 a0_5 a0_6 a0_7 a1 a2 a3 := by kernel_rfl
def S47_w (lp : Lp) (cl : CL) (args : List D) : Option D := bd (Sh.gds [(.agg [(.int .u8), (.int .u8), (.int .u8), (.int .u8), (.int .u8), (.int .u8), (.int .u8), (.int .u8)]), (.int .i64), (.int .i64), (.int .i64)] args) fun v => S47 lp cl v.1.1 v.1.2.1 v.1.2.2.1 v.1.2.2.2.1 v.1.2.2.2.2.1 v.1.2.2.2.2.2.1 v.1.2.2.2.2.2.2.1 v.1.2.2.2.2.2.2.2.1 v.2.1 v.2.2.1 v.2.2.2.1
theorem S47_t : TabE TryzE 47 S47_w := tab_of (by kernel_rfl) fun lp cl v => S47_eq lp cl v.1.1 v.1.2.1 v.1.2.2.1 v.1.2.2.2.1 v.1.2.2.2.2.1 v.1.2.2.2.2.2.1 v.1.2.2.2.2.2.2.1 v.1.2.2.2.2.2.2.2.1 v.2.1 v.2.2.1 v.2.2.2.1

/- 54 (invigilator/taint.rules).own -/
def S54 (lp : Lp) (cl : CL) (a0_0 : D) (a0_1 : D) (a0_2 : Int) (a1_0 : Int) (a1_1 : Int) (a1_2 : Int) (a1_3 : Int) (a1_4 : Int) : Option D :=
bd (bndO 2 2 (some (.int .i64 a1_1))) fun v0 =>
bd (inR 2 (v0 * 1) 5) fun _ =>
bd (apG (SD.ones ((List.drop 2 [(.int .i64 a1_0), (.int .i64 a1_1), (.int .i64 a1_2), (.int .i64 a1_3), (.int .i64 a1_4)]).take (v0 * 1))) 0 0 0 0) fun _ =>
bd (inR 0 (List.length (List.take (min v0 2 * 1) (SD.cvs ((List.drop 2 [(.int .i64 a1_0), (.int .i64 a1_1), (.int .i64 a1_2), (.int .i64 a1_3), (.int .i64 a1_4)]).take (v0 * 1))))) 2) fun _ =>
tkT q18 (setQ [(.int .i64 a0_2), (.int .i64 a0_2)] 0 (List.take (min v0 2 * 1) (SD.cvs ((List.drop 2 [(.int .i64 a1_0), (.int .i64 a1_1), (.int .i64 a1_2), (.int .i64 a1_3), (.int .i64 a1_4)]).take (v0 * 1))))) 0 (some 2) fun (v2 : (Int × Int × Unit)) =>
some (.agg [(.int .i64 v2.1), (.int .i64 v2.2.1)])
theorem S54_eq (lp : Lp) (cl : CL) (a0_0 : D) (a0_1 : D) (a0_2 : Int) (a1_0 : Int) (a1_1 : Int) (a1_2 : Int) (a1_3 : Int) (a1_4 : Int) : runS lp Tryz.prog TryzG cl 54 [(.agg [(.fz a0_0), (.fz a0_1), (.int .i64 a0_2)]), (.agg [(.int .i64 a1_0), (.int .i64 a1_1), (.int .i64 a1_2), (.int .i64 a1_3), (.int .i64 a1_4)])] = S54 lp cl a0_0 a0_1 a0_2 a1_0 a1_1 a1_2 a1_3 a1_4 := by kernel_rfl
def S54_w (lp : Lp) (cl : CL) (args : List D) : Option D := bd (Sh.gds [(.agg [.fz, .fz, (.int .i64)]), (.agg [(.int .i64), (.int .i64), (.int .i64), (.int .i64), (.int .i64)])] args) fun v => S54 lp cl v.1.1 v.1.2.1 v.1.2.2.1 v.2.1.1 v.2.1.2.1 v.2.1.2.2.1 v.2.1.2.2.2.1 v.2.1.2.2.2.2.1
theorem S54_t : TabE TryzE 54 S54_w := tab_of (by kernel_rfl) fun lp cl v => S54_eq lp cl v.1.1 v.1.2.1 v.1.2.2.1 v.2.1.1 v.2.1.2.1 v.2.1.2.2.1 v.2.1.2.2.2.1 v.2.1.2.2.2.2.1

/- 55 (invigilator/taint.rules).line -/
def S55 (lp : Lp) (cl : CL) (a0_0 : D) (a0_1 : D) (a0_2 : Int) (a1 : D) : Option D :=
clT q4 (cl 25 [(.agg [a0_0, a0_1, (.int .i64 a0_2)]), a1]) fun (v1 : Int) =>
some (.agg [(.int .i64 v1), (.int .i64 a0_2)])
theorem S55_eq (lp : Lp) (cl : CL) (a0_0 : D) (a0_1 : D) (a0_2 : Int) (a1 : D) : runS lp Tryz.prog TryzG cl 55 [(.agg [(.fz a0_0), (.fz a0_1), (.int .i64 a0_2)]), (.fz a1)] = S55 lp cl a0_0 a0_1 a0_2 a1 := by kernel_rfl
def S55_w (lp : Lp) (cl : CL) (args : List D) : Option D := bd (Sh.gds [(.agg [.fz, .fz, (.int .i64)]), .fz] args) fun v => S55 lp cl v.1.1 v.1.2.1 v.1.2.2.1 v.2.1
theorem S55_t : TabE TryzE 55 S55_w := tab_of (by kernel_rfl) fun lp cl v => S55_eq lp cl v.1.1 v.1.2.1 v.1.2.2.1 v.2.1

/- 64 invigilator/invigilatorref03.asked -/
def S64 (lp : Lp) (cl : CL) (a0_0 : D) (a0_1 : D) (a1 : Int) (a2 : Int) : Option D :=
clT q7 (cl 27 [(.agg [a0_0, a0_1])]) fun (v1 : (Int × Int × Unit)) =>
bif (eqZ v1.2.1 0) then (
bif (ltZ a1 0) then (
some (.int .i64 7)) else (
bd (lenD false a0_0) fun v2 =>
bif (leZ (v2 : Int) a1) then (
some (.int .i64 7)) else (
bif (ltZ a2 0) then (
some (.int .i64 7)) else (
bd (lenD false a0_0) fun v3 =>
bif (leZ (v3 : Int) a2) then (
some (.int .i64 7)) else (
some (.int .i64 v1.2.1)))))) else (
some (.int .i64 v1.2.1))
theorem S64_eq (lp : Lp) (cl : CL) (a0_0 : D) (a0_1 : D) (a1 : Int) (a2 : Int) : runS lp Tryz.prog TryzG cl 64 [(.agg [(.fz a0_0), (.fz a0_1)]), (.int .i64 a1), (.int .i64 a2)] = S64 lp cl a0_0 a0_1 a1 a2 := by kernel_rfl
def S64_w (lp : Lp) (cl : CL) (args : List D) : Option D := bd (Sh.gds [(.agg [.fz, .fz]), (.int .i64), (.int .i64)] args) fun v => S64 lp cl v.1.1 v.1.2.1 v.2.1 v.2.2.1
theorem S64_t : TabE TryzE 64 S64_w := tab_of (by kernel_rfl) fun lp cl v => S64_eq lp cl v.1.1 v.1.2.1 v.2.1 v.2.2.1

/- 67 invigilator/invigilatorref20.Low -/
def S67 (lp : Lp) (cl : CL) (a0_0 : D) (a0_1 : D) : Option D :=
lp.run (fun (((_, t3v0, _), ((b0v0_0, b0v0_1, _), _)) : (Unit × Int × Unit) × ((D × D × Unit) × Unit)) =>
bd (lenD false b0v0_1) fun v1 =>
bif (ltZ t3v0 (v1 : Int)) then (
ixT q13 1 b0v0_1 (.int .i64 t3v0) none fun (v4 : Int) =>
bd (lenD false b0v0_1) fun v5 =>
bd (shlD .i64 1 (v5 : Int)) fun v6 =>
bif (eqZ (wrapD .i64 v4) (wrapD .i64 (v6 - 1))) then (
rt (
some (.int .i64 t3v0))) else (
some (.inl (((), (wrapD .i64 (t3v0 + 1)), ()), ((b0v0_0, b0v0_1, ()), ()))))) else (
rt (
some (.int .i64 0)))) (((), (0 : Int), ()), ((a0_0, a0_1, ()), ()))
theorem S67_eq (lp : Lp) (cl : CL) (a0_0 : D) (a0_1 : D) : runS lp Tryz.prog TryzG cl 67 [(.agg [(.fz a0_0), (.fz a0_1)])] = S67 lp cl a0_0 a0_1 := by kernel_rfl
def S67_w (lp : Lp) (cl : CL) (args : List D) : Option D := bd (Sh.gds [(.agg [.fz, .fz])] args) fun v => S67 lp cl v.1.1 v.1.2.1
theorem S67_t : TabE TryzE 67 S67_w := tab_of (by kernel_rfl) fun lp cl v => S67_eq lp cl v.1.1 v.1.2.1

/- 73 invigilator/prims.table -/
def S73 (lp : Lp) (cl : CL)  : Option D :=
tkT q19 g0 0 none fun (v1 : D) =>
bd (slVF 1 v1 none (some (.int .i64 1)) none) fun v2 =>
clT q19 (cl 84 [(.sl true 1 [(.int .i64 12)])]) fun (v4 : D) =>
tkT q19 g0 0 none fun (v6 : D) =>
bd (slVF 1 v6 none (some (.int .i64 1)) none) fun v7 =>
clT q19 (cl 84 [(.sl true 1 [(.int .i64 12)])]) fun (v9 : D) =>
tkT q19 g0 0 none fun (v11 : D) =>
bd (slVF 1 v11 none (some (.int .i64 1)) none) fun v12 =>
clT q19 (cl 84 [(.sl true 2 [(.int .i64 13), (.int .i64 15)])]) fun (v14 : D) =>
clT q19 (cl 84 [(.sl true 1 [(.int .i64 12)])]) fun (v16 : D) =>
clT q19 (cl 84 [(.sl true 1 [(.int .i64 13)])]) fun (v18 : D) =>
clT q19 (cl 84 [(.sl true 1 [(.int .i64 13)])]) fun (v20 : D) =>
clT q19 (cl 84 [(.sl true 1 [(.int .i64 12)])]) fun (v22 : D) =>
clT q21 (cl 96 [(.str [97, 100, 100]), (.sl true 1 [(.int .i64 12)])]) fun (v24 : (List UInt8 × D × D × D × D × Unit)) =>
clT q21 (cl 96 [(.str [115, 117, 98]), (.sl true 1 [(.int .i64 12)])]) fun (v26 : (List UInt8 × D × D × D × D × Unit)) =>
clT q21 (cl 96 [(.str [109, 117, 108]), (.sl true 1 [(.int .i64 12)])]) fun (v28 : (List UInt8 × D × D × D × D × Unit)) =>
clT q21 (cl 96 [(.str [100, 105, 118]), (.sl true 2 [(.int .i64 12), (.int .i64 13)])]) fun (v30 : (List UInt8 × D × D × D × D × Unit)) =>
clT q21 (cl 96 [(.str [109, 111, 100]), (.sl true 1 [(.int .i64 13)])]) fun (v32 : (List UInt8 × D × D × D × D × Unit)) =>
clT q21 (cl 96 [(.str [112, 108, 117, 115]), .nils]) fun (v34 : (List UInt8 × D × D × D × D × Unit)) =>
clT q21 (cl 96 [(.str [109, 105, 110, 117, 115]), .nils]) fun (v36 : (List UInt8 × D × D × D × D × Unit)) =>
clT q21 (cl 96 [(.str [116, 105, 109, 101, 115]), .nils]) fun (v38 : (List UInt8 × D × D × D × D × Unit)) =>
tkT q19 g1 0 none fun (v40 : D) =>
clT q19 (cl 84 [(.sl true 1 [(.int .i64 11)])]) fun (v42 : D) =>
tkT q19 g1 0 none fun (v44 : D) =>
clT q19 (cl 84 [(.sl true 1 [(.int .i64 11)])]) fun (v46 : D) =>
clT q21 (cl 96 [(.str [108, 116]), .nils]) fun (v48 : (List UInt8 × D × D × D × D × Unit)) =>
clT q21 (cl 96 [(.str [108, 101]), .nils]) fun (v50 : (List UInt8 × D × D × D × D × Unit)) =>
clT q21 (cl 96 [(.str [103, 116]), .nils]) fun (v52 : (List UInt8 × D × D × D × D × Unit)) =>
clT q21 (cl 96 [(.str [103, 101]), .nils]) fun (v54 : (List UInt8 × D × D × D × D × Unit)) =>
clT q21 (cl 96 [(.str [97, 110, 100]), .nils]) fun (v56 : (List UInt8 × D × D × D × D × Unit)) =>
clT q21 (cl 96 [(.str [111, 114]), .nils]) fun (v58 : (List UInt8 × D × D × D × D × Unit)) =>
clT q21 (cl 96 [(.str [109, 105, 110]), .nils]) fun (v60 : (List UInt8 × D × D × D × D × Unit)) =>
clT q21 (cl 96 [(.str [109, 97, 120]), .nils]) fun (v62 : (List UInt8 × D × D × D × D × Unit)) =>
clT q19 (cl 84 [(.sl true 2 [(.int .i64 13), (.int .i64 15)])]) fun (v64 : D) =>
clT q19 (cl 84 [(.sl true 3 [(.int .i64 11), (.int .i64 13), (.int .i64 15)])]) fun (v66 : D) =>
clT q19 (cl 84 [(.sl true 2 [(.int .i64 11), (.int .i64 15)])]) fun (v68 : D) =>
clT q19 (cl 84 [(.sl true 1 [(.int .i64 14)])]) fun (v70 : D) =>
clT q19 (cl 84 [(.sl true 1 [(.int .i64 11)])]) fun (v72 : D) =>
some (.sl (Nat.beq 41 41) 41 [(.str []), .nils, .nils, .nilfn, .nilfn, (.str [110, 101, 103]), v2, v4, .nilfn, .nilfn, (.str [97, 98, 115]), v7, v9, .nilfn, .nilfn, (.str [110, 111, 116]), v12, .nils, .nilfn, .nilfn, (.str [115, 104, 97, 112, 101]), (.sl true 1 [(.str [107, 110, 105, 49])]), .nils, (.fn (.func 85) [] []), .nilfn, (.str [114, 97, 118, 101, 108]), (.sl true 1 [(.str [107, 110, 107, 49])]), .nils, (.fn (.func 86) [] []), .nilfn, (.str [114, 101, 118, 101, 114, 115, 101]), (.sl true 2 [(.str [107, 49, 107, 49]), (.str [107, 50, 107, 50])]), .nils, (.fn (.func 87) [] []), .nilfn, (.str [102, 108, 105, 112]), (.sl true 1 [(.str [107, 50, 107, 50])]), .nils, (.fn (.func 88) [] []), .nilfn, (.str [105, 111, 116, 97]), (.sl true 1 [(.str [105, 48, 105, 49])]), v14, (.fn (.func 89) [] []), .nilfn, (.str [115, 117, 109]), (.sl true 2 [(.str [105, 49, 105, 48]), (.str [105, 50, 105, 49])]), v16, (.fn (.func 90) [] []), .nilfn, (.str [108, 101, 97, 115, 116]), (.sl true 2 [(.str [105, 49, 105, 48]), (.str [105, 50, 105, 49])]), v18, (.fn (.func 91) [] []), .nilfn, (.str [109, 111, 115, 116]), (.sl true 2 [(.str [105, 49, 105, 48]), (.str [105, 50, 105, 49])]), v20, (.fn (.func 92) [] []), .nilfn, (.str [99, 111, 117, 110, 116]), (.sl true 2 [(.str [107, 49, 105, 48]), (.str [107, 50, 105, 49])]), .nils, (.fn (.func 93) [] []), .nilfn, (.str [115, 99, 97, 110]), (.sl true 2 [(.str [105, 49, 105, 49]), (.str [105, 50, 105, 50])]), v22, (.fn (.func 94) [] []), .nilfn, (.str [103, 114, 97, 100, 101]), (.sl true 1 [(.str [105, 49, 105, 49])]), .nils, (.fn (.func 95) [] []), .nilfn, (.str v24.1), v24.2.1, v24.2.2.1, v24.2.2.2.1, v24.2.2.2.2.1, (.str v26.1), v26.2.1, v26.2.2.1, v26.2.2.2.1, v26.2.2.2.2.1, (.str v28.1), v28.2.1, v28.2.2.1, v28.2.2.2.1, v28.2.2.2.2.1, (.str v30.1), v30.2.1, v30.2.2.1, v30.2.2.2.1, v30.2.2.2.2.1, (.str v32.1), v32.2.1, v32.2.2.1, v32.2.2.2.1, v32.2.2.2.2.1, (.str v34.1), v34.2.1, v34.2.2.1, v34.2.2.2.1, v34.2.2.2.2.1, (.str v36.1), v36.2.1, v36.2.2.1, v36.2.2.2.1, v36.2.2.2.2.1, (.str v38.1), v38.2.1, v38.2.2.1, v38.2.2.2.1, v38.2.2.2.2.1, (.str [101, 113]), v40, v42, .nilfn, .nilfn, (.str [110, 101]), v44, v46, .nilfn, .nilfn, (.str v48.1), v48.2.1, v48.2.2.1, v48.2.2.2.1, v48.2.2.2.2.1, (.str v50.1), v50.2.1, v50.2.2.1, v50.2.2.2.1, v50.2.2.2.2.1, (.str v52.1), v52.2.1, v52.2.2.1, v52.2.2.2.1, v52.2.2.2.2.1, (.str v54.1), v54.2.1, v54.2.2.1, v54.2.2.2.1, v54.2.2.2.2.1, (.str v56.1), v56.2.1, v56.2.2.1, v56.2.2.2.1, v56.2.2.2.2.1, (.str v58.1), v58.2.1, v58.2.2.1, v58.2.2.2.1, v58.2.2.2.2.1, (.str v60.1), v60.2.1, v60.2.2.1, v60.2.2.2.1, v60.2.2.2.2.1, (.str v62.1), v62.2.1, v62.2.2.1, v62.2.2.2.1, v62.2.2.2.2.1, (.str [116, 97, 107, 101]), (.sl true 1 [(.str [105, 48, 107, 49, 107, 49])]), .nils, .nilfn, (.fn (.func 97) [] []), (.str [100, 114, 111, 112]), (.sl true 1 [(.str [105, 48, 107, 49, 107, 49])]), .nils, .nilfn, (.fn (.func 98) [] []), (.str [102, 105, 108, 108]), (.sl true 1 [(.str [105, 48, 107, 48, 107, 49])]), v64, .nilfn, (.fn (.func 99) [] []), (.str [103, 114, 105, 100]), (.sl true 1 [(.str [105, 49, 107, 49, 107, 50])]), v66, .nilfn, (.fn (.func 100) [] []), (.str [99, 97, 116]), (.sl true 2 [(.str [107, 49, 107, 49, 107, 49]), (.str [107, 50, 107, 50, 107, 50])]), v68, .nilfn, (.fn (.func 101) [] []), (.str [97, 116]), (.sl true 2 [(.str [107, 49, 105, 48, 107, 48]), (.str [107, 49, 105, 49, 107, 49])]), v70, .nilfn, (.fn (.func 102) [] []), (.str [105, 110]), (.sl true 1 [(.str [107, 110, 107, 49, 105, 110])]), .nils, .nilfn, (.fn (.func 103) [] []), (.str [112, 105, 99, 107]), (.sl true 1 [(.str [105, 49, 107, 49, 107, 49])]), v72, .nilfn, (.fn (.func 104) [] [])])
theorem S73_eq (lp : Lp) (cl : CL)  : runS lp Tryz.prog TryzG cl 73 [] = S73 lp cl  := by kernel_rfl
def S73_w (lp : Lp) (cl : CL) (args : List D) : Option D := bd (Sh.gds [] args) fun v => S73 lp cl 
theorem S73_t : TabE TryzE 73 S73_w := tab_of (by kernel_rfl) fun lp cl v => S73_eq lp cl 

/- 74 invigilator/lattice.asked -/
def S74 (lp : Lp) (cl : CL) (a0 : D) (a1 : D) : Option D :=
bd (ptF a0) fun v0 =>
tkT q6 v0.1 v0.2 (some 2) fun (v2 : (D × D × Unit)) =>
clT q7 (cl 19 [(.agg [v2.1, v2.2.1])]) fun (v4 : (Int × Int × Unit)) =>
bif (!(eqZ v4.2.1 0)) then (
some (.int .i64 v4.2.1)) else (
bd (lenD false a1) fun v5 =>
lp.run (fun (((t0v6, t19v6, t20v6, t21v6, _), (_)) : (D × D × Int × Int × Unit) × (Unit)) =>
bif (ltZ t21v6 t20v6) then (
ixT q4 1 t19v6 (.int .i64 t21v6) none fun (v9 : Int) =>
bif (ltZ v9 0) then (
rt (
some (.int .i64 7))) else (
bd (ptF t0v6) fun v10 =>
tkT q19 v10.1 (v10.2 + 0) none fun (v12 : D) =>
bd (lenD false v12) fun v13 =>
bif (leZ (v13 : Int) v9) then (
rt (
some (.int .i64 7))) else (
some (.inl ((t0v6, t19v6, t20v6, (wrapD .i64 (t21v6 + 1)), ()), (())))))) else (
rt (
some (.int .i64 0)))) ((a0, a1, (v5 : Int), (0 : Int), ()), (())))
theorem S74_eq (lp : Lp) (cl : CL) (a0 : D) (a1 : D) : runS lp Tryz.prog TryzG cl 74 [(.fz a0), (.fz a1)] = S74 lp cl a0 a1 := by kernel_rfl
def S74_w (lp : Lp) (cl : CL) (args : List D) : Option D := bd (Sh.gds [.fz, .fz] args) fun v => S74 lp cl v.1 v.2.1
theorem S74_t : TabE TryzE 74 S74_w := tab_of (by kernel_rfl) fun lp cl v => S74_eq lp cl v.1 v.2.1

/- 84 invigilator/prims.errs -/
def S84 (lp : Lp) (cl : CL) (a0 : D) : Option D :=
some a0
theorem S84_eq (lp : Lp) (cl : CL) (a0 : D) : runS lp Tryz.prog TryzG cl 84 [(.fz a0)] = S84 lp cl a0 := by kernel_rfl
def S84_w (lp : Lp) (cl : CL) (args : List D) : Option D := bd (Sh.gds [.fz] args) fun v => S84 lp cl v.1
theorem S84_t : TabE TryzE 84 S84_w := tab_of (by kernel_rfl) fun lp cl v => S84_eq lp cl v.1

/- 96 invigilator/prims.pair -/
def S96 (lp : Lp) (cl : CL) (a0 : List UInt8) (a1 : D) : Option D :=
tkT q19 g0 0 none fun (v1 : D) =>
bd (slVF 1 v1 (some (.int .i64 1)) none none) fun v2 =>
clT q19 (cl 84 [(.sl true 1 [(.int .i64 11)])]) fun (v4 : D) =>
bd (slF 1 a1) fun v5 =>
bif Nat.beq v5.2 0 then (
bd (isSl v4) fun _ =>
some (.agg [(.str a0), v2, v4, .nilfn, .nilfn])) else (
bd (apF v4 1 v5.2 8) fun v6 =>
bd (frSl false 0 1 (v6.2 + v5.2) (v6.1 ++ v5.1)) fun v7 =>
some (.agg [(.str a0), v2, v7, .nilfn, .nilfn]))
theorem S96_eq (lp : Lp) (cl : CL) (a0 : List UInt8) (a1 : D) : runS lp Tryz.prog TryzG cl 96 [(.str a0), (.fz a1)] = S96 lp cl a0 a1 := by kernel_rfl
def S96_w (lp : Lp) (cl : CL) (args : List D) : Option D := bd (Sh.gds [.str, .fz] args) fun v => S96 lp cl v.1 v.2.1
theorem S96_t : TabE TryzE 96 S96_w := tab_of (by kernel_rfl) fun lp cl v => S96_eq lp cl v.1 v.2.1

/- 112 strings.trimLeftASCII -/
def S112 (lp : Lp) (cl : CL) (a0 : List UInt8) (a1 : D) : Option D :=
lp.run (fun (((t0v0, t1v0, _), (_)) : (List UInt8 × D × Unit) × (Unit)) =>
bif (ltZ 0 (List.length t0v0 : Int)) then (
bd (ixStr t0v0 (.int .i64 0)) fun v1 =>
clT q0 (cl 142 [t1v0, (.int .u8 v1)]) fun (v3 : Bool) =>
bif (!v3) then (
rt (
some (.str t0v0))) else (
bd (slStr t0v0 (some (.int .i64 1)) none) fun v4 =>
some (.inl ((v4, t1v0, ()), (()))))) else (
rt (
some (.str t0v0)))) ((a0, a1, ()), (()))
theorem S112_eq (lp : Lp) (cl : CL) (a0 : List UInt8) (a1 : D) : runS lp Tryz.prog TryzG cl 112 [(.str a0), (.fz a1)] = S112 lp cl a0 a1 := by kernel_rfl
def S112_w (lp : Lp) (cl : CL) (args : List D) : Option D := bd (Sh.gds [.str, .fz] args) fun v => S112 lp cl v.1 v.2.1
theorem S112_t : TabE TryzE 112 S112_w := tab_of (by kernel_rfl) fun lp cl v => S112_eq lp cl v.1 v.2.1

/- 143 unicode/utf8.DecodeRuneInString -/
def S143 (lp : Lp) (cl : CL) (a0 : List UInt8) : Option D :=
bj (α := (List UInt8 × Bool × Unit) × (Unit)) (
bif (!(eqS a0 [])) then (
bd (ixStr a0 (.int .i64 0)) fun v1 =>
some (.inl ((a0, (ltZ v1 128), ()), (())))) else (
some (.inl ((a0, false, ()), (()))))) fun (((t0v0, t10v0, _), (_)) : (List UInt8 × Bool × Unit) × (Unit)) =>
bif t10v0 then (
bd (ixStr t0v0 (.int .i64 0)) fun v2 =>
some (.tup [(.int .i32 (wrapD .i32 v2)), (.int .i64 1)])) else (
clT q28 (cl 156 [(.str t0v0)]) fun (v4 : (Int × Int × Unit)) =>
some (.tup [(.int .i32 v4.1), (.int .i64 v4.2.1)]))
theorem S143_eq (lp : Lp) (cl : CL) (a0 : List UInt8) : runS lp Tryz.prog TryzG cl 143 [(.str a0)] = S143 lp cl a0 := by kernel_rfl
def S143_w (lp : Lp) (cl : CL) (args : List D) : Option D := bd (Sh.gds [.str] args) fun v => S143 lp cl v.1
theorem S143_t : TabE TryzE 143 S143_w := tab_of (by kernel_rfl) fun lp cl v => S143_eq lp cl v.1

/- 144 strings.ContainsRune -/
def S144 (lp : Lp) (cl : CL) (a0 : List UInt8) (a1 : Int) : Option D :=
clT q4 (cl 157 [(.str a0), (.int .i32 a1)]) fun (v1 : Int) =>
some (.bool (leZ 0 v1))
theorem S144_eq (lp : Lp) (cl : CL) (a0 : List UInt8) (a1 : Int) : runS lp Tryz.prog TryzG cl 144 [(.str a0), (.int .i32 a1)] = S144 lp cl a0 a1 := by kernel_rfl
def S144_w (lp : Lp) (cl : CL) (args : List D) : Option D := bd (Sh.gds [.str, (.int .i32)] args) fun v => S144 lp cl v.1 v.2.1
theorem S144_t : TabE TryzE 144 S144_w := tab_of (by kernel_rfl) fun lp cl v => S144_eq lp cl v.1 v.2.1

/- 145 unicode/utf8.DecodeLastRuneInString -/
def S145 (lp : Lp) (cl : CL) (a0 : List UInt8) : Option D :=
bif (eqZ (List.length a0 : Int) 0) then (
some (.tup [(.int .i32 65533), (.int .i64 0)])) else (
bd (ixStr a0 (.int .i64 (wrapD .i64 ((List.length a0 : Int) - 1)))) fun v0 =>
bif (ltZ (wrapD .i32 v0) 128) then (
some (.tup [(.int .i32 (wrapD .i32 v0)), (.int .i64 1)])) else (
bj (α := (List UInt8 × Int × Int × Unit) × (Unit)) (
lp.run (fun (((t0v2, t4v2, t5v2, t6v2, _), (_)) : (List UInt8 × Int × Int × Int × Unit) × (Unit)) =>
bif (leZ t6v2 t5v2) then (
bd (ixStr t0v2 (.int .i64 t5v2)) fun v3 =>
clT q0 (cl 158 [(.int .u8 v3)]) fun (v5 : Bool) =>
bif v5 then (
rt (
some (.inl ((t0v2, t4v2, t5v2, ()), (()))))) else (
some (.inl ((t0v2, t4v2, (wrapD .i64 (t5v2 - 1)), t6v2, ()), (()))))) else (
rt (
some (.inl ((t0v2, t4v2, t5v2, ()), (())))))) ((a0, (List.length a0 : Int), (wrapD .i64 ((wrapD .i64 ((List.length a0 : Int) - 1)) - 1)), (mmZ true (wrapD .i64 ((List.length a0 : Int) - 4)) 0), ()), (()))) fun (((t0v1, t4v1, t5v1, _), (_)) : (List UInt8 × Int × Int × Unit) × (Unit)) =>
bj (α := (List UInt8 × Int × Int × Unit) × (Unit)) (
bif (ltZ t5v1 0) then (
some (.inl ((t0v1, t4v1, (0 : Int), ()), (())))) else (
some (.inl ((t0v1, t4v1, t5v1, ()), (()))))) fun (((t0v6, t4v6, t5v6, _), (_)) : (List UInt8 × Int × Int × Unit) × (Unit)) =>
bd (slStr t0v6 (some (.int .i64 t5v6)) (some (.int .i64 t4v6))) fun v7 =>
clT q28 (cl 143 [(.str v7)]) fun (v9 : (Int × Int × Unit)) =>
bif (!(eqZ (wrapD .i64 (t5v6 + v9.2.1)) t4v6)) then (
some (.tup [(.int .i32 65533), (.int .i64 1)])) else (
some (.tup [(.int .i32 v9.1), (.int .i64 v9.2.1)]))))
theorem S145_eq (lp : Lp) (cl : CL) (a0 : List UInt8) : runS lp Tryz.prog TryzG cl 145 [(.str a0)] = S145 lp cl a0 := by kernel_rfl
def S145_w (lp : Lp) (cl : CL) (args : List D) : Option D := bd (Sh.gds [.str] args) fun v => S145 lp cl v.1
theorem S145_t : TabE TryzE 145 S145_w := tab_of (by kernel_rfl) fun lp cl v => S145_eq lp cl v.1

/- 156 unicode/utf8.decodeRuneInStringSlow -/
def S156 (lp : Lp) (cl : CL) (a0 : List UInt8) : Option D :=
bif (ltZ (List.length a0 : Int) 1) then (
some (.tup [(.int .i32 65533), (.int .i64 0)])) else (
bd (ixStr a0 (.int .i64 0)) fun v0 =>
bd (idxD 256 (.int .u8 v0)) fun v1 =>
tkT q13 g2 (0 + v1 * 1) none fun (v3 : Int) =>
bif (leZ 240 v3) then (
bd (shlD .i32 (wrapD .i32 v3) 31) fun v4 =>
bd (shrD .i32 v4 31) fun v5 =>
bd (ixStr a0 (.int .i64 0)) fun v6 =>
some (.tup [(.int .i32 (orZ .i32 (andNotZ .i32 (wrapD .i32 v6) v5) (andZ .i32 65533 v5))), (.int .i64 1)])) else (
bd (shrD .u8 v3 4) fun v7 =>
bd (idxD 16 (.int .u8 v7)) fun v8 =>
tkT q30 g3 (0 + v8 * 2) (some 2) fun (v10 : (Int × Int × Unit)) =>
bif (ltZ (List.length a0 : Int) (wrapD .i64 (andZ .u8 v3 7))) then (
some (.tup [(.int .i32 65533), (.int .i64 1)])) else (
bd (ixStr a0 (.int .i64 1)) fun v11 =>
bj (α := (List UInt8 × Int × Int × Int × Unit) × ((Int × Int × Unit) × Unit)) (
bif (ltZ v11 v10.1) then (
rt (
some (.tup [(.int .i32 65533), (.int .i64 1)]))) else (
bif (ltZ v10.2.1 v11) then (
rt (
some (.tup [(.int .i32 65533), (.int .i64 1)]))) else (
some (.inl ((a0, v0, (wrapD .i64 (andZ .u8 v3 7)), v11, ()), ((v10.1, v10.2.1, ()), ())))))) fun (((t0v12, t5v12, t8v12, t10v12, _), ((b10004v12_0, b10004v12_1, _), _)) : (List UInt8 × Int × Int × Int × Unit) × ((Int × Int × Unit) × Unit)) =>
bif (leZ t8v12 2) then (
bd (shlD .i32 (wrapD .i32 (andZ .u8 t5v12 31)) 6) fun v13 =>
some (.tup [(.int .i32 (orZ .i32 v13 (wrapD .i32 (andZ .u8 t10v12 63)))), (.int .i64 2)])) else (
bd (ixStr t0v12 (.int .i64 2)) fun v14 =>
bj (α := (List UInt8 × Int × Int × Int × Int × Unit) × ((Int × Int × Unit) × Unit)) (
bif (ltZ v14 128) then (
rt (
some (.tup [(.int .i32 65533), (.int .i64 1)]))) else (
bif (ltZ 191 v14) then (
rt (
some (.tup [(.int .i32 65533), (.int .i64 1)]))) else (
some (.inl ((t0v12, t5v12, t8v12, t10v12, v14, ()), ((b10004v12_0, b10004v12_1, ()), ())))))) fun (((t0v15, t5v15, t8v15, t10v15, t11v15, _), ((b10004v15_0, b10004v15_1, _), _)) : (List UInt8 × Int × Int × Int × Int × Unit) × ((Int × Int × Unit) × Unit)) =>
bif (leZ t8v15 3) then (
bd (shlD .i32 (wrapD .i32 (andZ .u8 t5v15 15)) 12) fun v16 =>
bd (shlD .i32 (wrapD .i32 (andZ .u8 t10v15 63)) 6) fun v17 =>
some (.tup [(.int .i32 (orZ .i32 (orZ .i32 v16 v17) (wrapD .i32 (andZ .u8 t11v15 63)))), (.int .i64 3)])) else (
bd (ixStr t0v15 (.int .i64 3)) fun v18 =>
bj (α := (Int × Int × Int × Int × Unit) × ((Int × Int × Unit) × Unit)) (
bif (ltZ v18 128) then (
rt (
some (.tup [(.int .i32 65533), (.int .i64 1)]))) else (
bif (ltZ 191 v18) then (
rt (
some (.tup [(.int .i32 65533), (.int .i64 1)]))) else (
some (.inl ((t5v15, t10v15, t11v15, v18, ()), ((b10004v15_0, b10004v15_1, ()), ())))))) fun (((t5v19, t10v19, t11v19, t12v19, _), ((b10004v19_0, b10004v19_1, _), _)) : (Int × Int × Int × Int × Unit) × ((Int × Int × Unit) × Unit)) =>
bd (shlD .i32 (wrapD .i32 (andZ .u8 t5v19 7)) 18) fun v20 =>
bd (shlD .i32 (wrapD .i32 (andZ .u8 t10v19 63)) 12) fun v21 =>
bd (shlD .i32 (wrapD .i32 (andZ .u8 t11v19 63)) 6) fun v22 =>
some (.tup [(.int .i32 (orZ .i32 (orZ .i32 (orZ .i32 v20 v21) v22) (wrapD .i32 (andZ .u8 t12v19 63)))), (.int .i64 4)]))))))
theorem S156_eq (lp : Lp) (cl : CL) (a0 : List UInt8) : runS lp Tryz.prog TryzG cl 156 [(.str a0)] = S156 lp cl a0 := by kernel_rfl
def S156_w (lp : Lp) (cl : CL) (args : List D) : Option D := bd (Sh.gds [.str] args) fun v => S156 lp cl v.1
theorem S156_t : TabE TryzE 156 S156_w := tab_of (by kernel_rfl) fun lp cl v => S156_eq lp cl v.1

end Go.Proofs.YtblbgjfkbcdlfaaGreatDoor
