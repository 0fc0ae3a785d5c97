/- What the functions come to. -/
import Derived.Test.YtblbgjfkbcdlfaaGreatDoorSH
set_option linter.unusedVariables false
set_option maxRecDepth 100000
namespace Go.Proofs.YtblbgjfkbcdlfaaGreatDoor
open Go Iv
/- 4 invigilator/invigilatorlaw27.TaintRises -/
def S4 (lp : Lp) (cl : CL) (a0_0 : D) (a0_1 : D) (a1 : D) (a2_0 : Int) (a2_1 : Int) (a2_2 : Int) : Option D :=
bj (α := (D × Unit × Unit × Unit) × ((Int × Int × Int × Unit) × (D × D × Unit) × Unit)) (
clT q0 (cl 6 [(.agg [a0_0, a0_1])]) fun (v2 : Bool) =>
bif v2 then (
clT q0 (cl 7 []) fun (v4 : Bool) =>
rt (
some (.bool v4))) else (
bd (lenD false a1) fun v5 =>
bif (eqZ (v5 : Int) 0) then (
clT q0 (cl 7 []) fun (v7 : Bool) =>
rt (
some (.bool v7))) else (
bd (lenD false a1) fun v8 =>
bif (ltZ 2 (v8 : Int)) then (
clT q0 (cl 7 []) fun (v10 : Bool) =>
rt (
some (.bool v10))) else (
bd (lenD false a0_0) fun v11 =>
bif (eqZ (v11 : Int) 0) then (
clT q0 (cl 7 []) fun (v13 : Bool) =>
rt (
some (.bool v13))) else (
some (.inl ((a1, (), (), ()), ((a2_0, a2_1, a2_2, ()), (a0_0, a0_1, ()), ())))))))) fun (((t1v0, _, _, _), ((b1v0_0, b1v0_1, b1v0_2, _), (b0v0_0, b0v0_1, _), _)) : (D × Unit × Unit × Unit) × ((Int × Int × Int × Unit) × (D × D × Unit) × Unit)) =>
bd (remD (wrapD .i64 b1v0_0) 40) fun v14 =>
clT q1 (cl 8 [(.agg [b0v0_0, b0v0_1]), (.int .i64 (wrapD .i64 (v14 + 1))), t1v0]) fun (v16 : ((Int × Int × Int × Int × Int × Int × Int × Unit) × Int × Unit)) =>
bif (!(eqZ v16.2.1 0)) then (
clT q0 (cl 7 []) fun (v18 : Bool) =>
some (.bool v18)) else (
bd (lenD false t1v0) fun v19 =>
bd (remD (wrapD .i64 b1v0_1) (v19 : Int)) fun v20 =>
bd (slF 5 t1v0) fun v21 =>
bif Nat.ble (0 + v21.2) 0 then (
bd (apG (!(v21.1.any isAg)) 0 0 0 0) fun _ =>
bd (inR (0 + 0 * 5) (List.length v21.1) 0) fun _ =>
bd (idxD (0 + v21.2) (.int .i64 v20)) fun v22 =>
tkT q2 (setQ [] (0 + 0 * 5) v21.1) (0 + v22 * 5) (some 5) fun (v24 : (Int × Int × Int × Int × Int × Unit)) =>
bd (lenD false b0v0_0) fun v25 =>
bd (remD (wrapD .i64 b1v0_2) (v25 : Int)) fun v26 =>
clT q3 (cl 10 [(.agg [b0v0_0, b0v0_1]), (.agg [(.int .i64 v24.1), (.int .i64 v24.2.1), (.int .i64 v24.2.2.1), (.int .i64 v24.2.2.2.1), (.int .i64 v24.2.2.2.2.1)]), (.int .i64 v26)]) fun (v28 : ((Int × Int × Int × Int × Int × Unit) × Int × Unit)) =>
bd (idxD (0 + v21.2) (.int .i64 v20)) fun v29 =>
bd (inR (0 + v29 * 5) 5 (List.length (setQ [] (0 + 0 * 5) v21.1))) fun _ =>
bd (frSl (Nat.beq 0 (0 + v21.2)) 0 5 (0 + v21.2) (setQ (setQ [] (0 + 0 * 5) v21.1) (0 + v29 * 5) [(.int .i64 v28.1.1), (.int .i64 v28.1.2.1), (.int .i64 v28.1.2.2.1), (.int .i64 v28.1.2.2.2.1), (.int .i64 v28.1.2.2.2.2.1)])) fun v30 =>
clT q1 (cl 8 [(.agg [b0v0_0, b0v0_1]), (.int .i64 (wrapD .i64 (v14 + 1))), v30]) fun (v32 : ((Int × Int × Int × Int × Int × Int × Int × Unit) × Int × Unit)) =>
bif (eqZ v28.2.1 0) then (
bif (eqZ v32.2.1 0) then (
bif (eqZ v16.1.1 v32.1.1) then (
bif (eqZ v16.1.2.1 v32.1.2.1) then (
clT q0 (cl 11 [(.agg [b0v0_0, b0v0_1]), (.agg [(.int .i64 v16.1.1), (.int .i64 v16.1.2.1), (.int .i64 v16.1.2.2.1), (.int .i64 v16.1.2.2.2.1), (.int .i64 v16.1.2.2.2.2.1)]), (.agg [(.int .i64 v32.1.1), (.int .i64 v32.1.2.1), (.int .i64 v32.1.2.2.1), (.int .i64 v32.1.2.2.2.1), (.int .i64 v32.1.2.2.2.2.1)])]) fun (v34 : Bool) =>
bif v34 then (
clT q0 (cl 12 [(.agg [b0v0_0, b0v0_1]), (.int .i64 v16.1.2.2.2.2.2.1), (.int .i64 v32.1.2.2.2.2.2.1)]) fun (v36 : Bool) =>
bif v36 then (
clT q0 (cl 12 [(.agg [b0v0_0, b0v0_1]), (.int .i64 v16.1.2.2.2.2.2.2.1), (.int .i64 v32.1.2.2.2.2.2.2.1)]) fun (v38 : Bool) =>
bif v38 then (
clT q0 (cl 7 []) fun (v40 : Bool) =>
some (.bool v40)) else (
some (.bool false))) else (
some (.bool false))) else (
some (.bool false))) else (
some (.bool false))) else (
some (.bool false))) else (
some (.bool false))) else (
some (.bool false))) else (
bd (apM (0 + v21.2) 40 0 (0 * 5) 0) fun _ =>
bd (idxD (0 + v21.2) (.int .i64 v20)) fun v41 =>
tkT q2 ((List.drop 0 []).take (0 * 5) ++ v21.1) (0 + v41 * 5) (some 5) fun (v43 : (Int × Int × Int × Int × Int × Unit)) =>
bd (lenD false b0v0_0) fun v44 =>
bd (remD (wrapD .i64 b1v0_2) (v44 : Int)) fun v45 =>
clT q3 (cl 10 [(.agg [b0v0_0, b0v0_1]), (.agg [(.int .i64 v43.1), (.int .i64 v43.2.1), (.int .i64 v43.2.2.1), (.int .i64 v43.2.2.2.1), (.int .i64 v43.2.2.2.2.1)]), (.int .i64 v45)]) fun (v47 : ((Int × Int × Int × Int × Int × Unit) × Int × Unit)) =>
bd (idxD (0 + v21.2) (.int .i64 v20)) fun v48 =>
bd (inR (0 + v48 * 5) 5 (List.length ((List.drop 0 []).take (0 * 5) ++ v21.1))) fun _ =>
bd (frSl false 0 5 (0 + v21.2) (setQ ((List.drop 0 []).take (0 * 5) ++ v21.1) (0 + v48 * 5) [(.int .i64 v47.1.1), (.int .i64 v47.1.2.1), (.int .i64 v47.1.2.2.1), (.int .i64 v47.1.2.2.2.1), (.int .i64 v47.1.2.2.2.2.1)])) fun v49 =>
clT q1 (cl 8 [(.agg [b0v0_0, b0v0_1]), (.int .i64 (wrapD .i64 (v14 + 1))), v49]) fun (v51 : ((Int × Int × Int × Int × Int × Int × Int × Unit) × Int × Unit)) =>
bif (eqZ v47.2.1 0) then (
bif (eqZ v51.2.1 0) then (
bif (eqZ v16.1.1 v51.1.1) then (
bif (eqZ v16.1.2.1 v51.1.2.1) then (
clT q0 (cl 11 [(.agg [b0v0_0, b0v0_1]), (.agg [(.int .i64 v16.1.1), (.int .i64 v16.1.2.1), (.int .i64 v16.1.2.2.1), (.int .i64 v16.1.2.2.2.1), (.int .i64 v16.1.2.2.2.2.1)]), (.agg [(.int .i64 v51.1.1), (.int .i64 v51.1.2.1), (.int .i64 v51.1.2.2.1), (.int .i64 v51.1.2.2.2.1), (.int .i64 v51.1.2.2.2.2.1)])]) fun (v53 : Bool) =>
bif v53 then (
clT q0 (cl 12 [(.agg [b0v0_0, b0v0_1]), (.int .i64 v16.1.2.2.2.2.2.1), (.int .i64 v51.1.2.2.2.2.2.1)]) fun (v55 : Bool) =>
bif v55 then (
clT q0 (cl 12 [(.agg [b0v0_0, b0v0_1]), (.int .i64 v16.1.2.2.2.2.2.2.1), (.int .i64 v51.1.2.2.2.2.2.2.1)]) fun (v57 : Bool) =>
bif v57 then (
clT q0 (cl 7 []) fun (v59 : Bool) =>
some (.bool v59)) else (
some (.bool false))) else (
some (.bool false))) else (
some (.bool false))) else (
some (.bool false))) else (
some (.bool false))) else (
some (.bool false))) else (
some (.bool false))))
theorem S4_eq (lp : Lp) (cl : CL) (a0_0 : D) (a0_1 : D) (a1 : D) (a2_0 : Int) (a2_1 : Int) (a2_2 : Int) : runS lp Tryz.prog TryzG cl 4 [(.agg [(.fz a0_0), (.fz a0_1)]), (.fz a1), (.agg [(.int .u8 a2_0), (.int .u8 a2_1), (.int .u8 a2_2)])] = S4 lp cl a0_0 a0_1 a1 a2_0 a2_1 a2_2 := by kernel_rfl
def S4_w (lp : Lp) (cl : CL) (args : List D) : Option D := bd (Sh.gds [(.agg [.fz, .fz]), .fz, (.agg [(.int .u8), (.int .u8), (.int .u8)])] args) fun v => S4 lp cl v.1.1 v.1.2.1 v.2.1 v.2.2.1.1 v.2.2.1.2.1 v.2.2.1.2.2.1
theorem S4_t : TabE TryzE 4 S4_w := tab_of (by kernel_rfl) fun lp cl v => S4_eq lp cl v.1.1 v.1.2.1 v.2.1 v.2.2.1.1 v.2.2.1.2.1 v.2.2.1.2.2.1

/- 6 invigilator/invigilatorlaw27.far -/
def S6 (lp : Lp) (cl : CL) (a0_0 : D) (a0_1 : D) : Option D :=
clT q0 (cl 16 [(.agg [a0_0, a0_1, .nils, .nils, .nils])]) fun (v1 : Bool) =>
some (.bool v1)
theorem S6_eq (lp : Lp) (cl : CL) (a0_0 : D) (a0_1 : D) : runS lp Tryz.prog TryzG cl 6 [(.agg [(.fz a0_0), (.fz a0_1)])] = S6 lp cl a0_0 a0_1 := by kernel_rfl
def S6_w (lp : Lp) (cl : CL) (args : List D) : Option D := bd (Sh.gds [(.agg [.fz, .fz])] args) fun v => S6 lp cl v.1.1 v.1.2.1
theorem S6_t : TabE TryzE 6 S6_w := tab_of (by kernel_rfl) fun lp cl v => S6_eq lp cl v.1.1 v.1.2.1

/- 10 invigilator/invigilatorlaw27.raised -/
def S10 (lp : Lp) (cl : CL) (a0_0 : D) (a0_1 : D) (a1_0 : Int) (a1_1 : Int) (a1_2 : Int) (a1_3 : Int) (a1_4 : Int) (a2 : Int) : Option D :=
lp.run (fun (((t2v0, _, _, _, t8v0, _), ((b2v0_0, b2v0_1, b2v0_2, b2v0_3, b2v0_4, _), (b1v0_0, b1v0_1, b1v0_2, b1v0_3, b1v0_4, _), (b0v0_0, b0v0_1, _), _)) : (Int × Unit × Unit × Unit × Int × Unit) × ((Int × Int × Int × Int × Int × Unit) × (Int × Int × Int × Int × Int × Unit) × (D × D × Unit) × Unit)) =>
bj (α := (Int × Unit × Unit × Unit × Int × Unit) × ((Int × Int × Int × Int × Int × Unit) × (Int × Int × Int × Int × Int × Unit) × (D × D × Unit) × Unit)) (
bif (ltZ t8v0 b1v0_1) then (
bif (ltZ t8v0 2) then (
some (.inl ((t2v0, (), (), (), t8v0, ()), ((b2v0_0, b2v0_1, b2v0_2, b2v0_3, b2v0_4, ()), (b1v0_0, b1v0_1, b1v0_2, b1v0_3, b1v0_4, ()), (b0v0_0, b0v0_1, ()), ())))) else (
rt (
rt (
clT q7 (cl 33 [(.agg [b0v0_0, b0v0_1]), (.int .i64 b1v0_4), (.int .i64 t2v0)]) fun (v3 : (Int × Int × Unit)) =>
some (.tup [(.agg [(.int .i64 b1v0_0), (.int .i64 b1v0_1), (.int .i64 b1v0_2), (.int .i64 b1v0_3), (.int .i64 v3.1)]), (.int .i64 v3.2.1)]))))) else (
rt (
rt (
clT q7 (cl 33 [(.agg [b0v0_0, b0v0_1]), (.int .i64 b1v0_4), (.int .i64 t2v0)]) fun (v5 : (Int × Int × Unit)) =>
some (.tup [(.agg [(.int .i64 b1v0_0), (.int .i64 b1v0_1), (.int .i64 b1v0_2), (.int .i64 b1v0_3), (.int .i64 v5.1)]), (.int .i64 v5.2.1)]))))) fun (((t2v1, _, _, _, t8v1, _), ((b2v1_0, b2v1_1, b2v1_2, b2v1_3, b2v1_4, _), (b1v1_0, b1v1_1, b1v1_2, b1v1_3, b1v1_4, _), (b0v1_0, b0v1_1, _), _)) : (Int × Unit × Unit × Unit × Int × Unit) × ((Int × Int × Int × Int × Int × Unit) × (Int × Int × Int × Int × Int × Unit) × (D × D × Unit) × Unit)) =>
bd (idxD 2 (.int .i64 t8v1)) fun v6 =>
tkT q4 [(.int .i64 b1v1_0), (.int .i64 b1v1_1), (.int .i64 b1v1_2), (.int .i64 b1v1_3), (.int .i64 b1v1_4)] (2 + v6 * 1) none fun (v8 : Int) =>
clT q7 (cl 33 [(.agg [b0v1_0, b0v1_1]), (.int .i64 v8), (.int .i64 t2v1)]) fun (v10 : (Int × Int × Unit)) =>
bif (!(eqZ v10.2.1 0)) then (
rt (
some (.tup [(.agg [(.int .i64 b1v1_0), (.int .i64 b1v1_1), (.int .i64 b1v1_2), (.int .i64 b1v1_3), (.int .i64 b1v1_4)]), (.int .i64 v10.2.1)]))) else (
bd (idxD 2 (.int .i64 t8v1)) fun v11 =>
bd (inR (2 + v11 * 1) 1 5) fun _ =>
bd (Sh.gds [(.int .i64), (.int .i64), (.int .i64), (.int .i64), (.int .i64)] (setQ [(.int .i64 b1v1_0), (.int .i64 b1v1_1), (.int .i64 b1v1_2), (.int .i64 b1v1_3), (.int .i64 b1v1_4)] (2 + v11 * 1) [(.int .i64 v10.1)])) fun (v12 : (Int × Int × Int × Int × Int × Unit)) =>
some (.inl ((t2v1, (), (), (), (wrapD .i64 (t8v1 + 1)), ()), ((b2v1_0, b2v1_1, b2v1_2, b2v1_3, b2v1_4, ()), v12, (b0v1_0, b0v1_1, ()), ()))))) ((a2, (), (), (), (0 : Int), ()), (((0 : Int), (0 : Int), (0 : Int), (0 : Int), (0 : Int), ()), (a1_0, a1_1, a1_2, a1_3, a1_4, ()), (a0_0, a0_1, ()), ()))
theorem S10_eq (lp : Lp) (cl : CL) (a0_0 : D) (a0_1 : D) (a1_0 : Int) (a1_1 : Int) (a1_2 : Int) (a1_3 : Int) (a1_4 : Int) (a2 : Int) : runS lp Tryz.prog TryzG cl 10 [(.agg [(.fz a0_0), (.fz a0_1)]), (.agg [(.int .i64 a1_0), (.int .i64 a1_1), (.int .i64 a1_2), (.int .i64 a1_3), (.int .i64 a1_4)]), (.int .i64 a2)] = S10 lp cl a0_0 a0_1 a1_0 a1_1 a1_2 a1_3 a1_4 a2 := by kernel_rfl
def S10_w (lp : Lp) (cl : CL) (args : List D) : Option D := bd (Sh.gds [(.agg [.fz, .fz]), (.agg [(.int .i64), (.int .i64), (.int .i64), (.int .i64), (.int .i64)]), (.int .i64)] args) fun v => S10 lp cl v.1.1 v.1.2.1 v.2.1.1 v.2.1.2.1 v.2.1.2.2.1 v.2.1.2.2.2.1 v.2.1.2.2.2.2.1 v.2.2.1
theorem S10_t : TabE TryzE 10 S10_w := tab_of (by kernel_rfl) fun lp cl v => S10_eq lp cl v.1.1 v.1.2.1 v.2.1.1 v.2.1.2.1 v.2.1.2.2.1 v.2.1.2.2.2.1 v.2.1.2.2.2.2.1 v.2.2.1

/- 13 invigilator/invigilatorref19.Good -/
def S13 (lp : Lp) (cl : CL) (a0_0 : D) (a0_1 : D) (a1_0 : Int) (a1_1 : Int) (a1_2 : Int) (a1_3 : Int) (a1_4 : Int) : Option D :=
clT q7 (cl 27 [(.agg [a0_0, a0_1])]) fun (v1 : (Int × Int × Unit)) =>
bif (!(eqZ v1.2.1 0)) then (
some (.int .i64 v1.2.1)) else (
bj (α := (Unit × Unit × Unit) × ((Int × Int × Int × Int × Int × Unit) × (D × D × Unit) × Unit)) (
bif (!(eqZ a1_0 1)) then (
bif (!(eqZ a1_0 2)) then (
rt (
some (.int .i64 7))) else (
bif (ltZ a1_1 0) then (
rt (
some (.int .i64 7))) else (
bif (ltZ 2 a1_1) then (
rt (
some (.int .i64 7))) else (
clT q0 (cl 35 [(.agg [a0_0, a0_1]), (.int .i64 a1_2)]) fun (v4 : Bool) =>
bif (!v4) then (
rt (
some (.int .i64 7))) else (
clT q0 (cl 35 [(.agg [a0_0, a0_1]), (.int .i64 a1_3)]) fun (v6 : Bool) =>
bif (!v6) then (
rt (
some (.int .i64 7))) else (
clT q0 (cl 35 [(.agg [a0_0, a0_1]), (.int .i64 a1_4)]) fun (v8 : Bool) =>
bif (!v8) then (
rt (
some (.int .i64 7))) else (
some (.inl (((), (), ()), ((a1_0, a1_1, a1_2, a1_3, a1_4, ()), (a0_0, a0_1, ()), ())))))))))) else (
bif (ltZ a1_1 0) then (
rt (
some (.int .i64 7))) else (
bif (ltZ 2 a1_1) then (
rt (
some (.int .i64 7))) else (
clT q0 (cl 35 [(.agg [a0_0, a0_1]), (.int .i64 a1_2)]) fun (v10 : Bool) =>
bif (!v10) then (
rt (
some (.int .i64 7))) else (
clT q0 (cl 35 [(.agg [a0_0, a0_1]), (.int .i64 a1_3)]) fun (v12 : Bool) =>
bif (!v12) then (
rt (
some (.int .i64 7))) else (
clT q0 (cl 35 [(.agg [a0_0, a0_1]), (.int .i64 a1_4)]) fun (v14 : Bool) =>
bif (!v14) then (
rt (
some (.int .i64 7))) else (
some (.inl (((), (), ()), ((a1_0, a1_1, a1_2, a1_3, a1_4, ()), (a0_0, a0_1, ()), ())))))))))) fun (((_, _, _), ((b1v2_0, b1v2_1, b1v2_2, b1v2_3, b1v2_4, _), (b0v2_0, b0v2_1, _), _)) : (Unit × Unit × Unit) × ((Int × Int × Int × Int × Int × Unit) × (D × D × Unit) × Unit)) =>
clT q7 (cl 36 [(.agg [b0v2_0, b0v2_1])]) fun (v16 : (Int × Int × Unit)) =>
lp.run (fun (((_, _, t7v17, t9v17, _), ((b1v17_0, b1v17_1, b1v17_2, b1v17_3, b1v17_4, _), (b0v17_0, b0v17_1, _), _)) : (Unit × Unit × Int × Int × Unit) × ((Int × Int × Int × Int × Int × Unit) × (D × D × Unit) × Unit)) =>
bif (ltZ t9v17 2) then (
bd (idxD 2 (.int .i64 t9v17)) fun v18 =>
tkT q4 [(.int .i64 b1v17_0), (.int .i64 b1v17_1), (.int .i64 b1v17_2), (.int .i64 b1v17_3), (.int .i64 b1v17_4)] (2 + v18 * 1) none fun (v20 : Int) =>
bif (!(eqZ v20 t7v17)) then (
rt (
some (.int .i64 6))) else (
some (.inl (((), (), t7v17, (wrapD .i64 (t9v17 + 1)), ()), ((b1v17_0, b1v17_1, b1v17_2, b1v17_3, b1v17_4, ()), (b0v17_0, b0v17_1, ()), ()))))) else (
rt (
lp.run (fun (((_, _, t10v21, _), ((b1v21_0, b1v21_1, b1v21_2, b1v21_3, b1v21_4, _), (b0v21_0, b0v21_1, _), _)) : (Unit × Unit × Int × Unit) × ((Int × Int × Int × Int × Int × Unit) × (D × D × Unit) × Unit)) =>
bif (ltZ t10v21 b1v21_1) then (
bd (idxD 2 (.int .i64 t10v21)) fun v22 =>
tkT q4 [(.int .i64 b1v21_0), (.int .i64 b1v21_1), (.int .i64 b1v21_2), (.int .i64 b1v21_3), (.int .i64 b1v21_4)] (2 + v22 * 1) none fun (v24 : Int) =>
clT q0 (cl 37 [(.agg [b0v21_0, b0v21_1]), (.int .i64 v24), (.int .i64 b1v21_4)]) fun (v26 : Bool) =>
bif (!v26) then (
rt (
some (.int .i64 25))) else (
some (.inl (((), (), (wrapD .i64 (t10v21 + 1)), ()), ((b1v21_0, b1v21_1, b1v21_2, b1v21_3, b1v21_4, ()), (b0v21_0, b0v21_1, ()), ()))))) else (
rt (
some (.int .i64 0)))) (((), (), (0 : Int), ()), ((b1v17_0, b1v17_1, b1v17_2, b1v17_3, b1v17_4, ()), (b0v17_0, b0v17_1, ()), ()))))) (((), (), v16.1, b1v2_1, ()), ((b1v2_0, b1v2_1, b1v2_2, b1v2_3, b1v2_4, ()), (b0v2_0, b0v2_1, ()), ())))
theorem S13_eq (lp : Lp) (cl : CL) (a0_0 : D) (a0_1 : D) (a1_0 : Int) (a1_1 : Int) (a1_2 : Int) (a1_3 : Int) (a1_4 : Int) : runS lp Tryz.prog TryzG cl 13 [(.agg [(.fz a0_0), (.fz a0_1)]), (.agg [(.int .i64 a1_0), (.int .i64 a1_1), (.int .i64 a1_2), (.int .i64 a1_3), (.int .i64 a1_4)])] = S13 lp cl a0_0 a0_1 a1_0 a1_1 a1_2 a1_3 a1_4 := by kernel_rfl
def S13_w (lp : Lp) (cl : CL) (args : List D) : Option D := bd (Sh.gds [(.agg [.fz, .fz]), (.agg [(.int .i64), (.int .i64), (.int .i64), (.int .i64), (.int .i64)])] args) fun v => S13 lp cl v.1.1 v.1.2.1 v.2.1.1 v.2.1.2.1 v.2.1.2.2.1 v.2.1.2.2.2.1 v.2.1.2.2.2.2.1
theorem S13_t : TabE TryzE 13 S13_w := tab_of (by kernel_rfl) fun lp cl v => S13_eq lp cl v.1.1 v.1.2.1 v.2.1.1 v.2.1.2.1 v.2.1.2.2.1 v.2.1.2.2.2.1 v.2.1.2.2.2.2.1

/- 15 invigilator/invigilatorref12.Fits -/
def S15 (lp : Lp) (cl : CL) (a0 : Int) (a1 : D) (a2 : D) : Option D :=
clT q7 (cl 40 [(.int .i64 a0)]) fun (v1 : (Int × Int × Unit)) =>
bif (!(eqZ v1.2.1 0)) then (
some (.tup [(.int .i64 0), (.int .i64 0), (.int .i64 v1.2.1)])) else (
bj (α := (Int × D × D × Unit) × (Unit)) (
bd (lenD false a1) fun v3 =>
bif (!(eqZ (v3 : Int) v1.1)) then (
rt (
some (.tup [(.int .i64 0), (.int .i64 0), (.int .i64 23)]))) else (
bd (lenD false a2) fun v4 =>
bif (!(eqZ (v4 : Int) v1.1)) then (
rt (
some (.tup [(.int .i64 0), (.int .i64 0), (.int .i64 23)]))) else (
some (.inl ((a0, a1, a2, ()), (())))))) fun (((t0v2, t1v2, t2v2, _), (_)) : (Int × D × D × Unit) × (Unit)) =>
clT q0 (cl 41 [(.int .i64 t0v2), t1v2]) fun (v6 : Bool) =>
bif (!v6) then (
some (.tup [(.int .i64 0), (.int .i64 0), (.int .i64 21)])) else (
clT q4 (cl 42 [(.int .i64 t0v2), t2v2]) fun (v8 : Int) =>
bif (ltZ v8 0) then (
some (.tup [(.int .i64 0), (.int .i64 0), (.int .i64 22)])) else (
clT q4 (cl 43 [(.int .i64 t0v2), t1v2]) fun (v10 : Int) =>
some (.tup [(.int .i64 v10), (.int .i64 v8), (.int .i64 0)]))))
theorem S15_eq (lp : Lp) (cl : CL) (a0 : Int) (a1 : D) (a2 : D) : runS lp Tryz.prog TryzG cl 15 [(.int .i64 a0), (.fz a1), (.fz a2)] = S15 lp cl a0 a1 a2 := by kernel_rfl
def S15_w (lp : Lp) (cl : CL) (args : List D) : Option D := bd (Sh.gds [(.int .i64), .fz, .fz] args) fun v => S15 lp cl v.1 v.2.1 v.2.2.1
theorem S15_t : TabE TryzE 15 S15_w := tab_of (by kernel_rfl) fun lp cl v => S15_eq lp cl v.1 v.2.1 v.2.2.1

/- 17 invigilator/invigilatorlaw27.ints -/
def S17 (lp : Lp) (cl : CL) (a0 : Int) (a1 : Int) (a2 : Int) : Option D :=
bif (ltZ 0 a0) then (
some (.agg [(.int .i64 1), (.int .i64 a0), (.int .i64 a1), (.int .i64 0), (.int .i64 a2)])) else (
some (.agg [(.int .i64 1), (.int .i64 a0), (.int .i64 0), (.int .i64 0), (.int .i64 a2)]))
theorem S17_eq (lp : Lp) (cl : CL) (a0 : Int) (a1 : Int) (a2 : Int) : runS lp Tryz.prog TryzG cl 17 [(.int .i64 a0), (.int .i64 a1), (.int .i64 a2)] = S17 lp cl a0 a1 a2 := by kernel_rfl
def S17_w (lp : Lp) (cl : CL) (args : List D) : Option D := bd (Sh.gds [(.int .i64), (.int .i64), (.int .i64)] args) fun v => S17 lp cl v.1 v.2.1 v.2.2.1
theorem S17_t : TabE TryzE 17 S17_w := tab_of (by kernel_rfl) fun lp cl v => S17_eq lp cl v.1 v.2.1 v.2.2.1

/- 24 (invigilator/taint.rules).two -/
def S24 (lp : Lp) (cl : CL) (a0_0 : D) (a0_1 : D) (a0_2 : Int) (a1 : Int) (a2_0 : Int) (a2_1 : Int) (a2_2 : Int) (a2_3 : Int) (a2_4 : Int) (a3_0 : Int) (a3_1 : Int) (a3_2 : Int) (a3_3 : Int) (a3_4 : Int) : Option D :=
clT q4 (cl 26 [(.agg [a0_0, a0_1, (.int .i64 a0_2)]), (.agg [(.int .i64 a2_0), (.int .i64 a2_1), (.int .i64 a2_2), (.int .i64 a2_3), (.int .i64 a2_4)])]) fun (v1 : Int) =>
clT q4 (cl 26 [(.agg [a0_0, a0_1, (.int .i64 a0_2)]), (.agg [(.int .i64 a3_0), (.int .i64 a3_1), (.int .i64 a3_2), (.int .i64 a3_3), (.int .i64 a3_4)])]) fun (v3 : Int) =>
clT q4 (cl 25 [(.agg [a0_0, a0_1, (.int .i64 a0_2)]), (.sl true 2 [(.int .i64 v1), (.int .i64 v3)])]) fun (v5 : Int) =>
clT q4 (cl 25 [(.agg [a0_0, a0_1, (.int .i64 a0_2)]), (.sl true 2 [(.int .i64 a2_4), (.int .i64 a3_4)])]) fun (v7 : Int) =>
clT q4 (cl 25 [(.agg [a0_0, a0_1, (.int .i64 a0_2)]), (.sl true 2 [(.int .i64 v5), (.int .i64 v7)])]) fun (v9 : Int) =>
clT q18 (cl 56 [(.agg [a0_0, a0_1, (.int .i64 a0_2)]), (.agg [(.int .i64 a2_0), (.int .i64 a2_1), (.int .i64 a2_2), (.int .i64 a2_3), (.int .i64 a2_4)]), (.agg [(.int .i64 a3_0), (.int .i64 a3_1), (.int .i64 a3_2), (.int .i64 a3_3), (.int .i64 a3_4)])]) fun (v11 : (Int × Int × Unit)) =>
bj (α := (Unit × Unit × Unit × Unit × Int × Int × Int × Int × Int × Int × Bool × Unit) × ((Int × Int × Unit) × (Int × Int × Unit) × (Int × Int × Unit) × (Int × Int × Unit) × (Int × Int × Int × Int × Int × Unit) × (Int × Int × Int × Int × Int × Unit) × (D × D × Int × Unit) × Unit)) (
bif (eqZ a1 33) then (
some (.inl (((), (), (), (), v9, a0_2, v5, v7, v9, a1, (eqZ a1 33), ()), ((v5, v7, ()), (a2_4, a3_4, ()), (v1, v3, ()), (v11.1, v11.2.1, ()), (a3_0, a3_1, a3_2, a3_3, a3_4, ()), (a2_0, a2_1, a2_2, a2_3, a2_4, ()), (a0_0, a0_1, a0_2, ()), ())))) else (
some (.inl (((), (), (), (), v9, a0_2, v5, v7, v9, a1, (eqZ a1 34), ()), ((v5, v7, ()), (a2_4, a3_4, ()), (v1, v3, ()), (v11.1, v11.2.1, ()), (a3_0, a3_1, a3_2, a3_3, a3_4, ()), (a2_0, a2_1, a2_2, a2_3, a2_4, ()), (a0_0, a0_1, a0_2, ()), ()))))) fun (((_, _, _, _, t9v12, t10v12, t11v12, t12v12, t13v12, t43v12, t56v12, _), ((b2003v12_0, b2003v12_1, _), (b1014v12_0, b1014v12_1, _), (b1007v12_0, b1007v12_1, _), (b3v12_0, b3v12_1, _), (b2v12_0, b2v12_1, b2v12_2, b2v12_3, b2v12_4, _), (b1v12_0, b1v12_1, b1v12_2, b1v12_3, b1v12_4, _), (b0v12_0, b0v12_1, b0v12_2, _), _)) : (Unit × Unit × Unit × Unit × Int × Int × Int × Int × Int × Int × Bool × Unit) × ((Int × Int × Unit) × (Int × Int × Unit) × (Int × Int × Unit) × (Int × Int × Unit) × (Int × Int × Int × Int × Int × Unit) × (Int × Int × Int × Int × Int × Unit) × (D × D × Int × Unit) × Unit)) =>
bif t56v12 then (
clT q18 (cl 55 [(.agg [b0v12_0, b0v12_1, (.int .i64 b0v12_2)]), (.sl true 2 [(.int .i64 b1v12_4), (.int .i64 b2v12_2)])]) fun (v14 : (Int × Int × Unit)) =>
some (.tup [(.agg [(.int .i64 v14.1), (.int .i64 v14.2.1)]), (.int .i64 t9v12), (.int .i64 t10v12)])) else (
bif (eqZ t43v12 35) then (
clT q18 (cl 55 [(.agg [b0v12_0, b0v12_1, (.int .i64 b0v12_2)]), (.sl true 1 [(.int .i64 b1v12_4)])]) fun (v16 : (Int × Int × Unit)) =>
some (.tup [(.agg [(.int .i64 v16.1), (.int .i64 v16.2.1)]), (.int .i64 t12v12), (.int .i64 b1v12_4)])) else (
bif (eqZ t43v12 36) then (
clT q4 (cl 25 [(.agg [b0v12_0, b0v12_1, (.int .i64 b0v12_2)]), (.sl true 2 [(.int .i64 b1v12_4), (.int .i64 b1v12_2)])]) fun (v18 : Int) =>
clT q4 (cl 25 [(.agg [b0v12_0, b0v12_1, (.int .i64 b0v12_2)]), (.sl true 2 [(.int .i64 v18), (.int .i64 b2v12_2)])]) fun (v20 : Int) =>
some (.tup [(.agg [(.int .i64 v18), (.int .i64 v18)]), (.int .i64 t9v12), (.int .i64 v20)])) else (
bif (eqZ t43v12 37) then (
some (.tup [(.agg [(.int .i64 b3v12_0), (.int .i64 b3v12_1)]), (.int .i64 t9v12), (.int .i64 t11v12)])) else (
bif (eqZ t43v12 38) then (
clT q18 (cl 54 [(.agg [b0v12_0, b0v12_1, (.int .i64 b0v12_2)]), (.agg [(.int .i64 b2v12_0), (.int .i64 b2v12_1), (.int .i64 b2v12_2), (.int .i64 b2v12_3), (.int .i64 b2v12_4)])]) fun (v22 : (Int × Int × Unit)) =>
clT q4 (cl 25 [(.agg [b0v12_0, b0v12_1, (.int .i64 b0v12_2)]), (.sl true 2 [(.int .i64 b2v12_4), (.int .i64 t11v12)])]) fun (v24 : Int) =>
some (.tup [(.agg [(.int .i64 v22.1), (.int .i64 v22.2.1)]), (.int .i64 t9v12), (.int .i64 v24)])) else (
bif (eqZ t43v12 39) then (
clT q18 (cl 54 [(.agg [b0v12_0, b0v12_1, (.int .i64 b0v12_2)]), (.agg [(.int .i64 b1v12_0), (.int .i64 b1v12_1), (.int .i64 b1v12_2), (.int .i64 b1v12_3), (.int .i64 b1v12_4)])]) fun (v26 : (Int × Int × Unit)) =>
some (.tup [(.agg [(.int .i64 v26.1), (.int .i64 v26.2.1)]), (.int .i64 t9v12), (.int .i64 t10v12)])) else (
bif (eqZ t43v12 40) then (
clT q18 (cl 55 [(.agg [b0v12_0, b0v12_1, (.int .i64 b0v12_2)]), (.sl true 2 [(.int .i64 t11v12), (.int .i64 b1v12_4)])]) fun (v28 : (Int × Int × Unit)) =>
some (.tup [(.agg [(.int .i64 v28.1), (.int .i64 v28.2.1)]), (.int .i64 t9v12), (.int .i64 t11v12)])) else (
bj (α := (Unit × Unit × Unit × Int × Int × Int × Int × Bool × Unit) × ((Int × Int × Unit) × (Int × Int × Unit) × (Int × Int × Unit) × (Int × Int × Unit) × (Int × Int × Int × Int × Int × Unit) × (Int × Int × Int × Int × Int × Unit) × (D × D × Int × Unit) × Unit)) (
bif (eqZ t43v12 15) then (
some (.inl (((), (), (), t10v12, t11v12, t12v12, t13v12, (eqZ t43v12 15), ()), ((b2003v12_0, b2003v12_1, ()), (b1014v12_0, b1014v12_1, ()), (b1007v12_0, b1007v12_1, ()), (b3v12_0, b3v12_1, ()), (b2v12_0, b2v12_1, b2v12_2, b2v12_3, b2v12_4, ()), (b1v12_0, b1v12_1, b1v12_2, b1v12_3, b1v12_4, ()), (b0v12_0, b0v12_1, b0v12_2, ()), ())))) else (
bif (eqZ t43v12 16) then (
some (.inl (((), (), (), t10v12, t11v12, t12v12, t13v12, (eqZ t43v12 16), ()), ((b2003v12_0, b2003v12_1, ()), (b1014v12_0, b1014v12_1, ()), (b1007v12_0, b1007v12_1, ()), (b3v12_0, b3v12_1, ()), (b2v12_0, b2v12_1, b2v12_2, b2v12_3, b2v12_4, ()), (b1v12_0, b1v12_1, b1v12_2, b1v12_3, b1v12_4, ()), (b0v12_0, b0v12_1, b0v12_2, ()), ())))) else (
bif (eqZ t43v12 17) then (
some (.inl (((), (), (), t10v12, t11v12, t12v12, t13v12, (eqZ t43v12 17), ()), ((b2003v12_0, b2003v12_1, ()), (b1014v12_0, b1014v12_1, ()), (b1007v12_0, b1007v12_1, ()), (b3v12_0, b3v12_1, ()), (b2v12_0, b2v12_1, b2v12_2, b2v12_3, b2v12_4, ()), (b1v12_0, b1v12_1, b1v12_2, b1v12_3, b1v12_4, ()), (b0v12_0, b0v12_1, b0v12_2, ()), ())))) else (
bif (eqZ t43v12 18) then (
some (.inl (((), (), (), t10v12, t11v12, t12v12, t13v12, (eqZ t43v12 18), ()), ((b2003v12_0, b2003v12_1, ()), (b1014v12_0, b1014v12_1, ()), (b1007v12_0, b1007v12_1, ()), (b3v12_0, b3v12_1, ()), (b2v12_0, b2v12_1, b2v12_2, b2v12_3, b2v12_4, ()), (b1v12_0, b1v12_1, b1v12_2, b1v12_3, b1v12_4, ()), (b0v12_0, b0v12_1, b0v12_2, ()), ())))) else (
some (.inl (((), (), (), t10v12, t11v12, t12v12, t13v12, (eqZ t43v12 19), ()), ((b2003v12_0, b2003v12_1, ()), (b1014v12_0, b1014v12_1, ()), (b1007v12_0, b1007v12_1, ()), (b3v12_0, b3v12_1, ()), (b2v12_0, b2v12_1, b2v12_2, b2v12_3, b2v12_4, ()), (b1v12_0, b1v12_1, b1v12_2, b1v12_3, b1v12_4, ()), (b0v12_0, b0v12_1, b0v12_2, ()), ())))))))) fun (((_, _, _, t10v29, t11v29, t12v29, t13v29, t125v29, _), ((b2003v29_0, b2003v29_1, _), (b1014v29_0, b1014v29_1, _), (b1007v29_0, b1007v29_1, _), (b3v29_0, b3v29_1, _), (b2v29_0, b2v29_1, b2v29_2, b2v29_3, b2v29_4, _), (b1v29_0, b1v29_1, b1v29_2, b1v29_3, b1v29_4, _), (b0v29_0, b0v29_1, b0v29_2, _), _)) : (Unit × Unit × Unit × Int × Int × Int × Int × Bool × Unit) × ((Int × Int × Unit) × (Int × Int × Unit) × (Int × Int × Unit) × (Int × Int × Unit) × (Int × Int × Int × Int × Int × Unit) × (Int × Int × Int × Int × Int × Unit) × (D × D × Int × Unit) × Unit)) =>
bif t125v29 then (
some (.tup [(.agg [(.int .i64 b3v29_0), (.int .i64 b3v29_1)]), (.int .i64 t12v29), (.int .i64 t13v29)])) else (
bif (eqZ b1v29_1 b2v29_1) then (
bif (ltZ 0 b1v29_1) then (
some (.tup [(.agg [(.int .i64 b3v29_0), (.int .i64 b3v29_1)]), (.int .i64 t12v29), (.int .i64 t11v29)])) else (
some (.tup [(.agg [(.int .i64 b3v29_0), (.int .i64 b3v29_1)]), (.int .i64 t12v29), (.int .i64 t10v29)]))) else (
some (.tup [(.agg [(.int .i64 b3v29_0), (.int .i64 b3v29_1)]), (.int .i64 t12v29), (.int .i64 t10v29)]))))))))))
theorem S24_eq (lp : Lp) (cl : CL) (a0_0 : D) (a0_1 : D) (a0_2 : Int) (a1 : Int) (a2_0 : Int) (a2_1 : Int) (a2_2 : Int) (a2_3 : Int) (a2_4 : Int) (a3_0 : Int) (a3_1 : Int) (a3_2 : Int) (a3_3 : Int) (a3_4 : Int) : runS lp Tryz.prog TryzG cl 24 [(.agg [(.fz a0_0), (.fz a0_1), (.int .i64 a0_2)]), (.int .i64 a1), (.agg [(.int .i64 a2_0), (.int .i64 a2_1), (.int .i64 a2_2), (.int .i64 a2_3), (.int .i64 a2_4)]), (.agg [(.int .i64 a3_0), (.int .i64 a3_1), (.int .i64 a3_2), (.int .i64 a3_3), (.int .i64 a3_4)])] = S24 lp cl a0_0 a0_1 a0_2 a1 a2_0 a2_1 a2_2 a2_3 a2_4 a3_0 a3_1 a3_2 a3_3 a3_4 := by kernel_rfl
def S24_w (lp : Lp) (cl : CL) (args : List D) : Option D := bd (Sh.gds [(.agg [.fz, .fz, (.int .i64)]), (.int .i64), (.agg [(.int .i64), (.int .i64), (.int .i64), (.int .i64), (.int .i64)]), (.agg [(.int .i64), (.int .i64), (.int .i64), (.int .i64), (.int .i64)])] args) fun v => S24 lp cl v.1.1 v.1.2.1 v.1.2.2.1 v.2.1 v.2.2.1.1 v.2.2.1.2.1 v.2.2.1.2.2.1 v.2.2.1.2.2.2.1 v.2.2.1.2.2.2.2.1 v.2.2.2.1.1 v.2.2.2.1.2.1 v.2.2.2.1.2.2.1 v.2.2.2.1.2.2.2.1 v.2.2.2.1.2.2.2.2.1
theorem S24_t : TabE TryzE 24 S24_w := tab_of (by kernel_rfl) fun lp cl v => S24_eq lp cl v.1.1 v.1.2.1 v.1.2.2.1 v.2.1 v.2.2.1.1 v.2.2.1.2.1 v.2.2.1.2.2.1 v.2.2.1.2.2.2.1 v.2.2.1.2.2.2.2.1 v.2.2.2.1.1 v.2.2.2.1.2.1 v.2.2.2.1.2.2.1 v.2.2.2.1.2.2.2.1 v.2.2.2.1.2.2.2.2.1

/- 32 invigilator/invigilatorref27.join -/
def S32 (lp : Lp) (cl : CL) (a0_0 : D) (a0_1 : D) (a1 : D) : Option D :=
clT q7 (cl 36 [(.agg [a0_0, a0_1])]) fun (v1 : (Int × Int × Unit)) =>
lp.run (fun (((t1v2, _, t5v2, t7v2, _), ((b0v2_0, b0v2_1, _), _)) : (D × Unit × Int × Int × Unit) × ((D × D × Unit) × Unit)) =>
bd (lenD false t1v2) fun v3 =>
bif (ltZ t7v2 (v3 : Int)) then (
ixT q4 1 t1v2 (.int .i64 t7v2) none fun (v6 : Int) =>
clT q7 (cl 33 [(.agg [b0v2_0, b0v2_1]), (.int .i64 t5v2), (.int .i64 v6)]) fun (v8 : (Int × Int × Unit)) =>
some (.inl ((t1v2, (), v8.1, (wrapD .i64 (t7v2 + 1)), ()), ((b0v2_0, b0v2_1, ()), ())))) else (
rt (
some (.int .i64 t5v2)))) ((a1, (), v1.1, (0 : Int), ()), ((a0_0, a0_1, ()), ()))
theorem S32_eq (lp : Lp) (cl : CL) (a0_0 : D) (a0_1 : D) (a1 : D) : runS lp Tryz.prog TryzG cl 32 [(.agg [(.fz a0_0), (.fz a0_1)]), (.fz a1)] = S32 lp cl a0_0 a0_1 a1 := by kernel_rfl
def S32_w (lp : Lp) (cl : CL) (args : List D) : Option D := bd (Sh.gds [(.agg [.fz, .fz]), .fz] args) fun v => S32 lp cl v.1.1 v.1.2.1 v.2.1
theorem S32_t : TabE TryzE 32 S32_w := tab_of (by kernel_rfl) fun lp cl v => S32_eq lp cl v.1.1 v.1.2.1 v.2.1

/- 47 invigilator/lattice.bound[invigilator/lattice.ups] -/
def S47 (lp : Lp) (cl : CL) (a0_0 : Int) (a0_1 : Int) (a0_2 : Int) (a0_3 : Int) (a0_4 : Int) (a0_5 : Int) (a0_6 : Int) (a0_7 : Int) (a1 : Int) (a2 : Int) (a3 : Int) : Option D :=
bd (idxD 8 (.int .i64 a2)) fun v0 =>
tkT q13 [(.int .u8 a0_0), (.int .u8 a0_1), (.int .u8 a0_2), (.int .u8 a0_3), (.int .u8 a0_4), (.int .u8 a0_5), (.int .u8 a0_6), (.int .u8 a0_7)] (0 + v0 * 1) none fun (v2 : Int) =>
bd (idxD 8 (.int .i64 a3)) fun v3 =>
tkT q13 [(.int .u8 a0_0), (.int .u8 a0_1), (.int .u8 a0_2), (.int .u8 a0_3), (.int .u8 a0_4), (.int .u8 a0_5), (.int .u8 a0_6), (.int .u8 a0_7)] (0 + v3 * 1) none fun (v5 : Int) =>
lp.run (fun (((_, t9v6, t18v6, t19v6, _), (b0v6, _)) : (Unit × Int × Int × Int × Unit) × (List D × Unit)) =>
bif (ltZ t19v6 t18v6) then (
bd (shrD .u8 t9v6 t19v6) fun v7 =>
bif (eqZ (andZ .u8 v7 1) 1) then (
bd (idxD 8 (.int .i64 t19v6)) fun v8 =>
tkT q13 b0v6 (0 + v8 * 1) none fun (v10 : Int) =>
bif (eqZ v10 t9v6) then (
rt (
some (.int .i64 t19v6))) else (
some (.inl (((), t9v6, t18v6, (wrapD .i64 (t19v6 + 1)), ()), (b0v6, ()))))) else (
some (.inl (((), t9v6, t18v6, (wrapD .i64 (t19v6 + 1)), ()), (b0v6, ()))))) else (
rt (
some (.int .i64 (-1))))) (((), (andZ .u8 v2 v5), a1, (0 : Int), ()), ([(.int .u8 a0_0), (.int .u8 a0_1), (.int .u8 a0_2), (.int .u8 a0_3), (.int .u8 a0_4), (.int .u8 a0_5), (.int .u8 a0_6), (.int .u8 a0_7)], ()))
theorem S47_eq (lp : Lp) (cl : CL) (a0_0 : Int) (a0_1 : Int) (a0_2 : Int) (a0_3 : Int) (a0_4 : Int) (a0_5 : Int) (a0_6 : Int) (a0_7 : Int) (a1 : Int) (a2 : Int) (a3 : Int) : runS lp Tryz.prog TryzG cl 47 [(.agg [(.int .u8 a0_0), (.int .u8 a0_1), (.int .u8 a0_2), (.int .u8 a0_3), (.int .u8 a0_4), (.int .u8 a0_5), (.int .u8 a0_6), (.int .u8 a0_7)]), (.int .i64 a1), (.int .i64 a2), (.int .i64 a3)] = S47 lp cl a0_0 a0_1 a0_2 a0_3 a0_4 a0_5 a0_6 a0_7 a1 a2 a3 := by kernel_rfl
def S47_w (lp : Lp) (cl : CL) (args : List D) : Option D := bd (Sh.gds [(.agg [(.int .u8), (.int .u8), (.int .u8), (.int .u8), (.int .u8), (.int .u8), (.int .u8), (.int .u8)]), (.int .i64), (.int .i64), (.int .i64)] args) fun v => S47 lp cl v.1.1 v.1.2.1 v.1.2.2.1 v.1.2.2.2.1 v.1.2.2.2.2.1 v.1.2.2.2.2.2.1 v.1.2.2.2.2.2.2.1 v.1.2.2.2.2.2.2.2.1 v.2.1 v.2.2.1 v.2.2.2.1
theorem S47_t : TabE TryzE 47 S47_w := tab_of (by kernel_rfl) fun lp cl v => S47_eq lp cl v.1.1 v.1.2.1 v.1.2.2.1 v.1.2.2.2.1 v.1.2.2.2.2.1 v.1.2.2.2.2.2.1 v.1.2.2.2.2.2.2.1 v.1.2.2.2.2.2.2.2.1 v.2.1 v.2.2.1 v.2.2.2.1

/- 49 invigilator/prims.find -/
def S49 (lp : Lp) (cl : CL) (a0 : Int) : Option D :=
bif (ltZ a0 1) then (
some (.tup [(.agg [(.str []), .nils, .nils, .nilfn, .nilfn]), (.int .i64 2)])) else (
bif (ltZ 40 a0) then (
some (.tup [(.agg [(.str []), .nils, .nils, .nilfn, .nilfn]), (.int .i64 2)])) else (
clT q19 (cl 73 []) fun (v1 : D) =>
ixT q21 5 v1 (.int .i64 a0) (some 5) fun (v4 : (List UInt8 × D × D × D × D × Unit)) =>
some (.tup [(.agg [(.str v4.1), v4.2.1, v4.2.2.1, v4.2.2.2.1, v4.2.2.2.2.1]), (.int .i64 0)])))
theorem S49_eq (lp : Lp) (cl : CL) (a0 : Int) : runS lp Tryz.prog TryzG cl 49 [(.int .i64 a0)] = S49 lp cl a0 := by kernel_rfl
def S49_w (lp : Lp) (cl : CL) (args : List D) : Option D := bd (Sh.gds [(.int .i64)] args) fun v => S49 lp cl v.1
theorem S49_t : TabE TryzE 49 S49_w := tab_of (by kernel_rfl) fun lp cl v => S49_eq lp cl v.1

/- 56 (invigilator/taint.rules).extended -/
def S56 (lp : Lp) (cl : CL) (a0_0 : D) (a0_1 : D) (a0_2 : Int) (a1_0 : Int) (a1_1 : Int) (a1_2 : Int) (a1_3 : Int) (a1_4 : Int) (a2_0 : Int) (a2_1 : Int) (a2_2 : Int) (a2_3 : Int) (a2_4 : Int) : Option D :=
bif (ltZ a2_1 a1_1) then (
clT q18 (cl 54 [(.agg [a0_0, a0_1, (.int .i64 a0_2)]), (.agg [(.int .i64 a1_0), (.int .i64 a1_1), (.int .i64 a1_2), (.int .i64 a1_3), (.int .i64 a1_4)])]) fun (v1 : (Int × Int × Unit)) =>
some (.agg [(.int .i64 v1.1), (.int .i64 v1.2.1)])) else (
bif (ltZ a1_1 a2_1) then (
clT q18 (cl 54 [(.agg [a0_0, a0_1, (.int .i64 a0_2)]), (.agg [(.int .i64 a2_0), (.int .i64 a2_1), (.int .i64 a2_2), (.int .i64 a2_3), (.int .i64 a2_4)])]) fun (v3 : (Int × Int × Unit)) =>
some (.agg [(.int .i64 v3.1), (.int .i64 v3.2.1)])) else (
clT q18 (cl 54 [(.agg [a0_0, a0_1, (.int .i64 a0_2)]), (.agg [(.int .i64 a1_0), (.int .i64 a1_1), (.int .i64 a1_2), (.int .i64 a1_3), (.int .i64 a1_4)])]) fun (v5 : (Int × Int × Unit)) =>
clT q18 (cl 54 [(.agg [a0_0, a0_1, (.int .i64 a0_2)]), (.agg [(.int .i64 a2_0), (.int .i64 a2_1), (.int .i64 a2_2), (.int .i64 a2_3), (.int .i64 a2_4)])]) fun (v7 : (Int × Int × Unit)) =>
clT q4 (cl 25 [(.agg [a0_0, a0_1, (.int .i64 a0_2)]), (.sl true 2 [(.int .i64 v5.1), (.int .i64 v7.1)])]) fun (v9 : Int) =>
clT q4 (cl 25 [(.agg [a0_0, a0_1, (.int .i64 a0_2)]), (.sl true 2 [(.int .i64 v5.2.1), (.int .i64 v7.2.1)])]) fun (v11 : Int) =>
some (.agg [(.int .i64 v9), (.int .i64 v11)])))
theorem S56_eq (lp : Lp) (cl : CL) (a0_0 : D) (a0_1 : D) (a0_2 : Int) (a1_0 : Int) (a1_1 : Int) (a1_2 : Int) (a1_3 : Int) (a1_4 : Int) (a2_0 : Int) (a2_1 : Int) (a2_2 : Int) (a2_3 : Int) (a2_4 : Int) : runS lp Tryz.prog TryzG cl 56 [(.agg [(.fz a0_0), (.fz a0_1), (.int .i64 a0_2)]), (.agg [(.int .i64 a1_0), (.int .i64 a1_1), (.int .i64 a1_2), (.int .i64 a1_3), (.int .i64 a1_4)]), (.agg [(.int .i64 a2_0), (.int .i64 a2_1), (.int .i64 a2_2), (.int .i64 a2_3), (.int .i64 a2_4)])] = S56 lp cl a0_0 a0_1 a0_2 a1_0 a1_1 a1_2 a1_3 a1_4 a2_0 a2_1 a2_2 a2_3 a2_4 := by kernel_rfl
def S56_w (lp : Lp) (cl : CL) (args : List D) : Option D := bd (Sh.gds [(.agg [.fz, .fz, (.int .i64)]), (.agg [(.int .i64), (.int .i64), (.int .i64), (.int .i64), (.int .i64)]), (.agg [(.int .i64), (.int .i64), (.int .i64), (.int .i64), (.int .i64)])] args) fun v => S56 lp cl v.1.1 v.1.2.1 v.1.2.2.1 v.2.1.1 v.2.1.2.1 v.2.1.2.2.1 v.2.1.2.2.2.1 v.2.1.2.2.2.2.1 v.2.2.1.1 v.2.2.1.2.1 v.2.2.1.2.2.1 v.2.2.1.2.2.2.1 v.2.2.1.2.2.2.2.1
theorem S56_t : TabE TryzE 56 S56_w := tab_of (by kernel_rfl) fun lp cl v => S56_eq lp cl v.1.1 v.1.2.1 v.1.2.2.1 v.2.1.1 v.2.1.2.1 v.2.1.2.2.1 v.2.1.2.2.2.1 v.2.1.2.2.2.2.1 v.2.2.1.1 v.2.2.1.2.1 v.2.2.1.2.2.1 v.2.2.1.2.2.2.1 v.2.2.1.2.2.2.2.1

/- 60 invigilator/invigilatorref03.downs -/
def S60 (lp : Lp) (cl : CL) (a0_0 : D) (a0_1 : D) : Option D :=
bd (lenD false a0_0) fun v0 =>
bd (mkN 1 (v0 : Int) (v0 : Int)) fun v1 =>
lp.run (fun (((_, (t3v2_l, t3v2_c), t4v2, _), (b1003v2, (b0v2_0, b0v2_1, _), _)) : (Unit × (Nat × Nat) × Int × Unit) × (List D × (D × D × Unit) × Unit)) =>
bd (lenD false b0v2_0) fun v3 =>
bif (ltZ t4v2 (v3 : Int)) then (
lp.run (fun (((_, (t3v4_l, t3v4_c), t4v4, t5v4, _), (b1003v4, (b0v4_0, b0v4_1, _), _)) : (Unit × (Nat × Nat) × Int × Int × Unit) × (List D × (D × D × Unit) × Unit)) =>
bd (lenD false b0v4_0) fun v5 =>
bif (ltZ t5v4 (v5 : Int)) then (
clT q0 (cl 37 [(.agg [b0v4_0, b0v4_1]), (.int .i64 t4v4), (.int .i64 t5v4)]) fun (v7 : Bool) =>
bif v7 then (
bd (idxD t3v4_l (.int .i64 t5v4)) fun v8 =>
tkT q13 b1003v4 (0 + v8 * 1) none fun (v10 : Int) =>
bd (shlD .u8 1 t4v4) fun v11 =>
bd (idxD t3v4_l (.int .i64 t5v4)) fun v12 =>
bd (inR (0 + v12 * 1) 1 (List.length b1003v4)) fun _ =>
some (.inl (((), (t3v4_l, t3v4_c), t4v4, (wrapD .i64 (t5v4 + 1)), ()), ((setQ b1003v4 (0 + v12 * 1) [(.int .u8 (orZ .u8 v10 v11))]), (b0v4_0, b0v4_1, ()), ())))) else (
some (.inl (((), (t3v4_l, t3v4_c), t4v4, (wrapD .i64 (t5v4 + 1)), ()), (b1003v4, (b0v4_0, b0v4_1, ()), ()))))) else (
rt (
some (.inl (((), (t3v4_l, t3v4_c), (wrapD .i64 (t4v4 + 1)), ()), (b1003v4, (b0v4_0, b0v4_1, ()), ())))))) (((), (t3v2_l, t3v2_c), t4v2, (0 : Int), ()), (b1003v2, (b0v2_0, b0v2_1, ()), ()))) else (
rt (
bd (frSl (Nat.beq t3v2_c t3v2_l) 0 1 t3v2_l b1003v2) fun v13 =>
some v13))) (((), (v1.1, v1.2), (0 : Int), ()), ((rep v1.2 [(.int .u8 0)]), (a0_0, a0_1, ()), ()))
theorem S60_eq (lp : Lp) (cl : CL) (a0_0 : D) (a0_1 : D) : runS lp Tryz.prog TryzG cl 60 [(.agg [(.fz a0_0), (.fz a0_1)])] = S60 lp cl a0_0 a0_1 := by kernel_rfl
def S60_w (lp : Lp) (cl : CL) (args : List D) : Option D := bd (Sh.gds [(.agg [.fz, .fz])] args) fun v => S60 lp cl v.1.1 v.1.2.1
theorem S60_t : TabE TryzE 60 S60_w := tab_of (by kernel_rfl) fun lp cl v => S60_eq lp cl v.1.1 v.1.2.1

/- 70 invigilator/invigilatorref12.ints -/
def S70 (lp : Lp) (cl : CL) (a0 : Int) : Option D :=
bj (α := (Int × Bool × Unit) × (Unit)) (
bif (eqZ a0 4) then (
some (.inl ((a0, (eqZ a0 4), ()), (())))) else (
bif (eqZ a0 5) then (
some (.inl ((a0, (eqZ a0 5), ()), (())))) else (
bif (eqZ a0 6) then (
some (.inl ((a0, (eqZ a0 6), ()), (())))) else (
bif (eqZ a0 7) then (
some (.inl ((a0, (eqZ a0 7), ()), (())))) else (
bif (eqZ a0 12) then (
some (.inl ((a0, (eqZ a0 12), ()), (())))) else (
bif (eqZ a0 23) then (
some (.inl ((a0, (eqZ a0 23), ()), (())))) else (
bif (eqZ a0 24) then (
some (.inl ((a0, (eqZ a0 24), ()), (())))) else (
bif (eqZ a0 37) then (
some (.inl ((a0, (eqZ a0 37), ()), (())))) else (
some (.inl ((a0, (eqZ a0 39), ()), (())))))))))))) fun (((t4v0, t5v0, _), (_)) : (Int × Bool × Unit) × (Unit)) =>
bif t5v0 then (
some (.tup [(.bool false), (.bool false)])) else (
bj (α := (Int × Bool × Unit) × (Unit)) (
bif (eqZ t4v0 33) then (
some (.inl ((t4v0, (eqZ t4v0 33), ()), (())))) else (
bif (eqZ t4v0 34) then (
some (.inl ((t4v0, (eqZ t4v0 34), ()), (())))) else (
bif (eqZ t4v0 35) then (
some (.inl ((t4v0, (eqZ t4v0 35), ()), (())))) else (
bif (eqZ t4v0 36) then (
some (.inl ((t4v0, (eqZ t4v0 36), ()), (())))) else (
some (.inl ((t4v0, (eqZ t4v0 40), ()), (())))))))) fun (((t4v1, t15v1, _), (_)) : (Int × Bool × Unit) × (Unit)) =>
bif t15v1 then (
some (.tup [(.bool true), (.bool false)])) else (
bif (eqZ t4v1 38) then (
some (.tup [(.bool false), (.bool true)])) else (
some (.tup [(.bool true), (.bool true)]))))
theorem S70_eq (lp : Lp) (cl : CL) (a0 : Int) : runS lp Tryz.prog TryzG cl 70 [(.int .i64 a0)] = S70 lp cl a0 := by kernel_rfl
def S70_w (lp : Lp) (cl : CL) (args : List D) : Option D := bd (Sh.gds [(.int .i64)] args) fun v => S70 lp cl v.1
theorem S70_t : TabE TryzE 70 S70_w := tab_of (by kernel_rfl) fun lp cl v => S70_eq lp cl v.1

/- 83 slices.Index[[]string,string] -/
def S83 (lp : Lp) (cl : CL) (a0 : D) (a1 : List UInt8) : Option D :=
bd (lenD false a0) fun v0 =>
lp.run (fun (((t0v1, t1v1, t7v1, t8v1, _), (_)) : (D × List UInt8 × Int × Int × Unit) × (Unit)) =>
bif (ltZ t8v1 t7v1) then (
ixT q12 1 t0v1 (.int .i64 t8v1) none fun (v4 : List UInt8) =>
bif (eqS t1v1 v4) then (
rt (
some (.int .i64 t8v1))) else (
some (.inl ((t0v1, t1v1, t7v1, (wrapD .i64 (t8v1 + 1)), ()), (()))))) else (
rt (
some (.int .i64 (-1))))) ((a0, a1, (v0 : Int), (0 : Int), ()), (()))
theorem S83_eq (lp : Lp) (cl : CL) (a0 : D) (a1 : List UInt8) : runS lp Tryz.prog TryzG cl 83 [(.fz a0), (.str a1)] = S83 lp cl a0 a1 := by kernel_rfl
def S83_w (lp : Lp) (cl : CL) (args : List D) : Option D := bd (Sh.gds [.fz, .str] args) fun v => S83 lp cl v.1 v.2.1
theorem S83_t : TabE TryzE 83 S83_w := tab_of (by kernel_rfl) fun lp cl v => S83_eq lp cl v.1 v.2.1

/- 105 math/bits.OnesCount8 -/
def S105 (lp : Lp) (cl : CL) (a0 : Int) : Option D :=
bd (ixStr [0, 1, 1, 2, 1, 2, 2, 3, 1, 2, 2, 3, 2, 3, 3, 4, 1, 2, 2, 3, 2, 3, 3, 4, 2, 3, 3, 4, 3, 4, 4, 5, 1, 2, 2, 3, 2, 3, 3, 4, 2, 3, 3, 4, 3, 4, 4, 5, 2, 3, 3, 4, 3, 4, 4, 5, 3, 4, 4, 5, 4, 5, 5, 6, 1, 2, 2, 3, 2, 3, 3, 4, 2, 3, 3, 4, 3, 4, 4, 5, 2, 3, 3, 4, 3, 4, 4, 5, 3, 4, 4, 5, 4, 5, 5, 6, 2, 3, 3, 4, 3, 4, 4, 5, 3, 4, 4, 5, 4, 5, 5, 6, 3, 4, 4, 5, 4, 5, 5, 6, 4, 5, 5, 6, 5, 6, 6, 7, 1, 2, 2, 3, 2, 3, 3, 4, 2, 3, 3, 4, 3, 4, 4, 5, 2, 3, 3, 4, 3, 4, 4, 5, 3, 4, 4, 5, 4, 5, 5, 6, 2, 3, 3, 4, 3, 4, 4, 5, 3, 4, 4, 5, 4, 5, 5, 6, 3, 4, 4, 5, 4, 5, 5, 6, 4, 5, 5, 6, 5, 6, 6, 7, 2, 3, 3, 4, 3, 4, 4, 5, 3, 4, 4, 5, 4, 5, 5, 6, 3, 4, 4, 5, 4, 5, 5, 6, 4, 5, 5, 6, 5, 6, 6, 7, 3, 4, 4, 5, 4, 5, 5, 6, 4, 5, 5, 6, 5, 6, 6, 7, 4, 5, 5, 6, 5, 6, 6, 7, 5, 6, 6, 7, 6, 7, 7, 8] (.int .u8 a0)) fun v0 =>
some (.int .i64 (wrapD .i64 v0))
theorem S105_eq (lp : Lp) (cl : CL) (a0 : Int) : runS lp Tryz.prog TryzG cl 105 [(.int .u8 a0)] = S105 lp cl a0 := by kernel_rfl
def S105_w (lp : Lp) (cl : CL) (args : List D) : Option D := bd (Sh.gds [(.int .u8)] args) fun v => S105 lp cl v.1
theorem S105_t : TabE TryzE 105 S105_w := tab_of (by kernel_rfl) fun lp cl v => S105_eq lp cl v.1

/- 113 strings.trimRightASCII -/
def S113 (lp : Lp) (cl : CL) (a0 : List UInt8) (a1 : D) : Option D :=
lp.run (fun (((t0v0, t1v0, _), (_)) : (List UInt8 × D × Unit) × (Unit)) =>
bif (ltZ 0 (List.length t0v0 : Int)) then (
bd (ixStr t0v0 (.int .i64 (wrapD .i64 ((List.length t0v0 : Int) - 1)))) fun v1 =>
clT q0 (cl 142 [t1v0, (.int .u8 v1)]) fun (v3 : Bool) =>
bif (!v3) then (
rt (
some (.str t0v0))) else (
bd (slStr t0v0 none (some (.int .i64 (wrapD .i64 ((List.length t0v0 : Int) - 1))))) fun v4 =>
some (.inl ((v4, t1v0, ()), (()))))) else (
rt (
some (.str t0v0)))) ((a0, a1, ()), (()))
theorem S113_eq (lp : Lp) (cl : CL) (a0 : List UInt8) (a1 : D) : runS lp Tryz.prog TryzG cl 113 [(.str a0), (.fz a1)] = S113 lp cl a0 a1 := by kernel_rfl
def S113_w (lp : Lp) (cl : CL) (args : List D) : Option D := bd (Sh.gds [.str, .fz] args) fun v => S113 lp cl v.1 v.2.1
theorem S113_t : TabE TryzE 113 S113_w := tab_of (by kernel_rfl) fun lp cl v => S113_eq lp cl v.1 v.2.1

/- 115 strings.trimRightUnicode -/
def S115 (lp : Lp) (cl : CL) (a0 : List UInt8) (a1 : List UInt8) : Option D :=
lp.run (fun (((t0v0, t1v0, _), (_)) : (List UInt8 × List UInt8 × Unit) × (Unit)) =>
bif (ltZ 0 (List.length t0v0 : Int)) then (
bd (ixStr t0v0 (.int .i64 (wrapD .i64 ((List.length t0v0 : Int) - 1)))) fun v1 =>
bj (α := (List UInt8 × List UInt8 × Int × Int × Unit) × (Unit)) (
bif (leZ 128 (wrapD .i32 v1)) then (
clT q28 (cl 145 [(.str t0v0)]) fun (v4 : (Int × Int × Unit)) =>
some (.inl ((t0v0, t1v0, v4.1, v4.2.1, ()), (())))) else (
some (.inl ((t0v0, t1v0, (wrapD .i32 v1), (1 : Int), ()), (()))))) fun (((t0v2, t1v2, t5v2, t6v2, _), (_)) : (List UInt8 × List UInt8 × Int × Int × Unit) × (Unit)) =>
clT q0 (cl 144 [(.str t1v2), (.int .i32 t5v2)]) fun (v6 : Bool) =>
bif (!v6) then (
rt (
some (.str t0v2))) else (
bd (slStr t0v2 none (some (.int .i64 (wrapD .i64 ((List.length t0v2 : Int) - t6v2))))) fun v7 =>
some (.inl ((v7, t1v2, ()), (()))))) else (
rt (
some (.str t0v0)))) ((a0, a1, ()), (()))
theorem S115_eq (lp : Lp) (cl : CL) (a0 : List UInt8) (a1 : List UInt8) : runS lp Tryz.prog TryzG cl 115 [(.str a0), (.str a1)] = S115 lp cl a0 a1 := by kernel_rfl
def S115_w (lp : Lp) (cl : CL) (args : List D) : Option D := bd (Sh.gds [.str, .str] args) fun v => S115 lp cl v.1 v.2.1
theorem S115_t : TabE TryzE 115 S115_w := tab_of (by kernel_rfl) fun lp cl v => S115_eq lp cl v.1 v.2.1

/- 142 (*strings.asciiSet).contains -/
def S142 (lp : Lp) (cl : CL) (a0 : D) (a1 : Int) : Option D :=
bd (ptF a0) fun v0 =>
bd (idxD 256 (.int .u8 a1)) fun v1 =>
tkT q0 v0.1 (v0.2 + v1 * 1) none fun (v3 : Bool) =>
some (.bool v3)
theorem S142_eq (lp : Lp) (cl : CL) (a0 : D) (a1 : Int) : runS lp Tryz.prog TryzG cl 142 [(.fz a0), (.int .u8 a1)] = S142 lp cl a0 a1 := by kernel_rfl
def S142_w (lp : Lp) (cl : CL) (args : List D) : Option D := bd (Sh.gds [.fz, (.int .u8)] args) fun v => S142 lp cl v.1 v.2.1
theorem S142_t : TabE TryzE 142 S142_w := tab_of (by kernel_rfl) fun lp cl v => S142_eq lp cl v.1 v.2.1

/- 143 unicode/utf8.DecodeRuneInString -/
def S143 (lp : Lp) (cl : CL) (a0 : List UInt8) : Option D :=
bj (α := (List UInt8 × Bool × Unit) × (Unit)) (
bif (!(eqS a0 [])) then (
bd (ixStr a0 (.int .i64 0)) fun v1 =>
some (.inl ((a0, (ltZ v1 128), ()), (())))) else (
some (.inl ((a0, false, ()), (()))))) fun (((t0v0, t10v0, _), (_)) : (List UInt8 × Bool × Unit) × (Unit)) =>
bif t10v0 then (
bd (ixStr t0v0 (.int .i64 0)) fun v2 =>
some (.tup [(.int .i32 (wrapD .i32 v2)), (.int .i64 1)])) else (
clT q28 (cl 156 [(.str t0v0)]) fun (v4 : (Int × Int × Unit)) =>
some (.tup [(.int .i32 v4.1), (.int .i64 v4.2.1)]))
theorem S143_eq (lp : Lp) (cl : CL) (a0 : List UInt8) : runS lp Tryz.prog TryzG cl 143 [(.str a0)] = S143 lp cl a0 := by kernel_rfl
def S143_w (lp : Lp) (cl : CL) (args : List D) : Option D := bd (Sh.gds [.str] args) fun v => S143 lp cl v.1
theorem S143_t : TabE TryzE 143 S143_w := tab_of (by kernel_rfl) fun lp cl v => S143_eq lp cl v.1

/- 158 unicode/utf8.RuneStart -/
def S158 (lp : Lp) (cl : CL) (a0 : Int) : Option D :=
some (.bool (!(eqZ (andZ .u8 a0 192) 128)))
theorem S158_eq (lp : Lp) (cl : CL) (a0 : Int) : runS lp Tryz.prog TryzG cl 158 [(.int .u8 a0)] = S158 lp cl a0 := by kernel_rfl
def S158_w (lp : Lp) (cl : CL) (args : List D) : Option D := bd (Sh.gds [(.int .u8)] args) fun v => S158 lp cl v.1
theorem S158_t : TabE TryzE 158 S158_w := tab_of (by kernel_rfl) fun lp cl v => S158_eq lp cl v.1

end Go.Proofs.YtblbgjfkbcdlfaaGreatDoor
