/- What the functions come to. -/
import Derived.Test.YtblbgjfkbcdlfaaGreatDoorSH
set_option linter.unusedVariables false
set_option maxRecDepth 100000
namespace Go.Proofs.YtblbgjfkbcdlfaaGreatDoor
open Go Iv
/- 3 invigilator/invigilatorlaw27.TaintPrims -/
def S3 (lp : Lp) (cl : CL) (a0_0 : D) (a0_1 : D) (a1 : Int) (a2 : D) : Option D :=
bj (α := (Int × D × Unit × Unit) × ((D × D × Unit) × Unit)) (
clT q0 (cl 6 [(.agg [a0_0, a0_1])]) fun (v2 : Bool) =>
bif v2 then (
clT q0 (cl 7 []) fun (v4 : Bool) =>
rt (
some (.bool v4))) else (
bd (lenD false a2) fun v5 =>
bif (ltZ 4 (v5 : Int)) then (
clT q0 (cl 7 []) fun (v7 : Bool) =>
rt (
some (.bool v7))) else (
some (.inl ((a1, a2, (), ()), ((a0_0, a0_1, ()), ())))))) fun (((t1v0, t2v0, _, _), ((b0v0_0, b0v0_1, _), _)) : (Int × D × Unit × Unit) × ((D × D × Unit) × Unit)) =>
clT q1 (cl 8 [(.agg [b0v0_0, b0v0_1]), (.int .i64 t1v0), t2v0]) fun (v9 : ((Int × Int × Int × Int × Int × Int × Int × Unit) × Int × Unit)) =>
clT q1 (cl 9 [(.agg [b0v0_0, b0v0_1]), (.int .i64 t1v0), t2v0]) fun (v11 : ((Int × Int × Int × Int × Int × Int × Int × Unit) × Int × Unit)) =>
bif (((eqZ v9.1.1 v11.1.1) && ((eqZ v9.1.2.1 v11.1.2.1) && (((eqZ v9.1.2.2.1 v11.1.2.2.1) && ((eqZ v9.1.2.2.2.1 v11.1.2.2.2.1) && true)) && ((eqZ v9.1.2.2.2.2.1 v11.1.2.2.2.2.1) && true)))) && ((eqZ v9.1.2.2.2.2.2.1 v11.1.2.2.2.2.2.1) && ((eqZ v9.1.2.2.2.2.2.2.1 v11.1.2.2.2.2.2.2.1) && true))) then (
bif (eqZ v9.2.1 v11.2.1) then (
clT q0 (cl 7 []) fun (v13 : Bool) =>
some (.bool v13)) else (
some (.bool false))) else (
some (.bool false))
theorem S3_eq (lp : Lp) (cl : CL) (a0_0 : D) (a0_1 : D) (a1 : Int) (a2 : D) : runS lp Tryz.prog TryzG cl 3 [(.agg [(.fz a0_0), (.fz a0_1)]), (.int .i64 a1), (.fz a2)] = S3 lp cl a0_0 a0_1 a1 a2 := by kernel_rfl
def S3_w (lp : Lp) (cl : CL) (args : List D) : Option D := bd (Sh.gds [(.agg [.fz, .fz]), (.int .i64), .fz] args) fun v => S3 lp cl v.1.1 v.1.2.1 v.2.1 v.2.2.1
theorem S3_t : TabE TryzE 3 S3_w := tab_of (by kernel_rfl) fun lp cl v => S3_eq lp cl v.1.1 v.1.2.1 v.2.1 v.2.2.1

/- 6 invigilator/invigilatorlaw27.far -/
def S6 (lp : Lp) (cl : CL) (a0_0 : D) (a0_1 : D) : Option D :=
clT q0 (cl 16 [(.agg [a0_0, a0_1, .nils, .nils, .nils])]) fun (v1 : Bool) =>
some (.bool v1)
theorem S6_eq (lp : Lp) (cl : CL) (a0_0 : D) (a0_1 : D) : runS lp Tryz.prog TryzG cl 6 [(.agg [(.fz a0_0), (.fz a0_1)])] = S6 lp cl a0_0 a0_1 := by kernel_rfl
def S6_w (lp : Lp) (cl : CL) (args : List D) : Option D := bd (Sh.gds [(.agg [.fz, .fz])] args) fun v => S6 lp cl v.1.1 v.1.2.1
theorem S6_t : TabE TryzE 6 S6_w := tab_of (by kernel_rfl) fun lp cl v => S6_eq lp cl v.1.1 v.1.2.1

/- 8 invigilator/taint.Prim -/
def S8 (lp : Lp) (cl : CL) (a0_0 : D) (a0_1 : D) (a1 : Int) (a2 : D) : Option D :=
clT q7 (cl 19 [(.agg [a0_0, a0_1])]) fun (v1 : (Int × Int × Unit)) =>
bif (!(eqZ v1.2.1 0)) then (
some (.tup [(.agg [(.int .i64 0), (.int .i64 0), (.int .i64 0), (.int .i64 0), (.int .i64 0), (.int .i64 0), (.int .i64 0)]), (.int .i64 v1.2.1)])) else (
bd (lenD false a2) fun v2 =>
lp.run (fun (((t1v3, t2v3, _, _, t10v3, t11v3, t32v3, t33v3, t34v3, _), (b900011v3, b900010v3, b1v3, (b0v3_0, b0v3_1, _), _)) : (Int × D × Unit × Unit × Nat × Nat × D × Int × Int × Unit) × (List D × List D × List D × (D × D × Unit) × Unit)) =>
bif (ltZ t34v3 t33v3) then (
ixT q2 5 t32v3 (.int .i64 t34v3) (some 5) fun (v6 : (Int × Int × Int × Int × Int × Unit)) =>
bd (apG true (t10v3 * 1) (List.length b900010v3) (t10v3 + 1) 8) fun _ =>
bd (apG true (t11v3 * 1) (List.length b900011v3) (t11v3 + 1) 8) fun _ =>
some (.inl ((t1v3, t2v3, (), (), (t10v3 + 1), (t11v3 + 1), t32v3, t33v3, (wrapD .i64 (t34v3 + 1)), ()), ((b900011v3 ++ [(.int .i64 v6.2.1)]), (b900010v3 ++ [(.int .i64 v6.1)]), b1v3, (b0v3_0, b0v3_1, ()), ())))) else (
rt (
bd (frSl false 0 1 t10v3 b900010v3) fun v7 =>
bd (frSl false 0 1 t11v3 b900011v3) fun v8 =>
clT q5 (cl 20 [(.int .i64 t1v3), v7, v8]) fun (v10 : (Int × Int × Int × Unit)) =>
bif (!(eqZ v10.2.2.1 0)) then (
bd (inR 0 7 (List.length b1v3)) fun _ =>
bd (takeAt (setQ b1v3 0 [(.int .i64 0), (.int .i64 0), (.int .i64 0), (.int .i64 0), (.int .i64 0), (.int .i64 0), (.int .i64 0)]) 0 (some 7)) fun v11 =>
some (.tup [v11, (.int .i64 v10.2.2.1)])) else (
bd (lenD false t2v3) fun v12 =>
lp.run (fun (((t1v13, t2v13, _, _, t14v13, t15v13, t61v13, t62v13, t63v13, _), (b1v13, (b0v13_0, b0v13_1, _), _)) : (Int × D × Unit × Unit × Int × Int × D × Int × Int × Unit) × (List D × (D × D × Unit) × Unit)) =>
bif (ltZ t63v13 t62v13) then (
ixT q2 5 t61v13 (.int .i64 t63v13) (some 5) fun (v16 : (Int × Int × Int × Int × Int × Unit)) =>
clT q0 (cl 21 [(.agg [b0v13_0, b0v13_1]), (.agg [(.int .i64 v16.1), (.int .i64 v16.2.1), (.int .i64 v16.2.2.1), (.int .i64 v16.2.2.2.1), (.int .i64 v16.2.2.2.2.1)])]) fun (v18 : Bool) =>
bif (!v18) then (
bd (inR 0 7 (List.length b1v13)) fun _ =>
rt (
bd (takeAt (setQ b1v13 0 [(.int .i64 0), (.int .i64 0), (.int .i64 0), (.int .i64 0), (.int .i64 0), (.int .i64 0), (.int .i64 0)]) 0 (some 7)) fun v19 =>
some (.tup [v19, (.int .i64 7)]))) else (
some (.inl ((t1v13, t2v13, (), (), t14v13, t15v13, t61v13, t62v13, (wrapD .i64 (t63v13 + 1)), ()), (b1v13, (b0v13_0, b0v13_1, ()), ()))))) else (
rt (
clT q8 (cl 22 [(.agg [b0v13_0, b0v13_1])]) fun (v21 : (D × D × Int × Unit)) =>
bj (α := (Int × D × Unit × Unit × Unit × Unit) × (List D × (D × D × Int × Unit) × List D × (D × D × Unit) × Unit)) (
bd (lenD false t2v13) fun v23 =>
bif (eqZ (v23 : Int) 1) then (
ixT q2 5 t2v13 (.int .i64 0) (some 5) fun (v26 : (Int × Int × Int × Int × Int × Unit)) =>
clT q9 (cl 23 [(.agg [v21.1, v21.2.1, (.int .i64 v21.2.2.1)]), (.int .i64 t1v13), (.agg [(.int .i64 v26.1), (.int .i64 v26.2.1), (.int .i64 v26.2.2.1), (.int .i64 v26.2.2.2.1), (.int .i64 v26.2.2.2.2.1)])]) fun (v28 : ((Int × Int × Unit) × Int × Int × Unit)) =>
some (.inl ((t1v13, t2v13, (), (), (), ()), ([(.int .i64 t14v13), (.int .i64 t15v13), (.int .i64 v28.1.1), (.int .i64 v28.1.2.1), (.int .i64 v28.2.1), (.int .i64 v28.2.2.1), (.int .i64 v21.2.2.1)], (v21.1, v21.2.1, v21.2.2.1, ()), b1v13, (b0v13_0, b0v13_1, ()), ())))) else (
ixT q2 5 t2v13 (.int .i64 0) (some 5) fun (v31 : (Int × Int × Int × Int × Int × Unit)) =>
ixT q2 5 t2v13 (.int .i64 1) (some 5) fun (v34 : (Int × Int × Int × Int × Int × Unit)) =>
clT q9 (cl 24 [(.agg [v21.1, v21.2.1, (.int .i64 v21.2.2.1)]), (.int .i64 t1v13), (.agg [(.int .i64 v31.1), (.int .i64 v31.2.1), (.int .i64 v31.2.2.1), (.int .i64 v31.2.2.2.1), (.int .i64 v31.2.2.2.2.1)]), (.agg [(.int .i64 v34.1), (.int .i64 v34.2.1), (.int .i64 v34.2.2.1), (.int .i64 v34.2.2.2.1), (.int .i64 v34.2.2.2.2.1)])]) fun (v36 : ((Int × Int × Unit) × Int × Int × Unit)) =>
some (.inl ((t1v13, t2v13, (), (), (), ()), ([(.int .i64 t14v13), (.int .i64 t15v13), (.int .i64 v36.1.1), (.int .i64 v36.1.2.1), (.int .i64 v36.2.1), (.int .i64 v36.2.2.1), (.int .i64 v21.2.2.1)], (v21.1, v21.2.1, v21.2.2.1, ()), b1v13, (b0v13_0, b0v13_1, ()), ()))))) fun (((t1v22, t2v22, _, _, _, _), (b20006v22, (b19002v22_0, b19002v22_1, b19002v22_2, _), b1v22, (b0v22_0, b0v22_1, _), _)) : (Int × D × Unit × Unit × Unit × Unit) × (List D × (D × D × Int × Unit) × List D × (D × D × Unit) × Unit)) =>
bd (lenD false t2v22) fun v37 =>
lp.run (fun (((t1v38, _, _, _, t117v38, t118v38, t119v38, _), (b20006v38, (b19002v38_0, b19002v38_1, b19002v38_2, _), b1v38, _)) : (Int × Unit × Unit × Unit × D × Int × Int × Unit) × (List D × (D × D × Int × Unit) × List D × Unit)) =>
bif (ltZ t119v38 t118v38) then (
ixT q2 5 t117v38 (.int .i64 t119v38) (some 5) fun (v41 : (Int × Int × Int × Int × Int × Unit)) =>
tkT q4 b20006v38 6 none fun (v43 : Int) =>
clT q4 (cl 26 [(.agg [b19002v38_0, b19002v38_1, (.int .i64 b19002v38_2)]), (.agg [(.int .i64 v41.1), (.int .i64 v41.2.1), (.int .i64 v41.2.2.1), (.int .i64 v41.2.2.2.1), (.int .i64 v41.2.2.2.2.1)])]) fun (v45 : Int) =>
clT q4 (cl 25 [(.agg [b19002v38_0, b19002v38_1, (.int .i64 b19002v38_2)]), (.sl true 2 [(.int .i64 v43), (.int .i64 v45)])]) fun (v47 : Int) =>
bd (inR 6 1 (List.length b20006v38)) fun _ =>
some (.inl ((t1v38, (), (), (), t117v38, t118v38, (wrapD .i64 (t119v38 + 1)), ()), ((setQ b20006v38 6 [(.int .i64 v47)]), (b19002v38_0, b19002v38_1, b19002v38_2, ()), b1v38, ())))) else (
rt (
bj (α := (Unit × Unit × Unit × Bool × Unit) × (List D × (D × D × Int × Unit) × List D × Unit)) (
bif (eqZ t1v38 8) then (
some (.inl (((), (), (), (eqZ t1v38 8), ()), (b20006v38, (b19002v38_0, b19002v38_1, b19002v38_2, ()), b1v38, ())))) else (
bif (eqZ t1v38 35) then (
some (.inl (((), (), (), (eqZ t1v38 35), ()), (b20006v38, (b19002v38_0, b19002v38_1, b19002v38_2, ()), b1v38, ())))) else (
some (.inl (((), (), (), (eqZ t1v38 36), ()), (b20006v38, (b19002v38_0, b19002v38_1, b19002v38_2, ()), b1v38, ())))))) fun (((_, _, _, t134v48, _), (b20006v48, (b19002v48_0, b19002v48_1, b19002v48_2, _), b1v48, _)) : (Unit × Unit × Unit × Bool × Unit) × (List D × (D × D × Int × Unit) × List D × Unit)) =>
bif t134v48 then (
tkT q4 b20006v48 6 none fun (v50 : Int) =>
tkT q2 b20006v48 0 (some 5) fun (v52 : (Int × Int × Int × Int × Int × Unit)) =>
clT q4 (cl 26 [(.agg [b19002v48_0, b19002v48_1, (.int .i64 b19002v48_2)]), (.agg [(.int .i64 v52.1), (.int .i64 v52.2.1), (.int .i64 v52.2.2.1), (.int .i64 v52.2.2.2.1), (.int .i64 v52.2.2.2.2.1)])]) fun (v54 : Int) =>
clT q4 (cl 25 [(.agg [b19002v48_0, b19002v48_1, (.int .i64 b19002v48_2)]), (.sl true 2 [(.int .i64 v50), (.int .i64 v54)])]) fun (v56 : Int) =>
bd (inR 6 1 (List.length b20006v48)) fun _ =>
tkT q10 (setQ b20006v48 6 [(.int .i64 v56)]) 0 (some 7) fun (v58 : (Int × Int × Int × Int × Int × Int × Int × Unit)) =>
bd (inR 0 7 (List.length b1v48)) fun _ =>
bd (takeAt (setQ b1v48 0 [(.int .i64 v58.1), (.int .i64 v58.2.1), (.int .i64 v58.2.2.1), (.int .i64 v58.2.2.2.1), (.int .i64 v58.2.2.2.2.1), (.int .i64 v58.2.2.2.2.2.1), (.int .i64 v58.2.2.2.2.2.2.1)]) 0 (some 7)) fun v59 =>
some (.tup [v59, (.int .i64 0)])) else (
tkT q10 b20006v48 0 (some 7) fun (v61 : (Int × Int × Int × Int × Int × Int × Int × Unit)) =>
bd (inR 0 7 (List.length b1v48)) fun _ =>
bd (takeAt (setQ b1v48 0 [(.int .i64 v61.1), (.int .i64 v61.2.1), (.int .i64 v61.2.2.1), (.int .i64 v61.2.2.2.1), (.int .i64 v61.2.2.2.2.1), (.int .i64 v61.2.2.2.2.2.1), (.int .i64 v61.2.2.2.2.2.2.1)]) 0 (some 7)) fun v62 =>
some (.tup [v62, (.int .i64 0)]))))) ((t1v22, (), (), (), t2v22, (v37 : Int), (0 : Int), ()), (b20006v22, (b19002v22_0, b19002v22_1, b19002v22_2, ()), b1v22, ()))))) ((t1v3, t2v3, (), (), v10.1, v10.2.1, t2v3, (v12 : Int), (0 : Int), ()), (b1v3, (b0v3_0, b0v3_1, ()), ())))))) ((a1, a2, (), (), 0, 0, a2, (v2 : Int), (0 : Int), ()), ([], [], [(.int .i64 0), (.int .i64 0), (.int .i64 0), (.int .i64 0), (.int .i64 0), (.int .i64 0), (.int .i64 0)], (a0_0, a0_1, ()), ())))
theorem S8_eq (lp : Lp) (cl : CL) (a0_0 : D) (a0_1 : D) (a1 : Int) (a2 : D) : runS lp Tryz.prog TryzG cl 8 [(.agg [(.fz a0_0), (.fz a0_1)]), (.int .i64 a1), (.fz a2)] = S8 lp cl a0_0 a0_1 a1 a2 := by kernel_rfl
def S8_w (lp : Lp) (cl : CL) (args : List D) : Option D := bd (Sh.gds [(.agg [.fz, .fz]), (.int .i64), .fz] args) fun v => S8 lp cl v.1.1 v.1.2.1 v.2.1 v.2.2.1
theorem S8_t : TabE TryzE 8 S8_w := tab_of (by kernel_rfl) fun lp cl v => S8_eq lp cl v.1.1 v.1.2.1 v.2.1 v.2.2.1

/- 9 invigilator/invigilatorref27.Prim -/
def S9 (lp : Lp) (cl : CL) (a0_0 : D) (a0_1 : D) (a1 : Int) (a2 : D) : Option D :=
clT q7 (cl 27 [(.agg [a0_0, a0_1])]) fun (v1 : (Int × Int × Unit)) =>
bif (!(eqZ v1.2.1 0)) then (
some (.tup [(.agg [(.int .i64 0), (.int .i64 0), (.int .i64 0), (.int .i64 0), (.int .i64 0), (.int .i64 0), (.int .i64 0)]), (.int .i64 v1.2.1)])) else (
lp.run (fun (((t1v2, t2v2, _, _, t10v2, t11v2, t12v2, _), (b900011v2, b900010v2, b1v2, (b0v2_0, b0v2_1, _), _)) : (Int × D × Unit × Unit × Nat × Nat × Int × Unit) × (List D × List D × List D × (D × D × Unit) × Unit)) =>
bd (lenD false t2v2) fun v3 =>
bif (ltZ t12v2 (v3 : Int)) then (
bd (elF 5 t2v2 (.int .i64 t12v2)) fun v4 =>
tkT q4 v4.1 (v4.2 + 0) none fun (v6 : Int) =>
bd (apG true (t10v2 * 1) (List.length b900010v2) (t10v2 + 1) 8) fun _ =>
bd (elF 5 t2v2 (.int .i64 t12v2)) fun v7 =>
tkT q4 v7.1 (v7.2 + 1) none fun (v9 : Int) =>
bd (apG true (t11v2 * 1) (List.length b900011v2) (t11v2 + 1) 8) fun _ =>
some (.inl ((t1v2, t2v2, (), (), (t10v2 + 1), (t11v2 + 1), (wrapD .i64 (t12v2 + 1)), ()), ((b900011v2 ++ [(.int .i64 v9)]), (b900010v2 ++ [(.int .i64 v6)]), b1v2, (b0v2_0, b0v2_1, ()), ())))) else (
rt (
bd (frSl false 0 1 t10v2 b900010v2) fun v10 =>
bd (frSl false 0 1 t11v2 b900011v2) fun v11 =>
clT q5 (cl 15 [(.int .i64 t1v2), v10, v11]) fun (v13 : (Int × Int × Int × Unit)) =>
lp.run (fun (((t1v14, t2v14, _, _, t9v14, t13v14, t14v14, t15v14, _), (b1v14, (b0v14_0, b0v14_1, _), _)) : (Int × D × Unit × Unit × Int × Int × Int × Int × Unit) × (List D × (D × D × Unit) × Unit)) =>
bj (α := (Int × D × Unit × Unit × Int × Int × Int × Int × Unit) × (List D × (D × D × Unit) × Unit)) (
bd (lenD false t2v14) fun v16 =>
bif (ltZ t15v14 (v16 : Int)) then (
bif (eqZ t9v14 0) then (
some (.inl ((t1v14, t2v14, (), (), t9v14, t13v14, t14v14, t15v14, ()), (b1v14, (b0v14_0, b0v14_1, ()), ())))) else (
rt (
rt (
bif (!(eqZ t9v14 0)) then (
bd (inR 0 7 (List.length b1v14)) fun _ =>
bd (takeAt (setQ b1v14 0 [(.int .i64 0), (.int .i64 0), (.int .i64 0), (.int .i64 0), (.int .i64 0), (.int .i64 0), (.int .i64 0)]) 0 (some 7)) fun v17 =>
some (.tup [v17, (.int .i64 t9v14)])) else (
ixT q2 5 t2v14 (.int .i64 0) (some 5) fun (v20 : (Int × Int × Int × Int × Int × Unit)) =>
clT q4 (cl 29 [(.agg [b0v14_0, b0v14_1]), (.agg [(.int .i64 v20.1), (.int .i64 v20.2.1), (.int .i64 v20.2.2.1), (.int .i64 v20.2.2.2.1), (.int .i64 v20.2.2.2.2.1)])]) fun (v22 : Int) =>
bj (α := (Int × Unit × Unit × Unit × Unit) × (List D × List D × (D × D × Unit) × Unit)) (
bd (lenD false t2v14) fun v24 =>
bif (eqZ (v24 : Int) 1) then (
ixT q2 5 t2v14 (.int .i64 0) (some 5) fun (v27 : (Int × Int × Int × Int × Int × Unit)) =>
clT q9 (cl 30 [(.agg [b0v14_0, b0v14_1]), (.int .i64 t1v14), (.agg [(.int .i64 v27.1), (.int .i64 v27.2.1), (.int .i64 v27.2.2.1), (.int .i64 v27.2.2.2.1), (.int .i64 v27.2.2.2.2.1)])]) fun (v29 : ((Int × Int × Unit) × Int × Int × Unit)) =>
some (.inl ((t1v14, (), (), (), ()), ([(.int .i64 t13v14), (.int .i64 t14v14), (.int .i64 v29.1.1), (.int .i64 v29.1.2.1), (.int .i64 v29.2.1), (.int .i64 v29.2.2.1), (.int .i64 v22)], b1v14, (b0v14_0, b0v14_1, ()), ())))) else (
ixT q2 5 t2v14 (.int .i64 0) (some 5) fun (v32 : (Int × Int × Int × Int × Int × Unit)) =>
ixT q2 5 t2v14 (.int .i64 1) (some 5) fun (v35 : (Int × Int × Int × Int × Int × Unit)) =>
clT q9 (cl 31 [(.agg [b0v14_0, b0v14_1]), (.int .i64 t1v14), (.agg [(.int .i64 v32.1), (.int .i64 v32.2.1), (.int .i64 v32.2.2.1), (.int .i64 v32.2.2.2.1), (.int .i64 v32.2.2.2.2.1)]), (.agg [(.int .i64 v35.1), (.int .i64 v35.2.1), (.int .i64 v35.2.2.1), (.int .i64 v35.2.2.2.1), (.int .i64 v35.2.2.2.2.1)])]) fun (v37 : ((Int × Int × Unit) × Int × Int × Unit)) =>
ixT q2 5 t2v14 (.int .i64 1) (some 5) fun (v40 : (Int × Int × Int × Int × Int × Unit)) =>
clT q4 (cl 29 [(.agg [b0v14_0, b0v14_1]), (.agg [(.int .i64 v40.1), (.int .i64 v40.2.1), (.int .i64 v40.2.2.1), (.int .i64 v40.2.2.2.1), (.int .i64 v40.2.2.2.2.1)])]) fun (v42 : Int) =>
clT q4 (cl 32 [(.agg [b0v14_0, b0v14_1]), (.sl true 2 [(.int .i64 v22), (.int .i64 v42)])]) fun (v44 : Int) =>
some (.inl ((t1v14, (), (), (), ()), ([(.int .i64 t13v14), (.int .i64 t14v14), (.int .i64 v37.1.1), (.int .i64 v37.1.2.1), (.int .i64 v37.2.1), (.int .i64 v37.2.2.1), (.int .i64 v44)], b1v14, (b0v14_0, b0v14_1, ()), ()))))) fun (((t1v23, _, _, _, _), (b17009v23, b1v23, (b0v23_0, b0v23_1, _), _)) : (Int × Unit × Unit × Unit × Unit) × (List D × List D × (D × D × Unit) × Unit)) =>
bj (α := (Unit × Unit × Unit × Bool × Unit) × (List D × List D × (D × D × Unit) × Unit)) (
bif (eqZ t1v23 8) then (
some (.inl (((), (), (), true, ()), (b17009v23, b1v23, (b0v23_0, b0v23_1, ()), ())))) else (
bif (eqZ t1v23 35) then (
some (.inl (((), (), (), true, ()), (b17009v23, b1v23, (b0v23_0, b0v23_1, ()), ())))) else (
some (.inl (((), (), (), (eqZ t1v23 36), ()), (b17009v23, b1v23, (b0v23_0, b0v23_1, ()), ())))))) fun (((_, _, _, t142v45, _), (b17009v45, b1v45, (b0v45_0, b0v45_1, _), _)) : (Unit × Unit × Unit × Bool × Unit) × (List D × List D × (D × D × Unit) × Unit)) =>
bif t142v45 then (
tkT q4 b17009v45 6 none fun (v47 : Int) =>
tkT q2 b17009v45 0 (some 5) fun (v49 : (Int × Int × Int × Int × Int × Unit)) =>
clT q4 (cl 29 [(.agg [b0v45_0, b0v45_1]), (.agg [(.int .i64 v49.1), (.int .i64 v49.2.1), (.int .i64 v49.2.2.1), (.int .i64 v49.2.2.2.1), (.int .i64 v49.2.2.2.2.1)])]) fun (v51 : Int) =>
clT q4 (cl 32 [(.agg [b0v45_0, b0v45_1]), (.sl true 2 [(.int .i64 v47), (.int .i64 v51)])]) fun (v53 : Int) =>
bd (inR 6 1 (List.length b17009v45)) fun _ =>
tkT q10 (setQ b17009v45 6 [(.int .i64 v53)]) 0 (some 7) fun (v55 : (Int × Int × Int × Int × Int × Int × Int × Unit)) =>
bd (inR 0 7 (List.length b1v45)) fun _ =>
bd (takeAt (setQ b1v45 0 [(.int .i64 v55.1), (.int .i64 v55.2.1), (.int .i64 v55.2.2.1), (.int .i64 v55.2.2.2.1), (.int .i64 v55.2.2.2.2.1), (.int .i64 v55.2.2.2.2.2.1), (.int .i64 v55.2.2.2.2.2.2.1)]) 0 (some 7)) fun v56 =>
some (.tup [v56, (.int .i64 0)])) else (
tkT q10 b17009v45 0 (some 7) fun (v58 : (Int × Int × Int × Int × Int × Int × Int × Unit)) =>
bd (inR 0 7 (List.length b1v45)) fun _ =>
bd (takeAt (setQ b1v45 0 [(.int .i64 v58.1), (.int .i64 v58.2.1), (.int .i64 v58.2.2.1), (.int .i64 v58.2.2.2.1), (.int .i64 v58.2.2.2.2.1), (.int .i64 v58.2.2.2.2.2.1), (.int .i64 v58.2.2.2.2.2.2.1)]) 0 (some 7)) fun v59 =>
some (.tup [v59, (.int .i64 0)]))))))) else (
rt (
rt (
bif (!(eqZ t9v14 0)) then (
bd (inR 0 7 (List.length b1v14)) fun _ =>
bd (takeAt (setQ b1v14 0 [(.int .i64 0), (.int .i64 0), (.int .i64 0), (.int .i64 0), (.int .i64 0), (.int .i64 0), (.int .i64 0)]) 0 (some 7)) fun v60 =>
some (.tup [v60, (.int .i64 t9v14)])) else (
ixT q2 5 t2v14 (.int .i64 0) (some 5) fun (v63 : (Int × Int × Int × Int × Int × Unit)) =>
clT q4 (cl 29 [(.agg [b0v14_0, b0v14_1]), (.agg [(.int .i64 v63.1), (.int .i64 v63.2.1), (.int .i64 v63.2.2.1), (.int .i64 v63.2.2.2.1), (.int .i64 v63.2.2.2.2.1)])]) fun (v65 : Int) =>
bj (α := (Int × Unit × Unit × Unit × Unit) × (List D × List D × (D × D × Unit) × Unit)) (
bd (lenD false t2v14) fun v67 =>
bif (eqZ (v67 : Int) 1) then (
ixT q2 5 t2v14 (.int .i64 0) (some 5) fun (v70 : (Int × Int × Int × Int × Int × Unit)) =>
clT q9 (cl 30 [(.agg [b0v14_0, b0v14_1]), (.int .i64 t1v14), (.agg [(.int .i64 v70.1), (.int .i64 v70.2.1), (.int .i64 v70.2.2.1), (.int .i64 v70.2.2.2.1), (.int .i64 v70.2.2.2.2.1)])]) fun (v72 : ((Int × Int × Unit) × Int × Int × Unit)) =>
some (.inl ((t1v14, (), (), (), ()), ([(.int .i64 t13v14), (.int .i64 t14v14), (.int .i64 v72.1.1), (.int .i64 v72.1.2.1), (.int .i64 v72.2.1), (.int .i64 v72.2.2.1), (.int .i64 v65)], b1v14, (b0v14_0, b0v14_1, ()), ())))) else (
ixT q2 5 t2v14 (.int .i64 0) (some 5) fun (v75 : (Int × Int × Int × Int × Int × Unit)) =>
ixT q2 5 t2v14 (.int .i64 1) (some 5) fun (v78 : (Int × Int × Int × Int × Int × Unit)) =>
clT q9 (cl 31 [(.agg [b0v14_0, b0v14_1]), (.int .i64 t1v14), (.agg [(.int .i64 v75.1), (.int .i64 v75.2.1), (.int .i64 v75.2.2.1), (.int .i64 v75.2.2.2.1), (.int .i64 v75.2.2.2.2.1)]), (.agg [(.int .i64 v78.1), (.int .i64 v78.2.1), (.int .i64 v78.2.2.1), (.int .i64 v78.2.2.2.1), (.int .i64 v78.2.2.2.2.1)])]) fun (v80 : ((Int × Int × Unit) × Int × Int × Unit)) =>
ixT q2 5 t2v14 (.int .i64 1) (some 5) fun (v83 : (Int × Int × Int × Int × Int × Unit)) =>
clT q4 (cl 29 [(.agg [b0v14_0, b0v14_1]), (.agg [(.int .i64 v83.1), (.int .i64 v83.2.1), (.int .i64 v83.2.2.1), (.int .i64 v83.2.2.2.1), (.int .i64 v83.2.2.2.2.1)])]) fun (v85 : Int) =>
clT q4 (cl 32 [(.agg [b0v14_0, b0v14_1]), (.sl true 2 [(.int .i64 v65), (.int .i64 v85)])]) fun (v87 : Int) =>
some (.inl ((t1v14, (), (), (), ()), ([(.int .i64 t13v14), (.int .i64 t14v14), (.int .i64 v80.1.1), (.int .i64 v80.1.2.1), (.int .i64 v80.2.1), (.int .i64 v80.2.2.1), (.int .i64 v87)], b1v14, (b0v14_0, b0v14_1, ()), ()))))) fun (((t1v66, _, _, _, _), (b17009v66, b1v66, (b0v66_0, b0v66_1, _), _)) : (Int × Unit × Unit × Unit × Unit) × (List D × List D × (D × D × Unit) × Unit)) =>
bj (α := (Unit × Unit × Unit × Bool × Unit) × (List D × List D × (D × D × Unit) × Unit)) (
bif (eqZ t1v66 8) then (
some (.inl (((), (), (), true, ()), (b17009v66, b1v66, (b0v66_0, b0v66_1, ()), ())))) else (
bif (eqZ t1v66 35) then (
some (.inl (((), (), (), true, ()), (b17009v66, b1v66, (b0v66_0, b0v66_1, ()), ())))) else (
some (.inl (((), (), (), (eqZ t1v66 36), ()), (b17009v66, b1v66, (b0v66_0, b0v66_1, ()), ())))))) fun (((_, _, _, t142v88, _), (b17009v88, b1v88, (b0v88_0, b0v88_1, _), _)) : (Unit × Unit × Unit × Bool × Unit) × (List D × List D × (D × D × Unit) × Unit)) =>
bif t142v88 then (
tkT q4 b17009v88 6 none fun (v90 : Int) =>
tkT q2 b17009v88 0 (some 5) fun (v92 : (Int × Int × Int × Int × Int × Unit)) =>
clT q4 (cl 29 [(.agg [b0v88_0, b0v88_1]), (.agg [(.int .i64 v92.1), (.int .i64 v92.2.1), (.int .i64 v92.2.2.1), (.int .i64 v92.2.2.2.1), (.int .i64 v92.2.2.2.2.1)])]) fun (v94 : Int) =>
clT q4 (cl 32 [(.agg [b0v88_0, b0v88_1]), (.sl true 2 [(.int .i64 v90), (.int .i64 v94)])]) fun (v96 : Int) =>
bd (inR 6 1 (List.length b17009v88)) fun _ =>
tkT q10 (setQ b17009v88 6 [(.int .i64 v96)]) 0 (some 7) fun (v98 : (Int × Int × Int × Int × Int × Int × Int × Unit)) =>
bd (inR 0 7 (List.length b1v88)) fun _ =>
bd (takeAt (setQ b1v88 0 [(.int .i64 v98.1), (.int .i64 v98.2.1), (.int .i64 v98.2.2.1), (.int .i64 v98.2.2.2.1), (.int .i64 v98.2.2.2.2.1), (.int .i64 v98.2.2.2.2.2.1), (.int .i64 v98.2.2.2.2.2.2.1)]) 0 (some 7)) fun v99 =>
some (.tup [v99, (.int .i64 0)])) else (
tkT q10 b17009v88 0 (some 7) fun (v101 : (Int × Int × Int × Int × Int × Int × Int × Unit)) =>
bd (inR 0 7 (List.length b1v88)) fun _ =>
bd (takeAt (setQ b1v88 0 [(.int .i64 v101.1), (.int .i64 v101.2.1), (.int .i64 v101.2.2.1), (.int .i64 v101.2.2.2.1), (.int .i64 v101.2.2.2.2.1), (.int .i64 v101.2.2.2.2.2.1), (.int .i64 v101.2.2.2.2.2.2.1)]) 0 (some 7)) fun v102 =>
some (.tup [v102, (.int .i64 0)]))))))) fun (((t1v15, t2v15, _, _, t9v15, t13v15, t14v15, t15v15, _), (b1v15, (b0v15_0, b0v15_1, _), _)) : (Int × D × Unit × Unit × Int × Int × Int × Int × Unit) × (List D × (D × D × Unit) × Unit)) =>
ixT q2 5 t2v15 (.int .i64 t15v15) (some 5) fun (v105 : (Int × Int × Int × Int × Int × Unit)) =>
clT q0 (cl 28 [(.agg [b0v15_0, b0v15_1]), (.agg [(.int .i64 v105.1), (.int .i64 v105.2.1), (.int .i64 v105.2.2.1), (.int .i64 v105.2.2.2.1), (.int .i64 v105.2.2.2.2.1)])]) fun (v107 : Bool) =>
bif (!v107) then (
some (.inl ((t1v15, t2v15, (), (), (7 : Int), t13v15, t14v15, (wrapD .i64 (t15v15 + 1)), ()), (b1v15, (b0v15_0, b0v15_1, ()), ())))) else (
some (.inl ((t1v15, t2v15, (), (), t9v15, t13v15, t14v15, (wrapD .i64 (t15v15 + 1)), ()), (b1v15, (b0v15_0, b0v15_1, ()), ()))))) ((t1v2, t2v2, (), (), v13.2.2.1, v13.1, v13.2.1, (0 : Int), ()), (b1v2, (b0v2_0, b0v2_1, ()), ()))))) ((a1, a2, (), (), 0, 0, (0 : Int), ()), ([], [], [(.int .i64 0), (.int .i64 0), (.int .i64 0), (.int .i64 0), (.int .i64 0), (.int .i64 0), (.int .i64 0)], (a0_0, a0_1, ()), ())))
theorem S9_eq (lp : Lp) (cl : CL) (a0_0 : D) (a0_1 : D) (a1 : Int) (a2 : D) : runS lp Tryz.prog TryzG cl 9 [(.agg [(.fz a0_0), (.fz a0_1)]), (.int .i64 a1), (.fz a2)] = S9 lp cl a0_0 a0_1 a1 a2 := by kernel_rfl
def S9_w (lp : Lp) (cl : CL) (args : List D) : Option D := bd (Sh.gds [(.agg [.fz, .fz]), (.int .i64), .fz] args) fun v => S9 lp cl v.1.1 v.1.2.1 v.2.1 v.2.2.1
theorem S9_t : TabE TryzE 9 S9_w := tab_of (by kernel_rfl) fun lp cl v => S9_eq lp cl v.1.1 v.1.2.1 v.2.1 v.2.2.1

/- 12 invigilator/invigilatorlaw27.leq -/
def S12 (lp : Lp) (cl : CL) (a0_0 : D) (a0_1 : D) (a1 : Int) (a2 : Int) : Option D :=
clT q11 (cl 34 [(.agg [a0_0, a0_1]), (.int .i64 a1), (.int .i64 a2)]) fun (v1 : (Bool × Int × Unit)) =>
bif v1.1 then (
some (.bool (eqZ v1.2.1 0))) else (
some (.bool false))
theorem S12_eq (lp : Lp) (cl : CL) (a0_0 : D) (a0_1 : D) (a1 : Int) (a2 : Int) : runS lp Tryz.prog TryzG cl 12 [(.agg [(.fz a0_0), (.fz a0_1)]), (.int .i64 a1), (.int .i64 a2)] = S12 lp cl a0_0 a0_1 a1 a2 := by kernel_rfl
def S12_w (lp : Lp) (cl : CL) (args : List D) : Option D := bd (Sh.gds [(.agg [.fz, .fz]), (.int .i64), (.int .i64)] args) fun v => S12 lp cl v.1.1 v.1.2.1 v.2.1 v.2.2.1
theorem S12_t : TabE TryzE 12 S12_w := tab_of (by kernel_rfl) fun lp cl v => S12_eq lp cl v.1.1 v.1.2.1 v.2.1 v.2.2.1

/- 32 invigilator/invigilatorref27.join -/
def S32 (lp : Lp) (cl : CL) (a0_0 : D) (a0_1 : D) (a1 : D) : Option D :=
clT q7 (cl 36 [(.agg [a0_0, a0_1])]) fun (v1 : (Int × Int × Unit)) =>
lp.run (fun (((t1v2, _, t5v2, t7v2, _), ((b0v2_0, b0v2_1, _), _)) : (D × Unit × Int × Int × Unit) × ((D × D × Unit) × Unit)) =>
bd (lenD false t1v2) fun v3 =>
bif (ltZ t7v2 (v3 : Int)) then (
ixT q4 1 t1v2 (.int .i64 t7v2) none fun (v6 : Int) =>
clT q7 (cl 33 [(.agg [b0v2_0, b0v2_1]), (.int .i64 t5v2), (.int .i64 v6)]) fun (v8 : (Int × Int × Unit)) =>
some (.inl ((t1v2, (), v8.1, (wrapD .i64 (t7v2 + 1)), ()), ((b0v2_0, b0v2_1, ()), ())))) else (
rt (
some (.int .i64 t5v2)))) ((a1, (), v1.1, (0 : Int), ()), ((a0_0, a0_1, ()), ()))
theorem S32_eq (lp : Lp) (cl : CL) (a0_0 : D) (a0_1 : D) (a1 : D) : runS lp Tryz.prog TryzG cl 32 [(.agg [(.fz a0_0), (.fz a0_1)]), (.fz a1)] = S32 lp cl a0_0 a0_1 a1 := by kernel_rfl
def S32_w (lp : Lp) (cl : CL) (args : List D) : Option D := bd (Sh.gds [(.agg [.fz, .fz]), .fz] args) fun v => S32 lp cl v.1.1 v.1.2.1 v.2.1
theorem S32_t : TabE TryzE 32 S32_w := tab_of (by kernel_rfl) fun lp cl v => S32_eq lp cl v.1.1 v.1.2.1 v.2.1

/- 34 invigilator/invigilatorref03.Leq -/
def S34 (lp : Lp) (cl : CL) (a0_0 : D) (a0_1 : D) (a1 : Int) (a2 : Int) : Option D :=
clT q4 (cl 64 [(.agg [a0_0, a0_1]), (.int .i64 a1), (.int .i64 a2)]) fun (v1 : Int) =>
bif (eqZ v1 0) then (
clT q0 (cl 37 [(.agg [a0_0, a0_1]), (.int .i64 a1), (.int .i64 a2)]) fun (v3 : Bool) =>
some (.tup [(.bool v3), (.int .i64 v1)])) else (
some (.tup [(.bool false), (.int .i64 v1)]))
theorem S34_eq (lp : Lp) (cl : CL) (a0_0 : D) (a0_1 : D) (a1 : Int) (a2 : Int) : runS lp Tryz.prog TryzG cl 34 [(.agg [(.fz a0_0), (.fz a0_1)]), (.int .i64 a1), (.int .i64 a2)] = S34 lp cl a0_0 a0_1 a1 a2 := by kernel_rfl
def S34_w (lp : Lp) (cl : CL) (args : List D) : Option D := bd (Sh.gds [(.agg [.fz, .fz]), (.int .i64), (.int .i64)] args) fun v => S34 lp cl v.1.1 v.1.2.1 v.2.1 v.2.2.1
theorem S34_t : TabE TryzE 34 S34_w := tab_of (by kernel_rfl) fun lp cl v => S34_eq lp cl v.1.1 v.1.2.1 v.2.1 v.2.2.1

/- 42 invigilator/invigilatorref12.ranks -/
def S42 (lp : Lp) (cl : CL) (a0 : Int) (a1 : D) : Option D :=
lp.run (fun (((t0v0, t1v0, t5v0, _), (_)) : (Int × D × Int × Unit) × (Unit)) =>
bd (lenD false t1v0) fun v1 =>
bif (ltZ t5v0 (v1 : Int)) then (
ixT q4 1 t1v0 (.int .i64 t5v0) none fun (v4 : Int) =>
bif (ltZ v4 0) then (
rt (
some (.int .i64 (-1)))) else (
ixT q4 1 t1v0 (.int .i64 t5v0) none fun (v7 : Int) =>
bif (ltZ 2 v7) then (
rt (
some (.int .i64 (-1)))) else (
some (.inl ((t0v0, t1v0, (wrapD .i64 (t5v0 + 1)), ()), (())))))) else (
rt (
ixT q4 1 t1v0 (.int .i64 0) none fun (v10 : Int) =>
bd (lenD false t1v0) fun v11 =>
ixT q4 1 t1v0 (.int .i64 (wrapD .i64 ((v11 : Int) - 1))) none fun (v14 : Int) =>
bj (α := (Bool × Int × Unit) × (Unit)) (
bj (α := (Int × Int × Bool × Int × Int × Bool × Unit) × (Unit)) (
bif (eqZ t0v0 1) then (
some (.inl ((v10, v14, true, (1 : Int), t0v0, (eqZ t0v0 1), ()), (())))) else (
bif (eqZ t0v0 2) then (
some (.inl ((v10, v14, true, (1 : Int), t0v0, (eqZ t0v0 2), ()), (())))) else (
some (.inl ((v10, v14, true, (1 : Int), t0v0, (eqZ t0v0 3), ()), (())))))) fun (((t6v16, t7v16, t8v16, t9v16, t37v16, t52v16, _), (_)) : (Int × Int × Bool × Int × Int × Bool × Unit) × (Unit)) =>
bif t52v16 then (
some (.inl ((t8v16, t6v16, ()), (())))) else (
bj (α := (Int × Int × Bool × Int × Int × Bool × Unit) × (Unit)) (
bif (eqZ t37v16 4) then (
some (.inl ((t6v16, t7v16, t8v16, t9v16, t37v16, (eqZ t37v16 4), ()), (())))) else (
some (.inl ((t6v16, t7v16, t8v16, t9v16, t37v16, (eqZ t37v16 5), ()), (()))))) fun (((t6v17, t7v17, t8v17, t9v17, t37v17, t57v17, _), (_)) : (Int × Int × Bool × Int × Int × Bool × Unit) × (Unit)) =>
bif t57v17 then (
some (.inl ((t8v17, t9v17, ()), (())))) else (
bj (α := (Int × Int × Int × Int × Bool × Unit) × (Unit)) (
bif (eqZ t37v17 6) then (
some (.inl ((t6v17, t7v17, t9v17, t37v17, (eqZ t37v17 6), ()), (())))) else (
some (.inl ((t6v17, t7v17, t9v17, t37v17, (eqZ t37v17 13), ()), (()))))) fun (((t6v18, t7v18, t9v18, t37v18, t60v18, _), (_)) : (Int × Int × Int × Int × Bool × Unit) × (Unit)) =>
bif t60v18 then (
some (.inl (((ltZ 0 t6v18), t6v18, ()), (())))) else (
bif (eqZ t37v18 7) then (
some (.inl (((eqZ t6v18 2), (2 : Int), ()), (())))) else (
bif (eqZ t37v18 8) then (
some (.inl (((eqZ t6v18 0), t9v18, ()), (())))) else (
bj (α := (Int × Int × Int × Int × Bool × Unit) × (Unit)) (
bif (eqZ t37v18 9) then (
some (.inl ((t6v18, t7v18, t9v18, t37v18, (eqZ t37v18 9), ()), (())))) else (
bif (eqZ t37v18 10) then (
some (.inl ((t6v18, t7v18, t9v18, t37v18, (eqZ t37v18 10), ()), (())))) else (
bif (eqZ t37v18 11) then (
some (.inl ((t6v18, t7v18, t9v18, t37v18, (eqZ t37v18 11), ()), (())))) else (
some (.inl ((t6v18, t7v18, t9v18, t37v18, (eqZ t37v18 12), ()), (()))))))) fun (((t6v19, t7v19, t9v19, t37v19, t74v19, _), (_)) : (Int × Int × Int × Int × Bool × Unit) × (Unit)) =>
bif t74v19 then (
some (.inl (((ltZ 0 t6v19), (wrapD .i64 (t6v19 - 1)), ()), (())))) else (
bif (eqZ t37v19 14) then (
some (.inl (((eqZ t6v19 1), t9v19, ()), (())))) else (
bj (α := (Int × Int × Int × Int × Bool × Unit) × (Unit)) (
bif (eqZ t37v19 33) then (
some (.inl ((t6v19, t7v19, t9v19, t37v19, (eqZ t37v19 33), ()), (())))) else (
some (.inl ((t6v19, t7v19, t9v19, t37v19, (eqZ t37v19 34), ()), (()))))) fun (((t6v20, t7v20, t9v20, t37v20, t87v20, _), (_)) : (Int × Int × Int × Int × Bool × Unit) × (Unit)) =>
bif t87v20 then (
bif (eqZ t6v20 0) then (
some (.inl (((eqZ t7v20 1), t9v20, ()), (())))) else (
some (.inl ((false, t9v20, ()), (()))))) else (
bif (eqZ t37v20 35) then (
bif (eqZ t6v20 0) then (
some (.inl (((eqZ t7v20 0), t9v20, ()), (())))) else (
some (.inl ((false, t9v20, ()), (()))))) else (
bif (eqZ t37v20 36) then (
bif (eqZ t6v20 1) then (
some (.inl (((eqZ t7v20 1), (2 : Int), ()), (())))) else (
some (.inl ((false, (2 : Int), ()), (()))))) else (
bif (eqZ t37v20 37) then (
bif (eqZ t6v20 t7v20) then (
some (.inl (((ltZ 0 t6v20), t6v20, ()), (())))) else (
some (.inl ((false, t6v20, ()), (()))))) else (
bif (eqZ t37v20 38) then (
bif (eqZ t6v20 1) then (
some (.inl (((ltZ t7v20 2), t7v20, ()), (())))) else (
some (.inl ((false, t7v20, ()), (()))))) else (
bif (eqZ t37v20 39) then (
some (.inl (((eqZ t7v20 1), t6v20, ()), (())))) else (
bif (eqZ t37v20 40) then (
bif (eqZ t6v20 1) then (
some (.inl (((eqZ t7v20 1), t9v20, ()), (())))) else (
some (.inl ((false, t9v20, ()), (()))))) else (
bif (eqZ t6v20 t7v20) then (
some (.inl ((true, (mmZ true t6v20 t7v20), ()), (())))) else (
bif (eqZ t6v20 0) then (
some (.inl ((true, (mmZ true t6v20 t7v20), ()), (())))) else (
some (.inl (((eqZ t7v20 0), (mmZ true t6v20 t7v20), ()), (())))))))))))))))))))) fun (((t8v15, t9v15, _), (_)) : (Bool × Int × Unit) × (Unit)) =>
bif (!t8v15) then (
some (.int .i64 (-1))) else (
some (.int .i64 t9v15))))) ((a0, a1, (0 : Int), ()), (()))
theorem S42_eq (lp : Lp) (cl : CL) (a0 : Int) (a1 : D) : runS lp Tryz.prog TryzG cl 42 [(.int .i64 a0), (.fz a1)] = S42 lp cl a0 a1 := by kernel_rfl
def S42_w (lp : Lp) (cl : CL) (args : List D) : Option D := bd (Sh.gds [(.int .i64), .fz] args) fun v => S42 lp cl v.1 v.2.1
theorem S42_t : TabE TryzE 42 S42_w := tab_of (by kernel_rfl) fun lp cl v => S42_eq lp cl v.1 v.2.1

/- 44 invigilator/lattice.named -/
def S44 (lp : Lp) (cl : CL) (a0 : D) : Option D :=
bj (α := (D × Unit) × (Unit)) (
bd (lenD false a0) fun v1 =>
bif (ltZ (v1 : Int) 1) then (
rt (
some (.tup [(.int .i64 (-1)), (.int .i64 3)]))) else (
bd (lenD false a0) fun v2 =>
bif (ltZ 8 (v2 : Int)) then (
rt (
some (.tup [(.int .i64 (-1)), (.int .i64 3)]))) else (
some (.inl ((a0, ()), (())))))) fun (((t0v0, _), (_)) : (D × Unit) × (Unit)) =>
bd (lenD false t0v0) fun v3 =>
lp.run (fun (((t0v4, t14v4, t15v4, t16v4, _), (_)) : (D × D × Int × Int × Unit) × (Unit)) =>
bif (ltZ t16v4 t15v4) then (
ixT q12 1 t14v4 (.int .i64 t16v4) none fun (v7 : List UInt8) =>
clT q0 (cl 71 [(.str v7)]) fun (v9 : Bool) =>
bif (!v9) then (
rt (
some (.tup [(.int .i64 t16v4), (.int .i64 6)]))) else (
bd (slVF 1 t0v4 none (some (.int .i64 t16v4)) none) fun v10 =>
clT q0 (cl 72 [v10, (.str v7)]) fun (v12 : Bool) =>
bif v12 then (
rt (
some (.tup [(.int .i64 t16v4), (.int .i64 8)]))) else (
some (.inl ((t0v4, t14v4, t15v4, (wrapD .i64 (t16v4 + 1)), ()), (())))))) else (
rt (
some (.tup [(.int .i64 0), (.int .i64 0)])))) ((t0v0, t0v0, (v3 : Int), (0 : Int), ()), (()))
theorem S44_eq (lp : Lp) (cl : CL) (a0 : D) : runS lp Tryz.prog TryzG cl 44 [(.fz a0)] = S44 lp cl a0 := by kernel_rfl
def S44_w (lp : Lp) (cl : CL) (args : List D) : Option D := bd (Sh.gds [.fz] args) fun v => S44 lp cl v.1
theorem S44_t : TabE TryzE 44 S44_w := tab_of (by kernel_rfl) fun lp cl v => S44_eq lp cl v.1

/- 45 math/bits.Len8 -/
def S45 (lp : Lp) (cl : CL) (a0 : Int) : Option D :=
bd (ixStr [0, 1, 2, 2, 3, 3, 3, 3, 4, 4, 4, 4, 4, 4, 4, 4, 5, 5, 5, 5, 5, 5, 5, 5, 5, 5, 5, 5, 5, 5, 5, 5, 6, 6, 6, 6, 6, 6, 6, 6, 6, 6, 6, 6, 6, 6, 6, 6, 6, 6, 6, 6, 6, 6, 6, 6, 6, 6, 6, 6, 6, 6, 6, 6, 7, 7, 7, 7, 7, 7, 7, 7, 7, 7, 7, 7, 7, 7, 7, 7, 7, 7, 7, 7, 7, 7, 7, 7, 7, 7, 7, 7, 7, 7, 7, 7, 7, 7, 7, 7, 7, 7, 7, 7, 7, 7, 7, 7, 7, 7, 7, 7, 7, 7, 7, 7, 7, 7, 7, 7, 7, 7, 7, 7, 7, 7, 7, 7, 8, 8, 8, 8, 8, 8, 8, 8, 8, 8, 8, 8, 8, 8, 8, 8, 8, 8, 8, 8, 8, 8, 8, 8, 8, 8, 8, 8, 8, 8, 8, 8, 8, 8, 8, 8, 8, 8, 8, 8, 8, 8, 8, 8, 8, 8, 8, 8, 8, 8, 8, 8, 8, 8, 8, 8, 8, 8, 8, 8, 8, 8, 8, 8, 8, 8, 8, 8, 8, 8, 8, 8, 8, 8, 8, 8, 8, 8, 8, 8, 8, 8, 8, 8, 8, 8, 8, 8, 8, 8, 8, 8, 8, 8, 8, 8, 8, 8, 8, 8, 8, 8, 8, 8, 8, 8, 8, 8, 8, 8, 8, 8, 8, 8, 8, 8, 8, 8, 8, 8, 8, 8, 8, 8, 8, 8, 8, 8] (.int .u8 a0)) fun v0 =>
some (.int .i64 (wrapD .i64 v0))
theorem S45_eq (lp : Lp) (cl : CL) (a0 : Int) : runS lp Tryz.prog TryzG cl 45 [(.int .u8 a0)] = S45 lp cl a0 := by kernel_rfl
def S45_w (lp : Lp) (cl : CL) (args : List D) : Option D := bd (Sh.gds [(.int .u8)] args) fun v => S45 lp cl v.1
theorem S45_t : TabE TryzE 45 S45_w := tab_of (by kernel_rfl) fun lp cl v => S45_eq lp cl v.1

/- 47 invigilator/lattice.bound[invigilator/lattice.ups] -/
def S47 (lp : Lp) (cl : CL) (a0_0 : Int) (a0_1 : Int) (a0_2 : Int) (a0_3 : Int) (a0_4 : Int) (a0_5 : Int) (a0_6 : Int) (a0_7 : Int) (a1 : Int) (a2 : Int) (a3 : Int) : Option D :=
bd (idxD 8 (.int .i64 a2)) fun v0 =>
tkT q13 [(.int .u8 a0_0), (.int .u8 a0_1), (.int .u8 a0_2), (.int .u8 a0_3), (.int .u8 a0_4), (.int .u8 a0_5), (.int .u8 a0_6), (.int .u8 a0_7)] (0 + v0 * 1) none fun (v2 : Int) =>
bd (idxD 8 (.int .i64 a3)) fun v3 =>
tkT q13 [(.int .u8 a0_0), (.int .u8 a0_1), (.int .u8 a0_2), (.int .u8 a0_3), (.int .u8 a0_4), (.int .u8 a0_5), (.int .u8 a0_6), (.int .u8 a0_7)] (0 + v3 * 1) none fun (v5 : Int) =>
lp.run (fun (((_, t9v6, t18v6, t19v6, _), (b0v6, _)) : (Unit × Int × Int × Int × Unit) × (List D × Unit)) =>
bif (ltZ t19v6 t18v6) then (
bd (shrD .u8 t9v6 t19v6) fun v7 =>
bif (eqZ (andZ .u8 v7 1) 1) then (
bd (idxD 8 (.int .i64 t19v6)) fun v8 =>
tkT q13 b0v6 (0 + v8 * 1) none fun (v10 : Int) =>
bif (eqZ v10 t9v6) then (
rt (
some (.int .i64 t19v6))) else (
some (.inl (((), t9v6, t18v6, (wrapD .i64 (t19v6 + 1)), ()), (b0v6, ()))))) else (
some (.inl (((), t9v6, t18v6, (wrapD .i64 (t19v6 + 1)), ()), (b0v6, ()))))) else (
rt (
some (.int .i64 (-1))))) (((), (andZ .u8 v2 v5), a1, (0 : Int), ()), ([(.int .u8 a0_0), (.int .u8 a0_1), (.int .u8 a0_2), (.int .u8 a0_3), (.int .u8 a0_4), (.int .u8 a0_5), (.int .u8 a0_6), (.int .u8 a0_7)], ()))
theorem S47_eq (lp : Lp) (cl : CL) (a0_0 : Int) (a0_1 : Int) (a0_2 : Int) (a0_3 : Int) (a0_4 : Int) (a0_5 : Int) (a0_6 : Int) (a0_7 : Int) (a1 : Int) (a2 : Int) (a3 : Int) : runS lp Tryz.prog TryzG cl 47 [(.agg [(.int .u8 a0_0), (.int .u8 a0_1), (.int .u8 a0_2), (.int .u8 a0_3), (.int .u8 a0_4), (.int .u8 a0_5), (.int .u8 a0_6), (.int .u8 a0_7)]), (.int .i64 a1), (.int .i64 a2), (.int .i64 a3)] = S47 lp cl a0_0 a0_1 a0_2 a0_3 a0_4 a0_5 a0_6 a0_7 a1 a2 a3 := by kernel_rfl
def S47_w (lp : Lp) (cl : CL) (args : List D) : Option D := bd (Sh.gds [(.agg [(.int .u8), (.int .u8), (.int .u8), (.int .u8), (.int .u8), (.int .u8), (.int .u8), (.int .u8)]), (.int .i64), (.int .i64), (.int .i64)] args) fun v => S47 lp cl v.1.1 v.1.2.1 v.1.2.2.1 v.1.2.2.2.1 v.1.2.2.2.2.1 v.1.2.2.2.2.2.1 v.1.2.2.2.2.2.2.1 v.1.2.2.2.2.2.2.2.1 v.2.1 v.2.2.1 v.2.2.2.1
theorem S47_t : TabE TryzE 47 S47_w := tab_of (by kernel_rfl) fun lp cl v => S47_eq lp cl v.1.1 v.1.2.1 v.1.2.2.1 v.1.2.2.2.1 v.1.2.2.2.2.1 v.1.2.2.2.2.2.1 v.1.2.2.2.2.2.2.1 v.1.2.2.2.2.2.2.2.1 v.2.1 v.2.2.1 v.2.2.2.1

/- 50 (invigilator/prims.prim).arity -/
def S50 (lp : Lp) (cl : CL) (a0_0 : List UInt8) (a0_1 : D) (a0_2 : D) (a0_3 : D) (a0_4 : D) : Option D :=
ixT q12 1 a0_1 (.int .i64 0) none fun (v2 : List UInt8) =>
bd (quoD .i64 (List.length v2 : Int) 2) fun v3 =>
some (.int .i64 (wrapD .i64 (v3 - 1)))
theorem S50_eq (lp : Lp) (cl : CL) (a0_0 : List UInt8) (a0_1 : D) (a0_2 : D) (a0_3 : D) (a0_4 : D) : runS lp Tryz.prog TryzG cl 50 [(.agg [(.str a0_0), (.fz a0_1), (.fz a0_2), (.fz a0_3), (.fz a0_4)])] = S50 lp cl a0_0 a0_1 a0_2 a0_3 a0_4 := by kernel_rfl
def S50_w (lp : Lp) (cl : CL) (args : List D) : Option D := bd (Sh.gds [(.agg [.str, .fz, .fz, .fz, .fz])] args) fun v => S50 lp cl v.1.1 v.1.2.1 v.1.2.2.1 v.1.2.2.2.1 v.1.2.2.2.2.1
theorem S50_t : TabE TryzE 50 S50_w := tab_of (by kernel_rfl) fun lp cl v => S50_eq lp cl v.1.1 v.1.2.1 v.1.2.2.1 v.1.2.2.2.1 v.1.2.2.2.2.1

/- 52 invigilator/taint.known$1 -/
def S52 (lp : Lp) (cl : CL) (a0 : Int) (a1 : D) : Option D :=
bif (leZ 0 a0) then (
bd (ptF a1) fun v0 =>
tkT q19 v0.1 (v0.2 + 0) none fun (v2 : D) =>
bd (lenD false v2) fun v3 =>
some (.bool (ltZ a0 (v3 : Int)))) else (
some (.bool false))
theorem S52_eq (lp : Lp) (cl : CL) (a0 : Int) (a1 : D) : runS lp Tryz.prog TryzG cl 52 [(.int .i64 a0), (.fz a1)] = S52 lp cl a0 a1 := by kernel_rfl
def S52_w (lp : Lp) (cl : CL) (args : List D) : Option D := bd (Sh.gds [(.int .i64), .fz] args) fun v => S52 lp cl v.1 v.2.1
theorem S52_t : TabE TryzE 52 S52_w := tab_of (by kernel_rfl) fun lp cl v => S52_eq lp cl v.1 v.2.1

/- 54 (invigilator/taint.rules).own -/
def S54 (lp : Lp) (cl : CL) (a0_0 : D) (a0_1 : D) (a0_2 : Int) (a1_0 : Int) (a1_1 : Int) (a1_2 : Int) (a1_3 : Int) (a1_4 : Int) : Option D :=
bd (bndO 2 2 (some (.int .i64 a1_1))) fun v0 =>
bd (inR 2 (v0 * 1) 5) fun _ =>
bd (apG (SD.ones ((List.drop 2 [(.int .i64 a1_0), (.int .i64 a1_1), (.int .i64 a1_2), (.int .i64 a1_3), (.int .i64 a1_4)]).take (v0 * 1))) 0 0 0 0) fun _ =>
bd (inR 0 (List.length (List.take (min v0 2 * 1) (SD.cvs ((List.drop 2 [(.int .i64 a1_0), (.int .i64 a1_1), (.int .i64 a1_2), (.int .i64 a1_3), (.int .i64 a1_4)]).take (v0 * 1))))) 2) fun _ =>
tkT q18 (setQ [(.int .i64 a0_2), (.int .i64 a0_2)] 0 (List.take (min v0 2 * 1) (SD.cvs ((List.drop 2 [(.int .i64 a1_0), (.int .i64 a1_1), (.int .i64 a1_2), (.int .i64 a1_3), (.int .i64 a1_4)]).take (v0 * 1))))) 0 (some 2) fun (v2 : (Int × Int × Unit)) =>
some (.agg [(.int .i64 v2.1), (.int .i64 v2.2.1)])
theorem S54_eq (lp : Lp) (cl : CL) (a0_0 : D) (a0_1 : D) (a0_2 : Int) (a1_0 : Int) (a1_1 : Int) (a1_2 : Int) (a1_3 : Int) (a1_4 : Int) : runS lp Tryz.prog TryzG cl 54 [(.agg [(.fz a0_0), (.fz a0_1), (.int .i64 a0_2)]), (.agg [(.int .i64 a1_0), (.int .i64 a1_1), (.int .i64 a1_2), (.int .i64 a1_3), (.int .i64 a1_4)])] = S54 lp cl a0_0 a0_1 a0_2 a1_0 a1_1 a1_2 a1_3 a1_4 := by kernel_rfl
def S54_w (lp : Lp) (cl : CL) (args : List D) : Option D := bd (Sh.gds [(.agg [.fz, .fz, (.int .i64)]), (.agg [(.int .i64), (.int .i64), (.int .i64), (.int .i64), (.int .i64)])] args) fun v => S54 lp cl v.1.1 v.1.2.1 v.1.2.2.1 v.2.1.1 v.2.1.2.1 v.2.1.2.2.1 v.2.1.2.2.2.1 v.2.1.2.2.2.2.1
theorem S54_t : TabE TryzE 54 S54_w := tab_of (by kernel_rfl) fun lp cl v => S54_eq lp cl v.1.1 v.1.2.1 v.1.2.2.1 v.2.1.1 v.2.1.2.1 v.2.1.2.2.1 v.2.1.2.2.2.1 v.2.1.2.2.2.2.1

/- 56 (invigilator/taint.rules).extended -/
def S56 (lp : Lp) (cl : CL) (a0_0 : D) (a0_1 : D) (a0_2 : Int) (a1_0 : Int) (a1_1 : Int) (a1_2 : Int) (a1_3 : Int) (a1_4 : Int) (a2_0 : Int) (a2_1 : Int) (a2_2 : Int) (a2_3 : Int) (a2_4 : Int) : Option D :=
bif (ltZ a2_1 a1_1) then (
clT q18 (cl 54 [(.agg [a0_0, a0_1, (.int .i64 a0_2)]), (.agg [(.int .i64 a1_0), (.int .i64 a1_1), (.int .i64 a1_2), (.int .i64 a1_3), (.int .i64 a1_4)])]) fun (v1 : (Int × Int × Unit)) =>
some (.agg [(.int .i64 v1.1), (.int .i64 v1.2.1)])) else (
bif (ltZ a1_1 a2_1) then (
clT q18 (cl 54 [(.agg [a0_0, a0_1, (.int .i64 a0_2)]), (.agg [(.int .i64 a2_0), (.int .i64 a2_1), (.int .i64 a2_2), (.int .i64 a2_3), (.int .i64 a2_4)])]) fun (v3 : (Int × Int × Unit)) =>
some (.agg [(.int .i64 v3.1), (.int .i64 v3.2.1)])) else (
clT q18 (cl 54 [(.agg [a0_0, a0_1, (.int .i64 a0_2)]), (.agg [(.int .i64 a1_0), (.int .i64 a1_1), (.int .i64 a1_2), (.int .i64 a1_3), (.int .i64 a1_4)])]) fun (v5 : (Int × Int × Unit)) =>
clT q18 (cl 54 [(.agg [a0_0, a0_1, (.int .i64 a0_2)]), (.agg [(.int .i64 a2_0), (.int .i64 a2_1), (.int .i64 a2_2), (.int .i64 a2_3), (.int .i64 a2_4)])]) fun (v7 : (Int × Int × Unit)) =>
clT q4 (cl 25 [(.agg [a0_0, a0_1, (.int .i64 a0_2)]), (.sl true 2 [(.int .i64 v5.1), (.int .i64 v7.1)])]) fun (v9 : Int) =>
clT q4 (cl 25 [(.agg [a0_0, a0_1, (.int .i64 a0_2)]), (.sl true 2 [(.int .i64 v5.2.1), (.int .i64 v7.2.1)])]) fun (v11 : Int) =>
some (.agg [(.int .i64 v9), (.int .i64 v11)])))
theorem S56_eq (lp : Lp) (cl : CL) (a0_0 : D) (a0_1 : D) (a0_2 : Int) (a1_0 : Int) (a1_1 : Int) (a1_2 : Int) (a1_3 : Int) (a1_4 : Int) (a2_0 : Int) (a2_1 : Int) (a2_2 : Int) (a2_3 : Int) (a2_4 : Int) : runS lp Tryz.prog TryzG cl 56 [(.agg [(.fz a0_0), (.fz a0_1), (.int .i64 a0_2)]), (.agg [(.int .i64 a1_0), (.int .i64 a1_1), (.int .i64 a1_2), (.int .i64 a1_3), (.int .i64 a1_4)]), (.agg [(.int .i64 a2_0), (.int .i64 a2_1), (.int .i64 a2_2), (.int .i64 a2_3), (.int .i64 a2_4)])] = S56 lp cl a0_0 a0_1 a0_2 a1_0 a1_1 a1_2 a1_3 a1_4 a2_0 a2_1 a2_2 a2_3 a2_4 := by kernel_rfl
def S56_w (lp : Lp) (cl : CL) (args : List D) : Option D := bd (Sh.gds [(.agg [.fz, .fz, (.int .i64)]), (.agg [(.int .i64), (.int .i64), (.int .i64), (.int .i64), (.int .i64)]), (.agg [(.int .i64), (.int .i64), (.int .i64), (.int .i64), (.int .i64)])] args) fun v => S56 lp cl v.1.1 v.1.2.1 v.1.2.2.1 v.2.1.1 v.2.1.2.1 v.2.1.2.2.1 v.2.1.2.2.2.1 v.2.1.2.2.2.2.1 v.2.2.1.1 v.2.2.1.2.1 v.2.2.1.2.2.1 v.2.2.1.2.2.2.1 v.2.2.1.2.2.2.2.1
theorem S56_t : TabE TryzE 56 S56_w := tab_of (by kernel_rfl) fun lp cl v => S56_eq lp cl v.1.1 v.1.2.1 v.1.2.2.1 v.2.1.1 v.2.1.2.1 v.2.1.2.2.1 v.2.1.2.2.2.1 v.2.1.2.2.2.2.1 v.2.2.1.1 v.2.2.1.2.1 v.2.2.1.2.2.1 v.2.2.1.2.2.2.1 v.2.2.1.2.2.2.2.1

/- 60 invigilator/invigilatorref03.downs -/
def S60 (lp : Lp) (cl : CL) (a0_0 : D) (a0_1 : D) : Option D :=
bd (lenD false a0_0) fun v0 =>
bd (mkN 1 (v0 : Int) (v0 : Int)) fun v1 =>
lp.run (fun (((_, (t3v2_l, t3v2_c), t4v2, _), (b1003v2, (b0v2_0, b0v2_1, _), _)) : (Unit × (Nat × Nat) × Int × Unit) × (List D × (D × D × Unit) × Unit)) =>
bd (lenD false b0v2_0) fun v3 =>
bif (ltZ t4v2 (v3 : Int)) then (
lp.run (fun (((_, (t3v4_l, t3v4_c), t4v4, t5v4, _), (b1003v4, (b0v4_0, b0v4_1, _), _)) : (Unit × (Nat × Nat) × Int × Int × Unit) × (List D × (D × D × Unit) × Unit)) =>
bd (lenD false b0v4_0) fun v5 =>
bif (ltZ t5v4 (v5 : Int)) then (
clT q0 (cl 37 [(.agg [b0v4_0, b0v4_1]), (.int .i64 t4v4), (.int .i64 t5v4)]) fun (v7 : Bool) =>
bif v7 then (
bd (idxD t3v4_l (.int .i64 t5v4)) fun v8 =>
tkT q13 b1003v4 (0 + v8 * 1) none fun (v10 : Int) =>
bd (shlD .u8 1 t4v4) fun v11 =>
bd (idxD t3v4_l (.int .i64 t5v4)) fun v12 =>
bd (inR (0 + v12 * 1) 1 (List.length b1003v4)) fun _ =>
some (.inl (((), (t3v4_l, t3v4_c), t4v4, (wrapD .i64 (t5v4 + 1)), ()), ((setQ b1003v4 (0 + v12 * 1) [(.int .u8 (orZ .u8 v10 v11))]), (b0v4_0, b0v4_1, ()), ())))) else (
some (.inl (((), (t3v4_l, t3v4_c), t4v4, (wrapD .i64 (t5v4 + 1)), ()), (b1003v4, (b0v4_0, b0v4_1, ()), ()))))) else (
rt (
some (.inl (((), (t3v4_l, t3v4_c), (wrapD .i64 (t4v4 + 1)), ()), (b1003v4, (b0v4_0, b0v4_1, ()), ())))))) (((), (t3v2_l, t3v2_c), t4v2, (0 : Int), ()), (b1003v2, (b0v2_0, b0v2_1, ()), ()))) else (
rt (
bd (frSl (Nat.beq t3v2_c t3v2_l) 0 1 t3v2_l b1003v2) fun v13 =>
some v13))) (((), (v1.1, v1.2), (0 : Int), ()), ((rep v1.2 [(.int .u8 0)]), (a0_0, a0_1, ()), ()))
theorem S60_eq (lp : Lp) (cl : CL) (a0_0 : D) (a0_1 : D) : runS lp Tryz.prog TryzG cl 60 [(.agg [(.fz a0_0), (.fz a0_1)])] = S60 lp cl a0_0 a0_1 := by kernel_rfl
def S60_w (lp : Lp) (cl : CL) (args : List D) : Option D := bd (Sh.gds [(.agg [.fz, .fz])] args) fun v => S60 lp cl v.1.1 v.1.2.1
theorem S60_t : TabE TryzE 60 S60_w := tab_of (by kernel_rfl) fun lp cl v => S60_eq lp cl v.1.1 v.1.2.1

/- 61 invigilator/invigilatorref03.nearest -/
def S61 (lp : Lp) (cl : CL) (a0 : D) (a1 : Int) (a2 : Int) : Option D :=
ixT q13 1 a0 (.int .i64 a1) none fun (v2 : Int) =>
ixT q13 1 a0 (.int .i64 a2) none fun (v5 : Int) =>
lp.run (fun (((t0v6, t7v6, t8v6, _), (_)) : (D × Int × Int × Unit) × (Unit)) =>
bd (lenD false t0v6) fun v7 =>
bif (ltZ t8v6 (v7 : Int)) then (
ixT q13 1 t0v6 (.int .i64 t8v6) none fun (v10 : Int) =>
bif (eqZ v10 t7v6) then (
rt (
some (.int .i64 t8v6))) else (
some (.inl ((t0v6, t7v6, (wrapD .i64 (t8v6 + 1)), ()), (()))))) else (
rt (
some (.int .i64 (-1))))) ((a0, (andZ .u8 v2 v5), (0 : Int), ()), (()))
theorem S61_eq (lp : Lp) (cl : CL) (a0 : D) (a1 : Int) (a2 : Int) : runS lp Tryz.prog TryzG cl 61 [(.fz a0), (.int .i64 a1), (.int .i64 a2)] = S61 lp cl a0 a1 a2 := by kernel_rfl
def S61_w (lp : Lp) (cl : CL) (args : List D) : Option D := bd (Sh.gds [.fz, (.int .i64), (.int .i64)] args) fun v => S61 lp cl v.1 v.2.1 v.2.2.1
theorem S61_t : TabE TryzE 61 S61_w := tab_of (by kernel_rfl) fun lp cl v => S61_eq lp cl v.1 v.2.1 v.2.2.1

/- 107 invigilator/invigilatorref01.digit -/
def S107 (lp : Lp) (cl : CL) (a0 : Int) : Option D :=
bif (leZ 48 a0) then (
some (.bool (leZ a0 57))) else (
some (.bool false))
theorem S107_eq (lp : Lp) (cl : CL) (a0 : Int) : runS lp Tryz.prog TryzG cl 107 [(.int .u8 a0)] = S107 lp cl a0 := by kernel_rfl
def S107_w (lp : Lp) (cl : CL) (args : List D) : Option D := bd (Sh.gds [(.int .u8)] args) fun v => S107 lp cl v.1
theorem S107_t : TabE TryzE 107 S107_w := tab_of (by kernel_rfl) fun lp cl v => S107_eq lp cl v.1

/- 114 strings.trimLeftUnicode -/
def S114 (lp : Lp) (cl : CL) (a0 : List UInt8) (a1 : List UInt8) : Option D :=
lp.run (fun (((t0v0, t1v0, _), (_)) : (List UInt8 × List UInt8 × Unit) × (Unit)) =>
bif (ltZ 0 (List.length t0v0 : Int)) then (
clT q28 (cl 143 [(.str t0v0)]) fun (v2 : (Int × Int × Unit)) =>
clT q0 (cl 144 [(.str t1v0), (.int .i32 v2.1)]) fun (v4 : Bool) =>
bif (!v4) then (
rt (
some (.str t0v0))) else (
bd (slStr t0v0 (some (.int .i64 v2.2.1)) none) fun v5 =>
some (.inl ((v5, t1v0, ()), (()))))) else (
rt (
some (.str t0v0)))) ((a0, a1, ()), (()))
theorem S114_eq (lp : Lp) (cl : CL) (a0 : List UInt8) (a1 : List UInt8) : runS lp Tryz.prog TryzG cl 114 [(.str a0), (.str a1)] = S114 lp cl a0 a1 := by kernel_rfl
def S114_w (lp : Lp) (cl : CL) (args : List D) : Option D := bd (Sh.gds [.str, .str] args) fun v => S114 lp cl v.1 v.2.1
theorem S114_t : TabE TryzE 114 S114_w := tab_of (by kernel_rfl) fun lp cl v => S114_eq lp cl v.1 v.2.1

/- 156 unicode/utf8.decodeRuneInStringSlow -/
def S156 (lp : Lp) (cl : CL) (a0 : List UInt8) : Option D :=
bif (ltZ (List.length a0 : Int) 1) then (
some (.tup [(.int .i32 65533), (.int .i64 0)])) else (
bd (ixStr a0 (.int .i64 0)) fun v0 =>
bd (idxD 256 (.int .u8 v0)) fun v1 =>
tkT q13 g2 (0 + v1 * 1) none fun (v3 : Int) =>
bif (leZ 240 v3) then (
bd (shlD .i32 (wrapD .i32 v3) 31) fun v4 =>
bd (shrD .i32 v4 31) fun v5 =>
bd (ixStr a0 (.int .i64 0)) fun v6 =>
some (.tup [(.int .i32 (orZ .i32 (andNotZ .i32 (wrapD .i32 v6) v5) (andZ .i32 65533 v5))), (.int .i64 1)])) else (
bd (shrD .u8 v3 4) fun v7 =>
bd (idxD 16 (.int .u8 v7)) fun v8 =>
tkT q30 g3 (0 + v8 * 2) (some 2) fun (v10 : (Int × Int × Unit)) =>
bif (ltZ (List.length a0 : Int) (wrapD .i64 (andZ .u8 v3 7))) then (
some (.tup [(.int .i32 65533), (.int .i64 1)])) else (
bd (ixStr a0 (.int .i64 1)) fun v11 =>
bj (α := (List UInt8 × Int × Int × Int × Unit) × ((Int × Int × Unit) × Unit)) (
bif (ltZ v11 v10.1) then (
rt (
some (.tup [(.int .i32 65533), (.int .i64 1)]))) else (
bif (ltZ v10.2.1 v11) then (
rt (
some (.tup [(.int .i32 65533), (.int .i64 1)]))) else (
some (.inl ((a0, v0, (wrapD .i64 (andZ .u8 v3 7)), v11, ()), ((v10.1, v10.2.1, ()), ())))))) fun (((t0v12, t5v12, t8v12, t10v12, _), ((b10004v12_0, b10004v12_1, _), _)) : (List UInt8 × Int × Int × Int × Unit) × ((Int × Int × Unit) × Unit)) =>
bif (leZ t8v12 2) then (
bd (shlD .i32 (wrapD .i32 (andZ .u8 t5v12 31)) 6) fun v13 =>
some (.tup [(.int .i32 (orZ .i32 v13 (wrapD .i32 (andZ .u8 t10v12 63)))), (.int .i64 2)])) else (
bd (ixStr t0v12 (.int .i64 2)) fun v14 =>
bj (α := (List UInt8 × Int × Int × Int × Int × Unit) × ((Int × Int × Unit) × Unit)) (
bif (ltZ v14 128) then (
rt (
some (.tup [(.int .i32 65533), (.int .i64 1)]))) else (
bif (ltZ 191 v14) then (
rt (
some (.tup [(.int .i32 65533), (.int .i64 1)]))) else (
some (.inl ((t0v12, t5v12, t8v12, t10v12, v14, ()), ((b10004v12_0, b10004v12_1, ()), ())))))) fun (((t0v15, t5v15, t8v15, t10v15, t11v15, _), ((b10004v15_0, b10004v15_1, _), _)) : (List UInt8 × Int × Int × Int × Int × Unit) × ((Int × Int × Unit) × Unit)) =>
bif (leZ t8v15 3) then (
bd (shlD .i32 (wrapD .i32 (andZ .u8 t5v15 15)) 12) fun v16 =>
bd (shlD .i32 (wrapD .i32 (andZ .u8 t10v15 63)) 6) fun v17 =>
some (.tup [(.int .i32 (orZ .i32 (orZ .i32 v16 v17) (wrapD .i32 (andZ .u8 t11v15 63)))), (.int .i64 3)])) else (
bd (ixStr t0v15 (.int .i64 3)) fun v18 =>
bj (α := (Int × Int × Int × Int × Unit) × ((Int × Int × Unit) × Unit)) (
bif (ltZ v18 128) then (
rt (
some (.tup [(.int .i32 65533), (.int .i64 1)]))) else (
bif (ltZ 191 v18) then (
rt (
some (.tup [(.int .i32 65533), (.int .i64 1)]))) else (
some (.inl ((t5v15, t10v15, t11v15, v18, ()), ((b10004v15_0, b10004v15_1, ()), ())))))) fun (((t5v19, t10v19, t11v19, t12v19, _), ((b10004v19_0, b10004v19_1, _), _)) : (Int × Int × Int × Int × Unit) × ((Int × Int × Unit) × Unit)) =>
bd (shlD .i32 (wrapD .i32 (andZ .u8 t5v19 7)) 18) fun v20 =>
bd (shlD .i32 (wrapD .i32 (andZ .u8 t10v19 63)) 12) fun v21 =>
bd (shlD .i32 (wrapD .i32 (andZ .u8 t11v19 63)) 6) fun v22 =>
some (.tup [(.int .i32 (orZ .i32 (orZ .i32 (orZ .i32 v20 v21) v22) (wrapD .i32 (andZ .u8 t12v19 63)))), (.int .i64 4)]))))))
theorem S156_eq (lp : Lp) (cl : CL) (a0 : List UInt8) : runS lp Tryz.prog TryzG cl 156 [(.str a0)] = S156 lp cl a0 := by kernel_rfl
def S156_w (lp : Lp) (cl : CL) (args : List D) : Option D := bd (Sh.gds [.str] args) fun v => S156 lp cl v.1
theorem S156_t : TabE TryzE 156 S156_w := tab_of (by kernel_rfl) fun lp cl v => S156_eq lp cl v.1

end Go.Proofs.YtblbgjfkbcdlfaaGreatDoor
