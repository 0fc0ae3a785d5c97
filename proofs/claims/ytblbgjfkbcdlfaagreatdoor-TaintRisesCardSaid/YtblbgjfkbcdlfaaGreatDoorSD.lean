/- What the functions come to. -/
import Derived.Test.YtblbgjfkbcdlfaaGreatDoorSH
set_option linter.unusedVariables false
set_option maxRecDepth 100000
namespace Go.Proofs.YtblbgjfkbcdlfaaGreatDoor
open Go Iv
/- 8 invigilator/taint.Prim -/
def S8 (lp : Lp) (cl : CL) (a0_0 : D) (a0_1 : D) (a1 : Int) (a2 : D) : Option D :=
clT q7 (cl 19 [(.agg [a0_0, a0_1])]) fun (v1 : (Int × Int × Unit)) =>
bif (!(eqZ v1.2.1 0)) then (
some (.tup [(.agg [(.int .i64 0), (.int .i64 0), (.int .i64 0), (.int .i64 0), (.int .i64 0), (.int .i64 0), (.int .i64 0)]), (.int .i64 v1.2.1)])) else (
bd (lenD false a2) fun v2 =>
lp.run (fun (((t1v3, t2v3, _, _, t10v3, t11v3, t32v3, t33v3, t34v3, _), (b900011v3, b900010v3, b1v3, (b0v3_0, b0v3_1, _), _)) : (Int × D × Unit × Unit × Nat × Nat × D × Int × Int × Unit) × (List D × List D × List D × (D × D × Unit) × Unit)) =>
bif (ltZ t34v3 t33v3) then (
ixT q2 5 t32v3 (.int .i64 t34v3) (some 5) fun (v6 : (Int × Int × Int × Int × Int × Unit)) =>
bd (apG true (t10v3 * 1) (List.length b900010v3) (t10v3 + 1) 8) fun _ =>
bd (apG true (t11v3 * 1) (List.length b900011v3) (t11v3 + 1) 8) fun _ =>
some (.inl ((t1v3, t2v3, (), (), (t10v3 + 1), (t11v3 + 1), t32v3, t33v3, (wrapD .i64 (t34v3 + 1)), ()), ((b900011v3 ++ [(.int .i64 v6.2.1)]), (b900010v3 ++ [(.int .i64 v6.1)]), b1v3, (b0v3_0, b0v3_1, ()), ())))) else (
rt (
bd (frSl false 0 1 t10v3 b900010v3) fun v7 =>
bd (frSl false 0 1 t11v3 b900011v3) fun v8 =>
clT q5 (cl 20 [(.int .i64 t1v3), v7, v8]) fun (v10 : (Int × Int × Int × Unit)) =>
bif (!(eqZ v10.2.2.1 0)) then (
bd (inR 0 7 (List.length b1v3)) fun _ =>
bd (takeAt (setQ b1v3 0 [(.int .i64 0), (.int .i64 0), (.int .i64 0), (.int .i64 0), (.int .i64 0), (.int .i64 0), (.int .i64 0)]) 0 (some 7)) fun v11 =>
some (.tup [v11, (.int .i64 v10.2.2.1)])) else (
bd (lenD false t2v3) fun v12 =>
lp.run (fun (((t1v13, t2v13, _, _, t14v13, t15v13, t61v13, t62v13, t63v13, _), (b1v13, (b0v13_0, b0v13_1, _), _)) : (Int × D × Unit × Unit × Int × Int × D × Int × Int × Unit) × (List D × (D × D × Unit) × Unit)) =>
bif (ltZ t63v13 t62v13) then (
ixT q2 5 t61v13 (.int .i64 t63v13) (some 5) fun (v16 : (Int × Int × Int × Int × Int × Unit)) =>
clT q0 (cl 21 [(.agg [b0v13_0, b0v13_1]), (.agg [(.int .i64 v16.1), (.int .i64 v16.2.1), (.int .i64 v16.2.2.1), (.int .i64 v16.2.2.2.1), (.int .i64 v16.2.2.2.2.1)])]) fun (v18 : Bool) =>
bif (!v18) then (
bd (inR 0 7 (List.length b1v13)) fun _ =>
rt (
bd (takeAt (setQ b1v13 0 [(.int .i64 0), (.int .i64 0), (.int .i64 0), (.int .i64 0), (.int .i64 0), (.int .i64 0), (.int .i64 0)]) 0 (some 7)) fun v19 =>
some (.tup [v19, (.int .i64 7)]))) else (
some (.inl ((t1v13, t2v13, (), (), t14v13, t15v13, t61v13, t62v13, (wrapD .i64 (t63v13 + 1)), ()), (b1v13, (b0v13_0, b0v13_1, ()), ()))))) else (
rt (
clT q8 (cl 22 [(.agg [b0v13_0, b0v13_1])]) fun (v21 : (D × D × Int × Unit)) =>
bj (α := (Int × D × Unit × Unit × Unit × Unit) × (List D × (D × D × Int × Unit) × List D × (D × D × Unit) × Unit)) (
bd (lenD false t2v13) fun v23 =>
bif (eqZ (v23 : Int) 1) then (
ixT q2 5 t2v13 (.int .i64 0) (some 5) fun (v26 : (Int × Int × Int × Int × Int × Unit)) =>
clT q9 (cl 23 [(.agg [v21.1, v21.2.1, (.int .i64 v21.2.2.1)]), (.int .i64 t1v13), (.agg [(.int .i64 v26.1), (.int .i64 v26.2.1), (.int .i64 v26.2.2.1), (.int .i64 v26.2.2.2.1), (.int .i64 v26.2.2.2.2.1)])]) fun (v28 : ((Int × Int × Unit) × Int × Int × Unit)) =>
some (.inl ((t1v13, t2v13, (), (), (), ()), ([(.int .i64 t14v13), (.int .i64 t15v13), (.int .i64 v28.1.1), (.int .i64 v28.1.2.1), (.int .i64 v28.2.1), (.int .i64 v28.2.2.1), (.int .i64 v21.2.2.1)], (v21.1, v21.2.1, v21.2.2.1, ()), b1v13, (b0v13_0, b0v13_1, ()), ())))) else (
ixT q2 5 t2v13 (.int .i64 0) (some 5) fun (v31 : (Int × Int × Int × Int × Int × Unit)) =>
ixT q2 5 t2v13 (.int .i64 1) (some 5) fun (v34 : (Int × Int × Int × Int × Int × Unit)) =>
clT q9 (cl 24 [(.agg [v21.1, v21.2.1, (.int .i64 v21.2.2.1)]), (.int .i64 t1v13), (.agg [(.int .i64 v31.1), (.int .i64 v31.2.1), (.int .i64 v31.2.2.1), (.int .i64 v31.2.2.2.1), (.int .i64 v31.2.2.2.2.1)]), (.agg [(.int .i64 v34.1), (.int .i64 v34.2.1), (.int .i64 v34.2.2.1), (.int .i64 v34.2.2.2.1), (.int .i64 v34.2.2.2.2.1)])]) fun (v36 : ((Int × Int × Unit) × Int × Int × Unit)) =>
some (.inl ((t1v13, t2v13, (), (), (), ()), ([(.int .i64 t14v13), (.int .i64 t15v13), (.int .i64 v36.1.1), (.int .i64 v36.1.2.1), (.int .i64 v36.2.1), (.int .i64 v36.2.2.1), (.int .i64 v21.2.2.1)], (v21.1, v21.2.1, v21.2.2.1, ()), b1v13, (b0v13_0, b0v13_1, ()), ()))))) fun (((t1v22, t2v22, _, _, _, _), (b20006v22, (b19002v22_0, b19002v22_1, b19002v22_2, _), b1v22, (b0v22_0, b0v22_1, _), _)) : (Int × D × Unit × Unit × Unit × Unit) × (List D × (D × D × Int × Unit) × List D × (D × D × Unit) × Unit)) =>
bd (lenD false t2v22) fun v37 =>
lp.run (fun (((t1v38, _, _, _, t117v38, t118v38, t119v38, _), (b20006v38, (b19002v38_0, b19002v38_1, b19002v38_2, _), b1v38, _)) : (Int × Unit × Unit × Unit × D × Int × Int × Unit) × (List D × (D × D × Int × Unit) × List D × Unit)) =>
bif (ltZ t119v38 t118v38) then (
ixT q2 5 t117v38 (.int .i64 t119v38) (some 5) fun (v41 : (Int × Int × Int × Int × Int × Unit)) =>
tkT q4 b20006v38 6 none fun (v43 : Int) =>
clT q4 (cl 26 [(.agg [b19002v38_0, b19002v38_1, (.int .i64 b19002v38_2)]), (.agg [(.int .i64 v41.1), (.int .i64 v41.2.1), (.int .i64 v41.2.2.1), (.int .i64 v41.2.2.2.1), (.int .i64 v41.2.2.2.2.1)])]) fun (v45 : Int) =>
clT q4 (cl 25 [(.agg [b19002v38_0, b19002v38_1, (.int .i64 b19002v38_2)]), (.sl true 2 [(.int .i64 v43), (.int .i64 v45)])]) fun (v47 : Int) =>
bd (inR 6 1 (List.length b20006v38)) fun _ =>
some (.inl ((t1v38, (), (), (), t117v38, t118v38, (wrapD .i64 (t119v38 + 1)), ()), ((setQ b20006v38 6 [(.int .i64 v47)]), (b19002v38_0, b19002v38_1, b19002v38_2, ()), b1v38, ())))) else (
rt (
bj (α := (Unit × Unit × Unit × Bool × Unit) × (List D × (D × D × Int × Unit) × List D × Unit)) (
bif (eqZ t1v38 8) then (
some (.inl (((), (), (), (eqZ t1v38 8), ()), (b20006v38, (b19002v38_0, b19002v38_1, b19002v38_2, ()), b1v38, ())))) else (
bif (eqZ t1v38 35) then (
some (.inl (((), (), (), (eqZ t1v38 35), ()), (b20006v38, (b19002v38_0, b19002v38_1, b19002v38_2, ()), b1v38, ())))) else (
some (.inl (((), (), (), (eqZ t1v38 36), ()), (b20006v38, (b19002v38_0, b19002v38_1, b19002v38_2, ()), b1v38, ())))))) fun (((_, _, _, t134v48, _), (b20006v48, (b19002v48_0, b19002v48_1, b19002v48_2, _), b1v48, _)) : (Unit × Unit × Unit × Bool × Unit) × (List D × (D × D × Int × Unit) × List D × Unit)) =>
bif t134v48 then (
tkT q4 b20006v48 6 none fun (v50 : Int) =>
tkT q2 b20006v48 0 (some 5) fun (v52 : (Int × Int × Int × Int × Int × Unit)) =>
clT q4 (cl 26 [(.agg [b19002v48_0, b19002v48_1, (.int .i64 b19002v48_2)]), (.agg [(.int .i64 v52.1), (.int .i64 v52.2.1), (.int .i64 v52.2.2.1), (.int .i64 v52.2.2.2.1), (.int .i64 v52.2.2.2.2.1)])]) fun (v54 : Int) =>
clT q4 (cl 25 [(.agg [b19002v48_0, b19002v48_1, (.int .i64 b19002v48_2)]), (.sl true 2 [(.int .i64 v50), (.int .i64 v54)])]) fun (v56 : Int) =>
bd (inR 6 1 (List.length b20006v48)) fun _ =>
tkT q10 (setQ b20006v48 6 [(.int .i64 v56)]) 0 (some 7) fun (v58 : (Int × Int × Int × Int × Int × Int × Int × Unit)) =>
bd (inR 0 7 (List.length b1v48)) fun _ =>
bd (takeAt (setQ b1v48 0 [(.int .i64 v58.1), (.int .i64 v58.2.1), (.int .i64 v58.2.2.1), (.int .i64 v58.2.2.2.1), (.int .i64 v58.2.2.2.2.1), (.int .i64 v58.2.2.2.2.2.1), (.int .i64 v58.2.2.2.2.2.2.1)]) 0 (some 7)) fun v59 =>
some (.tup [v59, (.int .i64 0)])) else (
tkT q10 b20006v48 0 (some 7) fun (v61 : (Int × Int × Int × Int × Int × Int × Int × Unit)) =>
bd (inR 0 7 (List.length b1v48)) fun _ =>
bd (takeAt (setQ b1v48 0 [(.int .i64 v61.1), (.int .i64 v61.2.1), (.int .i64 v61.2.2.1), (.int .i64 v61.2.2.2.1), (.int .i64 v61.2.2.2.2.1), (.int .i64 v61.2.2.2.2.2.1), (.int .i64 v61.2.2.2.2.2.2.1)]) 0 (some 7)) fun v62 =>
some (.tup [v62, (.int .i64 0)]))))) ((t1v22, (), (), (), t2v22, (v37 : Int), (0 : Int), ()), (b20006v22, (b19002v22_0, b19002v22_1, b19002v22_2, ()), b1v22, ()))))) ((t1v3, t2v3, (), (), v10.1, v10.2.1, t2v3, (v12 : Int), (0 : Int), ()), (b1v3, (b0v3_0, b0v3_1, ()), ())))))) ((a1, a2, (), (), 0, 0, a2, (v2 : Int), (0 : Int), ()), ([], [], [(.int .i64 0), (.int .i64 0), (.int .i64 0), (.int .i64 0), (.int .i64 0), (.int .i64 0), (.int .i64 0)], (a0_0, a0_1, ()), ())))
theorem S8_eq (lp : Lp) (cl : CL) (a0_0 : D) (a0_1 : D) (a1 : Int) (a2 : D) : runS lp Tryz.prog TryzG cl 8 [(.agg [(.fz a0_0), (.fz a0_1)]), (.int .i64 a1), (.fz a2)] = S8 lp cl a0_0 a0_1 a1 a2 := by kernel_rfl
def S8_w (lp : Lp) (cl : CL) (args : List D) : Option D := bd (Sh.gds [(.agg [.fz, .fz]), (.int .i64), .fz] args) fun v => S8 lp cl v.1.1 v.1.2.1 v.2.1 v.2.2.1
theorem S8_t : TabE TryzE 8 S8_w := tab_of (by kernel_rfl) fun lp cl v => S8_eq lp cl v.1.1 v.1.2.1 v.2.1 v.2.2.1

/- 16 invigilator/invigilatorlaw26.FarPolicy -/
def S16 (lp : Lp) (cl : CL) (a0_0 : D) (a0_1 : D) (a0_2 : D) (a0_3 : D) (a0_4 : D) : Option D :=
bj (α := (Unit × Unit) × ((D × D × D × D × D × Unit) × Unit)) (
bd (lenD false a0_0) fun v1 =>
bif (ltZ 9 (v1 : Int)) then (
rt (
some (.bool true))) else (
bd (lenD false a0_1) fun v2 =>
bif (ltZ 9 (v2 : Int)) then (
rt (
some (.bool true))) else (
bd (lenD false a0_2) fun v3 =>
bif (ltZ 8 (v3 : Int)) then (
rt (
some (.bool true))) else (
bd (lenD false a0_3) fun v4 =>
bif (ltZ 10 (v4 : Int)) then (
rt (
some (.bool true))) else (
bd (lenD false a0_4) fun v5 =>
bif (ltZ 12 (v5 : Int)) then (
rt (
some (.bool true))) else (
some (.inl (((), ()), ((a0_0, a0_1, a0_2, a0_3, a0_4, ()), ()))))))))) fun (((_, _), ((b0v0_0, b0v0_1, b0v0_2, b0v0_3, b0v0_4, _), _)) : (Unit × Unit) × ((D × D × D × D × D × Unit) × Unit)) =>
lp.run (fun (((_, t3v6, _), ((b0v6_0, b0v6_1, b0v6_2, b0v6_3, b0v6_4, _), _)) : (Unit × Int × Unit) × ((D × D × D × D × D × Unit) × Unit)) =>
bd (lenD false b0v6_0) fun v7 =>
bif (ltZ t3v6 (v7 : Int)) then (
ixT q12 1 b0v6_0 (.int .i64 t3v6) none fun (v10 : List UInt8) =>
bif (ltZ 40 (List.length v10 : Int)) then (
rt (
some (.bool true))) else (
some (.inl (((), (wrapD .i64 (t3v6 + 1)), ()), ((b0v6_0, b0v6_1, b0v6_2, b0v6_3, b0v6_4, ()), ()))))) else (
rt (
lp.run (fun (((_, t4v11, _), ((b0v11_0, b0v11_1, b0v11_2, b0v11_3, b0v11_4, _), _)) : (Unit × Int × Unit) × ((D × D × D × D × D × Unit) × Unit)) =>
bd (lenD false b0v11_2) fun v12 =>
bif (ltZ t4v11 (v12 : Int)) then (
bd (elF 2 b0v11_2 (.int .i64 t4v11)) fun v13 =>
tkT q12 v13.1 (v13.2 + 0) none fun (v15 : List UInt8) =>
bif (ltZ 40 (List.length v15 : Int)) then (
rt (
some (.bool true))) else (
some (.inl (((), (wrapD .i64 (t4v11 + 1)), ()), ((b0v11_0, b0v11_1, b0v11_2, b0v11_3, b0v11_4, ()), ()))))) else (
rt (
lp.run (fun (((_, t5v16, _), ((b0v16_0, b0v16_1, b0v16_2, b0v16_3, b0v16_4, _), _)) : (Unit × Int × Unit) × ((D × D × D × D × D × Unit) × Unit)) =>
bd (lenD false b0v16_3) fun v17 =>
bif (ltZ t5v16 (v17 : Int)) then (
bd (elF 6 b0v16_3 (.int .i64 t5v16)) fun v18 =>
tkT q12 v18.1 (v18.2 + 0) none fun (v20 : List UInt8) =>
bif (ltZ 40 (List.length v20 : Int)) then (
rt (
some (.bool true))) else (
some (.inl (((), (wrapD .i64 (t5v16 + 1)), ()), ((b0v16_0, b0v16_1, b0v16_2, b0v16_3, b0v16_4, ()), ()))))) else (
rt (
some (.bool false)))) (((), (0 : Int), ()), ((b0v11_0, b0v11_1, b0v11_2, b0v11_3, b0v11_4, ()), ()))))) (((), (0 : Int), ()), ((b0v6_0, b0v6_1, b0v6_2, b0v6_3, b0v6_4, ()), ()))))) (((), (0 : Int), ()), ((b0v0_0, b0v0_1, b0v0_2, b0v0_3, b0v0_4, ()), ()))
theorem S16_eq (lp : Lp) (cl : CL) (a0_0 : D) (a0_1 : D) (a0_2 : D) (a0_3 : D) (a0_4 : D) : runS lp Tryz.prog TryzG cl 16 [(.agg [(.fz a0_0), (.fz a0_1), (.fz a0_2), (.fz a0_3), (.fz a0_4)])] = S16 lp cl a0_0 a0_1 a0_2 a0_3 a0_4 := by kernel_rfl
def S16_w (lp : Lp) (cl : CL) (args : List D) : Option D := bd (Sh.gds [(.agg [.fz, .fz, .fz, .fz, .fz])] args) fun v => S16 lp cl v.1.1 v.1.2.1 v.1.2.2.1 v.1.2.2.2.1 v.1.2.2.2.2.1
theorem S16_t : TabE TryzE 16 S16_w := tab_of (by kernel_rfl) fun lp cl v => S16_eq lp cl v.1.1 v.1.2.1 v.1.2.2.1 v.1.2.2.2.1 v.1.2.2.2.2.1

/- 27 invigilator/invigilatorref03.Check -/
def S27 (lp : Lp) (cl : CL) (a0_0 : D) (a0_1 : D) : Option D :=
clT q7 (cl 58 [a0_0]) fun (v1 : (Int × Int × Unit)) =>
bif (!(eqZ v1.2.1 0)) then (
some (.tup [(.int .i64 v1.1), (.int .i64 v1.2.1)])) else (
bd (lenD false a0_0) fun v2 =>
bd (lenD false a0_1) fun v3 =>
bif (!(eqZ (v3 : Int) (v2 : Int))) then (
some (.tup [(.int .i64 (-1)), (.int .i64 6)])) else (
lp.run (fun (((_, t6v4, t7v4, _), ((b0v4_0, b0v4_1, _), _)) : (Unit × Int × Int × Unit) × ((D × D × Unit) × Unit)) =>
bif (ltZ t7v4 t6v4) then (
clT q0 (cl 59 [(.agg [b0v4_0, b0v4_1]), (.int .i64 t7v4)]) fun (v6 : Bool) =>
bif (!v6) then (
rt (
some (.tup [(.int .i64 t7v4), (.int .i64 6)]))) else (
some (.inl (((), t6v4, (wrapD .i64 (t7v4 + 1)), ()), ((b0v4_0, b0v4_1, ()), ()))))) else (
rt (
clT q19 (cl 60 [(.agg [b0v4_0, b0v4_1])]) fun (v8 : D) =>
lp.run (fun (((_, t6v9, t8v9, t9v9, _), ((b0v9_0, b0v9_1, _), _)) : (Unit × Int × D × Int × Unit) × ((D × D × Unit) × Unit)) =>
bif (ltZ t9v9 t6v9) then (
lp.run (fun (((_, t6v10, t8v10, t9v10, t10v10, _), ((b0v10_0, b0v10_1, _), _)) : (Unit × Int × D × Int × Int × Unit) × ((D × D × Unit) × Unit)) =>
bif (ltZ t10v10 t6v10) then (
clT q4 (cl 61 [b0v10_1, (.int .i64 t9v10), (.int .i64 t10v10)]) fun (v12 : Int) =>
bif (ltZ v12 0) then (
rt (
rt (
some (.tup [(.int .i64 t9v10), (.int .i64 4)])))) else (
clT q4 (cl 61 [t8v10, (.int .i64 t9v10), (.int .i64 t10v10)]) fun (v14 : Int) =>
bif (ltZ v14 0) then (
rt (
rt (
some (.tup [(.int .i64 t9v10), (.int .i64 4)])))) else (
some (.inl (((), t6v10, t8v10, t9v10, (wrapD .i64 (t10v10 + 1)), ()), ((b0v10_0, b0v10_1, ()), ())))))) else (
rt (
some (.inl (((), t6v10, t8v10, (wrapD .i64 (t9v10 + 1)), ()), ((b0v10_0, b0v10_1, ()), ())))))) (((), t6v9, t8v9, t9v9, (0 : Int), ()), ((b0v9_0, b0v9_1, ()), ()))) else (
rt (
some (.tup [(.int .i64 0), (.int .i64 0)])))) (((), t6v4, v8, (0 : Int), ()), ((b0v4_0, b0v4_1, ()), ()))))) (((), (v2 : Int), (0 : Int), ()), ((a0_0, a0_1, ()), ()))))
theorem S27_eq (lp : Lp) (cl : CL) (a0_0 : D) (a0_1 : D) : runS lp Tryz.prog TryzG cl 27 [(.agg [(.fz a0_0), (.fz a0_1)])] = S27 lp cl a0_0 a0_1 := by kernel_rfl
def S27_w (lp : Lp) (cl : CL) (args : List D) : Option D := bd (Sh.gds [(.agg [.fz, .fz])] args) fun v => S27 lp cl v.1.1 v.1.2.1
theorem S27_t : TabE TryzE 27 S27_w := tab_of (by kernel_rfl) fun lp cl v => S27_eq lp cl v.1.1 v.1.2.1

/- 35 invigilator/invigilatorref19.label -/
def S35 (lp : Lp) (cl : CL) (a0_0 : D) (a0_1 : D) (a1 : Int) : Option D :=
bif (leZ 0 a1) then (
bd (lenD false a0_0) fun v0 =>
some (.bool (ltZ a1 (v0 : Int)))) else (
some (.bool false))
theorem S35_eq (lp : Lp) (cl : CL) (a0_0 : D) (a0_1 : D) (a1 : Int) : runS lp Tryz.prog TryzG cl 35 [(.agg [(.fz a0_0), (.fz a0_1)]), (.int .i64 a1)] = S35 lp cl a0_0 a0_1 a1 := by kernel_rfl
def S35_w (lp : Lp) (cl : CL) (args : List D) : Option D := bd (Sh.gds [(.agg [.fz, .fz]), (.int .i64)] args) fun v => S35 lp cl v.1.1 v.1.2.1 v.2.1
theorem S35_t : TabE TryzE 35 S35_w := tab_of (by kernel_rfl) fun lp cl v => S35_eq lp cl v.1.1 v.1.2.1 v.2.1

/- 36 invigilator/invigilatorref03.Bottom -/
def S36 (lp : Lp) (cl : CL) (a0_0 : D) (a0_1 : D) : Option D :=
clT q4 (cl 64 [(.agg [a0_0, a0_1]), (.int .i64 0), (.int .i64 0)]) fun (v1 : Int) =>
bif (!(eqZ v1 0)) then (
some (.tup [(.int .i64 0), (.int .i64 v1)])) else (
clT q19 (cl 60 [(.agg [a0_0, a0_1])]) fun (v3 : D) =>
lp.run (fun (((_, t5v4, t6v4, t7v4, _), ((b0v4_0, b0v4_1, _), _)) : (Unit × D × Int × Int × Unit) × ((D × D × Unit) × Unit)) =>
bd (lenD false b0v4_0) fun v5 =>
bif (ltZ t7v4 (v5 : Int)) then (
clT q4 (cl 61 [t5v4, (.int .i64 t7v4), (.int .i64 t6v4)]) fun (v7 : Int) =>
some (.inl (((), t5v4, v7, (wrapD .i64 (t7v4 + 1)), ()), ((b0v4_0, b0v4_1, ()), ())))) else (
rt (
some (.tup [(.int .i64 t6v4), (.int .i64 0)])))) (((), v3, (0 : Int), (0 : Int), ()), ((a0_0, a0_1, ()), ())))
theorem S36_eq (lp : Lp) (cl : CL) (a0_0 : D) (a0_1 : D) : runS lp Tryz.prog TryzG cl 36 [(.agg [(.fz a0_0), (.fz a0_1)])] = S36 lp cl a0_0 a0_1 := by kernel_rfl
def S36_w (lp : Lp) (cl : CL) (args : List D) : Option D := bd (Sh.gds [(.agg [.fz, .fz])] args) fun v => S36 lp cl v.1.1 v.1.2.1
theorem S36_t : TabE TryzE 36 S36_w := tab_of (by kernel_rfl) fun lp cl v => S36_eq lp cl v.1.1 v.1.2.1

/- 37 invigilator/invigilatorref03.Below -/
def S37 (lp : Lp) (cl : CL) (a0_0 : D) (a0_1 : D) (a1 : Int) (a2 : Int) : Option D :=
bif (leZ 0 a1) then (
bd (lenD false a0_1) fun v0 =>
bif (ltZ a1 (v0 : Int)) then (
bif (leZ 0 a2) then (
ixT q13 1 a0_1 (.int .i64 a1) none fun (v3 : Int) =>
bd (shrD .u8 v3 a2) fun v4 =>
bd (remD v4 2) fun v5 =>
some (.bool (eqZ v5 1))) else (
some (.bool false))) else (
some (.bool false))) else (
some (.bool false))
theorem S37_eq (lp : Lp) (cl : CL) (a0_0 : D) (a0_1 : D) (a1 : Int) (a2 : Int) : runS lp Tryz.prog TryzG cl 37 [(.agg [(.fz a0_0), (.fz a0_1)]), (.int .i64 a1), (.int .i64 a2)] = S37 lp cl a0_0 a0_1 a1 a2 := by kernel_rfl
def S37_w (lp : Lp) (cl : CL) (args : List D) : Option D := bd (Sh.gds [(.agg [.fz, .fz]), (.int .i64), (.int .i64)] args) fun v => S37 lp cl v.1.1 v.1.2.1 v.2.1 v.2.2.1
theorem S37_t : TabE TryzE 37 S37_w := tab_of (by kernel_rfl) fun lp cl v => S37_eq lp cl v.1.1 v.1.2.1 v.2.1 v.2.2.1

/- 41 invigilator/invigilatorref12.kinds -/
def S41 (lp : Lp) (cl : CL) (a0 : Int) (a1 : D) : Option D :=
lp.run (fun (((t0v0, t1v0, t5v0, _), (_)) : (Int × D × Int × Unit) × (Unit)) =>
bd (lenD false t1v0) fun v1 =>
bif (ltZ t5v0 (v1 : Int)) then (
ixT q4 1 t1v0 (.int .i64 t5v0) none fun (v4 : Int) =>
bif (!(eqZ v4 1)) then (
ixT q4 1 t1v0 (.int .i64 t5v0) none fun (v7 : Int) =>
bif (!(eqZ v7 2)) then (
rt (
some (.bool false))) else (
some (.inl ((t0v0, t1v0, (wrapD .i64 (t5v0 + 1)), ()), (()))))) else (
some (.inl ((t0v0, t1v0, (wrapD .i64 (t5v0 + 1)), ()), (()))))) else (
rt (
clT q20 (cl 70 [(.int .i64 t0v0)]) fun (v9 : (Bool × Bool × Unit)) =>
bj (α := (Int × D × Unit) × (Unit)) (
bif v9.1 then (
ixT q4 1 t1v0 (.int .i64 0) none fun (v13 : Int) =>
bif (!(eqZ v13 1)) then (
rt (
some (.bool false))) else (
bd (lenD false t1v0) fun v14 =>
bif (eqZ (v14 : Int) 2) then (
bif v9.2.1 then (
ixT q4 1 t1v0 (.int .i64 1) none fun (v17 : Int) =>
bif (!(eqZ v17 1)) then (
rt (
some (.bool false))) else (
some (.inl ((t0v0, t1v0, ()), (()))))) else (
some (.inl ((t0v0, t1v0, ()), (()))))) else (
some (.inl ((t0v0, t1v0, ()), (())))))) else (
bd (lenD false t1v0) fun v18 =>
bif (eqZ (v18 : Int) 2) then (
bif v9.2.1 then (
ixT q4 1 t1v0 (.int .i64 1) none fun (v21 : Int) =>
bif (!(eqZ v21 1)) then (
rt (
some (.bool false))) else (
some (.inl ((t0v0, t1v0, ()), (()))))) else (
some (.inl ((t0v0, t1v0, ()), (()))))) else (
some (.inl ((t0v0, t1v0, ()), (())))))) fun (((t0v10, t1v10, _), (_)) : (Int × D × Unit) × (Unit)) =>
bif (!(eqZ t0v10 23)) then (
bif (!(eqZ t0v10 24)) then (
bif (!(eqZ t0v10 37)) then (
bif (!(eqZ t0v10 39)) then (
some (.bool true)) else (
ixT q4 1 t1v10 (.int .i64 0) none fun (v24 : Int) =>
ixT q4 1 t1v10 (.int .i64 1) none fun (v27 : Int) =>
some (.bool (eqZ v24 v27)))) else (
ixT q4 1 t1v10 (.int .i64 0) none fun (v30 : Int) =>
ixT q4 1 t1v10 (.int .i64 1) none fun (v33 : Int) =>
some (.bool (eqZ v30 v33)))) else (
ixT q4 1 t1v10 (.int .i64 0) none fun (v36 : Int) =>
ixT q4 1 t1v10 (.int .i64 1) none fun (v39 : Int) =>
some (.bool (eqZ v36 v39)))) else (
ixT q4 1 t1v10 (.int .i64 0) none fun (v42 : Int) =>
ixT q4 1 t1v10 (.int .i64 1) none fun (v45 : Int) =>
some (.bool (eqZ v42 v45)))))) ((a0, a1, (0 : Int), ()), (()))
theorem S41_eq (lp : Lp) (cl : CL) (a0 : Int) (a1 : D) : runS lp Tryz.prog TryzG cl 41 [(.int .i64 a0), (.fz a1)] = S41 lp cl a0 a1 := by kernel_rfl
def S41_w (lp : Lp) (cl : CL) (args : List D) : Option D := bd (Sh.gds [(.int .i64), .fz] args) fun v => S41 lp cl v.1 v.2.1
theorem S41_t : TabE TryzE 41 S41_w := tab_of (by kernel_rfl) fun lp cl v => S41_eq lp cl v.1 v.2.1

/- 45 math/bits.Len8 -/
def S45 (lp : Lp) (cl : CL) (a0 : Int) : Option D :=
bd (ixStr [0, 1, 2, 2, 3, 3, 3, 3, 4, 4, 4, 4, 4, 4, 4, 4, 5, 5, 5, 5, 5, 5, 5, 5, 5, 5, 5, 5, 5, 5, 5, 5, 6, 6, 6, 6, 6, 6, 6, 6, 6, 6, 6, 6, 6, 6, 6, 6, 6, 6, 6, 6, 6, 6, 6, 6, 6, 6, 6, 6, 6, 6, 6, 6, 7, 7, 7, 7, 7, 7, 7, 7, 7, 7, 7, 7, 7, 7, 7, 7, 7, 7, 7, 7, 7, 7, 7, 7, 7, 7, 7, 7, 7, 7, 7, 7, 7, 7, 7, 7, 7, 7, 7, 7, 7, 7, 7, 7, 7, 7, 7, 7, 7, 7, 7, 7, 7, 7, 7, 7, 7, 7, 7, 7, 7, 7, 7, 7, 8, 8, 8, 8, 8, 8, 8, 8, 8, 8, 8, 8, 8, 8, 8, 8, 8, 8, 8, 8, 8, 8, 8, 8, 8, 8, 8, 8, 8, 8, 8, 8, 8, 8, 8, 8, 8, 8, 8, 8, 8, 8, 8, 8, 8, 8, 8, 8, 8, 8, 8, 8, 8, 8, 8, 8, 8, 8, 8, 8, 8, 8, 8, 8, 8, 8, 8, 8, 8, 8, 8, 8, 8, 8, 8, 8, 8, 8, 8, 8, 8, 8, 8, 8, 8, 8, 8, 8, 8, 8, 8, 8, 8, 8, 8, 8, 8, 8, 8, 8, 8, 8, 8, 8, 8, 8, 8, 8, 8, 8, 8, 8, 8, 8, 8, 8, 8, 8, 8, 8, 8, 8, 8, 8, 8, 8, 8, 8] (.int .u8 a0)) fun v0 =>
some (.int .i64 (wrapD .i64 v0))
theorem S45_eq (lp : Lp) (cl : CL) (a0 : Int) : runS lp Tryz.prog TryzG cl 45 [(.int .u8 a0)] = S45 lp cl a0 := by kernel_rfl
def S45_w (lp : Lp) (cl : CL) (args : List D) : Option D := bd (Sh.gds [(.int .u8)] args) fun v => S45 lp cl v.1
theorem S45_t : TabE TryzE 45 S45_w := tab_of (by kernel_rfl) fun lp cl v => S45_eq lp cl v.1

/- 50 (invigilator/prims.prim).arity -/
def S50 (lp : Lp) (cl : CL) (a0_0 : List UInt8) (a0_1 : D) (a0_2 : D) (a0_3 : D) (a0_4 : D) : Option D :=
ixT q12 1 a0_1 (.int .i64 0) none fun (v2 : List UInt8) =>
bd (quoD .i64 (List.length v2 : Int) 2) fun v3 =>
some (.int .i64 (wrapD .i64 (v3 - 1)))
theorem S50_eq (lp : Lp) (cl : CL) (a0_0 : List UInt8) (a0_1 : D) (a0_2 : D) (a0_3 : D) (a0_4 : D) : runS lp Tryz.prog TryzG cl 50 [(.agg [(.str a0_0), (.fz a0_1), (.fz a0_2), (.fz a0_3), (.fz a0_4)])] = S50 lp cl a0_0 a0_1 a0_2 a0_3 a0_4 := by kernel_rfl
def S50_w (lp : Lp) (cl : CL) (args : List D) : Option D := bd (Sh.gds [(.agg [.str, .fz, .fz, .fz, .fz])] args) fun v => S50 lp cl v.1.1 v.1.2.1 v.1.2.2.1 v.1.2.2.2.1 v.1.2.2.2.2.1
theorem S50_t : TabE TryzE 50 S50_w := tab_of (by kernel_rfl) fun lp cl v => S50_eq lp cl v.1.1 v.1.2.1 v.1.2.2.1 v.1.2.2.2.1 v.1.2.2.2.2.1

/- 57 invigilator/lattice.Join -/
def S57 (lp : Lp) (cl : CL) (a0_0 : D) (a0_1 : D) (a1 : Int) (a2 : Int) : Option D :=
clT q4 (cl 74 [(.iptr [a0_0, a0_1] 0), (.sl true 2 [(.int .i64 a1), (.int .i64 a2)])]) fun (v1 : Int) =>
bif (!(eqZ v1 0)) then (
some (.tup [(.int .i64 0), (.int .i64 v1)])) else (
clT q14 (cl 46 [(.iptr [a0_0, a0_1] 0)]) fun (v3 : (Int × Int × Int × Int × Int × Int × Int × Int × Int × Int × Int × Int × Int × Int × Int × Int × Int × Unit)) =>
clT q4 (cl 47 [(.agg [(.int .u8 v3.2.1), (.int .u8 v3.2.2.1), (.int .u8 v3.2.2.2.1), (.int .u8 v3.2.2.2.2.1), (.int .u8 v3.2.2.2.2.2.1), (.int .u8 v3.2.2.2.2.2.2.1), (.int .u8 v3.2.2.2.2.2.2.2.1), (.int .u8 v3.2.2.2.2.2.2.2.2.1)]), (.int .i64 v3.1), (.int .i64 a1), (.int .i64 a2)]) fun (v5 : Int) =>
some (.tup [(.int .i64 v5), (.int .i64 0)]))
theorem S57_eq (lp : Lp) (cl : CL) (a0_0 : D) (a0_1 : D) (a1 : Int) (a2 : Int) : runS lp Tryz.prog TryzG cl 57 [(.agg [(.fz a0_0), (.fz a0_1)]), (.int .i64 a1), (.int .i64 a2)] = S57 lp cl a0_0 a0_1 a1 a2 := by kernel_rfl
def S57_w (lp : Lp) (cl : CL) (args : List D) : Option D := bd (Sh.gds [(.agg [.fz, .fz]), (.int .i64), (.int .i64)] args) fun v => S57 lp cl v.1.1 v.1.2.1 v.2.1 v.2.2.1
theorem S57_t : TabE TryzE 57 S57_w := tab_of (by kernel_rfl) fun lp cl v => S57_eq lp cl v.1.1 v.1.2.1 v.2.1 v.2.2.1

/- 58 invigilator/invigilatorref03.names -/
def S58 (lp : Lp) (cl : CL) (a0 : D) : Option D :=
bj (α := (D × Unit) × (Unit)) (
bd (lenD false a0) fun v1 =>
bif (ltZ (v1 : Int) 1) then (
rt (
some (.tup [(.int .i64 (-1)), (.int .i64 3)]))) else (
bd (lenD false a0) fun v2 =>
bif (ltZ 8 (v2 : Int)) then (
rt (
some (.tup [(.int .i64 (-1)), (.int .i64 3)]))) else (
some (.inl ((a0, ()), (())))))) fun (((t0v0, _), (_)) : (D × Unit) × (Unit)) =>
lp.run (fun (((t0v3, t4v3, _), (_)) : (D × Int × Unit) × (Unit)) =>
bd (lenD false t0v3) fun v4 =>
bif (ltZ t4v3 (v4 : Int)) then (
ixT q12 1 t0v3 (.int .i64 t4v3) none fun (v7 : List UInt8) =>
clT q0 (cl 76 [(.str v7)]) fun (v9 : Bool) =>
bif (!v9) then (
rt (
some (.tup [(.int .i64 t4v3), (.int .i64 6)]))) else (
lp.run (fun (((t0v10, t4v10, t5v10, _), (_)) : (D × Int × Int × Unit) × (Unit)) =>
bif (ltZ t5v10 t4v10) then (
ixT q12 1 t0v10 (.int .i64 t5v10) none fun (v13 : List UInt8) =>
ixT q12 1 t0v10 (.int .i64 t4v10) none fun (v16 : List UInt8) =>
bif (eqS v13 v16) then (
rt (
rt (
some (.tup [(.int .i64 t4v10), (.int .i64 8)])))) else (
some (.inl ((t0v10, t4v10, (wrapD .i64 (t5v10 + 1)), ()), (()))))) else (
rt (
some (.inl ((t0v10, (wrapD .i64 (t4v10 + 1)), ()), (())))))) ((t0v3, t4v3, (0 : Int), ()), (())))) else (
rt (
some (.tup [(.int .i64 0), (.int .i64 0)])))) ((t0v0, (0 : Int), ()), (()))
theorem S58_eq (lp : Lp) (cl : CL) (a0 : D) : runS lp Tryz.prog TryzG cl 58 [(.fz a0)] = S58 lp cl a0 := by kernel_rfl
def S58_w (lp : Lp) (cl : CL) (args : List D) : Option D := bd (Sh.gds [.fz] args) fun v => S58 lp cl v.1
theorem S58_t : TabE TryzE 58 S58_w := tab_of (by kernel_rfl) fun lp cl v => S58_eq lp cl v.1

/- 65 invigilator/invigilatorref03.join -/
def S65 (lp : Lp) (cl : CL) (a0_0 : D) (a0_1 : D) (a1 : Int) (a2 : Int) : Option D :=
clT q4 (cl 61 [a0_1, (.int .i64 a1), (.int .i64 a2)]) fun (v1 : Int) =>
some (.int .i64 v1)
theorem S65_eq (lp : Lp) (cl : CL) (a0_0 : D) (a0_1 : D) (a1 : Int) (a2 : Int) : runS lp Tryz.prog TryzG cl 65 [(.agg [(.fz a0_0), (.fz a0_1)]), (.int .i64 a1), (.int .i64 a2)] = S65 lp cl a0_0 a0_1 a1 a2 := by kernel_rfl
def S65_w (lp : Lp) (cl : CL) (args : List D) : Option D := bd (Sh.gds [(.agg [.fz, .fz]), (.int .i64), (.int .i64)] args) fun v => S65 lp cl v.1.1 v.1.2.1 v.2.1 v.2.2.1
theorem S65_t : TabE TryzE 65 S65_w := tab_of (by kernel_rfl) fun lp cl v => S65_eq lp cl v.1.1 v.1.2.1 v.2.1 v.2.2.1

/- 73 invigilator/prims.table -/
def S73 (lp : Lp) (cl : CL)  : Option D :=
tkT q19 g0 0 none fun (v1 : D) =>
bd (slVF 1 v1 none (some (.int .i64 1)) none) fun v2 =>
clT q19 (cl 84 [(.sl true 1 [(.int .i64 12)])]) fun (v4 : D) =>
tkT q19 g0 0 none fun (v6 : D) =>
bd (slVF 1 v6 none (some (.int .i64 1)) none) fun v7 =>
clT q19 (cl 84 [(.sl true 1 [(.int .i64 12)])]) fun (v9 : D) =>
tkT q19 g0 0 none fun (v11 : D) =>
bd (slVF 1 v11 none (some (.int .i64 1)) none) fun v12 =>
clT q19 (cl 84 [(.sl true 2 [(.int .i64 13), (.int .i64 15)])]) fun (v14 : D) =>
clT q19 (cl 84 [(.sl true 1 [(.int .i64 12)])]) fun (v16 : D) =>
clT q19 (cl 84 [(.sl true 1 [(.int .i64 13)])]) fun (v18 : D) =>
clT q19 (cl 84 [(.sl true 1 [(.int .i64 13)])]) fun (v20 : D) =>
clT q19 (cl 84 [(.sl true 1 [(.int .i64 12)])]) fun (v22 : D) =>
clT q21 (cl 96 [(.str [97, 100, 100]), (.sl true 1 [(.int .i64 12)])]) fun (v24 : (List UInt8 × D × D × D × D × Unit)) =>
clT q21 (cl 96 [(.str [115, 117, 98]), (.sl true 1 [(.int .i64 12)])]) fun (v26 : (List UInt8 × D × D × D × D × Unit)) =>
clT q21 (cl 96 [(.str [109, 117, 108]), (.sl true 1 [(.int .i64 12)])]) fun (v28 : (List UInt8 × D × D × D × D × Unit)) =>
clT q21 (cl 96 [(.str [100, 105, 118]), (.sl true 2 [(.int .i64 12), (.int .i64 13)])]) fun (v30 : (List UInt8 × D × D × D × D × Unit)) =>
clT q21 (cl 96 [(.str [109, 111, 100]), (.sl true 1 [(.int .i64 13)])]) fun (v32 : (List UInt8 × D × D × D × D × Unit)) =>
clT q21 (cl 96 [(.str [112, 108, 117, 115]), .nils]) fun (v34 : (List UInt8 × D × D × D × D × Unit)) =>
clT q21 (cl 96 [(.str [109, 105, 110, 117, 115]), .nils]) fun (v36 : (List UInt8 × D × D × D × D × Unit)) =>
clT q21 (cl 96 [(.str [116, 105, 109, 101, 115]), .nils]) fun (v38 : (List UInt8 × D × D × D × D × Unit)) =>
tkT q19 g1 0 none fun (v40 : D) =>
clT q19 (cl 84 [(.sl true 1 [(.int .i64 11)])]) fun (v42 : D) =>
tkT q19 g1 0 none fun (v44 : D) =>
clT q19 (cl 84 [(.sl true 1 [(.int .i64 11)])]) fun (v46 : D) =>
clT q21 (cl 96 [(.str [108, 116]), .nils]) fun (v48 : (List UInt8 × D × D × D × D × Unit)) =>
clT q21 (cl 96 [(.str [108, 101]), .nils]) fun (v50 : (List UInt8 × D × D × D × D × Unit)) =>
clT q21 (cl 96 [(.str [103, 116]), .nils]) fun (v52 : (List UInt8 × D × D × D × D × Unit)) =>
clT q21 (cl 96 [(.str [103, 101]), .nils]) fun (v54 : (List UInt8 × D × D × D × D × Unit)) =>
clT q21 (cl 96 [(.str [97, 110, 100]), .nils]) fun (v56 : (List UInt8 × D × D × D × D × Unit)) =>
clT q21 (cl 96 [(.str [111, 114]), .nils]) fun (v58 : (List UInt8 × D × D × D × D × Unit)) =>
clT q21 (cl 96 [(.str [109, 105, 110]), .nils]) fun (v60 : (List UInt8 × D × D × D × D × Unit)) =>
clT q21 (cl 96 [(.str [109, 97, 120]), .nils]) fun (v62 : (List UInt8 × D × D × D × D × Unit)) =>
clT q19 (cl 84 [(.sl true 2 [(.int .i64 13), (.int .i64 15)])]) fun (v64 : D) =>
clT q19 (cl 84 [(.sl true 3 [(.int .i64 11), (.int .i64 13), (.int .i64 15)])]) fun (v66 : D) =>
clT q19 (cl 84 [(.sl true 2 [(.int .i64 11), (.int .i64 15)])]) fun (v68 : D) =>
clT q19 (cl 84 [(.sl true 1 [(.int .i64 14)])]) fun (v70 : D) =>
clT q19 (cl 84 [(.sl true 1 [(.int .i64 11)])]) fun (v72 : D) =>
some (.sl (Nat.beq 41 41) 41 [(.str []), .nils, .nils, .nilfn, .nilfn, (.str [110, 101, 103]), v2, v4, .nilfn, .nilfn, (.str [97, 98, 115]), v7, v9, .nilfn, .nilfn, (.str [110, 111, 116]), v12, .nils, .nilfn, .nilfn, (.str [115, 104, 97, 112, 101]), (.sl true 1 [(.str [107, 110, 105, 49])]), .nils, (.fn (.func 85) [] []), .nilfn, (.str [114, 97, 118, 101, 108]), (.sl true 1 [(.str [107, 110, 107, 49])]), .nils, (.fn (.func 86) [] []), .nilfn, (.str [114, 101, 118, 101, 114, 115, 101]), (.sl true 2 [(.str [107, 49, 107, 49]), (.str [107, 50, 107, 50])]), .nils, (.fn (.func 87) [] []), .nilfn, (.str [102, 108, 105, 112]), (.sl true 1 [(.str [107, 50, 107, 50])]), .nils, (.fn (.func 88) [] []), .nilfn, (.str [105, 111, 116, 97]), (.sl true 1 [(.str [105, 48, 105, 49])]), v14, (.fn (.func 89) [] []), .nilfn, (.str [115, 117, 109]), (.sl true 2 [(.str [105, 49, 105, 48]), (.str [105, 50, 105, 49])]), v16, (.fn (.func 90) [] []), .nilfn, (.str [108, 101, 97, 115, 116]), (.sl true 2 [(.str [105, 49, 105, 48]), (.str [105, 50, 105, 49])]), v18, (.fn (.func 91) [] []), .nilfn, (.str [109, 111, 115, 116]), (.sl true 2 [(.str [105, 49, 105, 48]), (.str [105, 50, 105, 49])]), v20, (.fn (.func 92) [] []), .nilfn, (.str [99, 111, 117, 110, 116]), (.sl true 2 [(.str [107, 49, 105, 48]), (.str [107, 50, 105, 49])]), .nils, (.fn (.func 93) [] []), .nilfn, (.str [115, 99, 97, 110]), (.sl true 2 [(.str [105, 49, 105, 49]), (.str [105, 50, 105, 50])]), v22, (.fn (.func 94) [] []), .nilfn, (.str [103, 114, 97, 100, 101]), (.sl true 1 [(.str [105, 49, 105, 49])]), .nils, (.fn (.func 95) [] []), .nilfn, (.str v24.1), v24.2.1, v24.2.2.1, v24.2.2.2.1, v24.2.2.2.2.1, (.str v26.1), v26.2.1, v26.2.2.1, v26.2.2.2.1, v26.2.2.2.2.1, (.str v28.1), v28.2.1, v28.2.2.1, v28.2.2.2.1, v28.2.2.2.2.1, (.str v30.1), v30.2.1, v30.2.2.1, v30.2.2.2.1, v30.2.2.2.2.1, (.str v32.1), v32.2.1, v32.2.2.1, v32.2.2.2.1, v32.2.2.2.2.1, (.str v34.1), v34.2.1, v34.2.2.1, v34.2.2.2.1, v34.2.2.2.2.1, (.str v36.1), v36.2.1, v36.2.2.1, v36.2.2.2.1, v36.2.2.2.2.1, (.str v38.1), v38.2.1, v38.2.2.1, v38.2.2.2.1, v38.2.2.2.2.1, (.str [101, 113]), v40, v42, .nilfn, .nilfn, (.str [110, 101]), v44, v46, .nilfn, .nilfn, (.str v48.1), v48.2.1, v48.2.2.1, v48.2.2.2.1, v48.2.2.2.2.1, (.str v50.1), v50.2.1, v50.2.2.1, v50.2.2.2.1, v50.2.2.2.2.1, (.str v52.1), v52.2.1, v52.2.2.1, v52.2.2.2.1, v52.2.2.2.2.1, (.str v54.1), v54.2.1, v54.2.2.1, v54.2.2.2.1, v54.2.2.2.2.1, (.str v56.1), v56.2.1, v56.2.2.1, v56.2.2.2.1, v56.2.2.2.2.1, (.str v58.1), v58.2.1, v58.2.2.1, v58.2.2.2.1, v58.2.2.2.2.1, (.str v60.1), v60.2.1, v60.2.2.1, v60.2.2.2.1, v60.2.2.2.2.1, (.str v62.1), v62.2.1, v62.2.2.1, v62.2.2.2.1, v62.2.2.2.2.1, (.str [116, 97, 107, 101]), (.sl true 1 [(.str [105, 48, 107, 49, 107, 49])]), .nils, .nilfn, (.fn (.func 97) [] []), (.str [100, 114, 111, 112]), (.sl true 1 [(.str [105, 48, 107, 49, 107, 49])]), .nils, .nilfn, (.fn (.func 98) [] []), (.str [102, 105, 108, 108]), (.sl true 1 [(.str [105, 48, 107, 48, 107, 49])]), v64, .nilfn, (.fn (.func 99) [] []), (.str [103, 114, 105, 100]), (.sl true 1 [(.str [105, 49, 107, 49, 107, 50])]), v66, .nilfn, (.fn (.func 100) [] []), (.str [99, 97, 116]), (.sl true 2 [(.str [107, 49, 107, 49, 107, 49]), (.str [107, 50, 107, 50, 107, 50])]), v68, .nilfn, (.fn (.func 101) [] []), (.str [97, 116]), (.sl true 2 [(.str [107, 49, 105, 48, 107, 48]), (.str [107, 49, 105, 49, 107, 49])]), v70, .nilfn, (.fn (.func 102) [] []), (.str [105, 110]), (.sl true 1 [(.str [107, 110, 107, 49, 105, 110])]), .nils, .nilfn, (.fn (.func 103) [] []), (.str [112, 105, 99, 107]), (.sl true 1 [(.str [105, 49, 107, 49, 107, 49])]), v72, .nilfn, (.fn (.func 104) [] [])])
theorem S73_eq (lp : Lp) (cl : CL)  : runS lp Tryz.prog TryzG cl 73 [] = S73 lp cl  := by kernel_rfl
def S73_w (lp : Lp) (cl : CL) (args : List D) : Option D := bd (Sh.gds [] args) fun v => S73 lp cl 
theorem S73_t : TabE TryzE 73 S73_w := tab_of (by kernel_rfl) fun lp cl v => S73_eq lp cl 

/- 75 invigilator/lattice.end[invigilator/lattice.ups] -/
def S75 (lp : Lp) (cl : CL) (a0_0 : Int) (a0_1 : Int) (a0_2 : Int) (a0_3 : Int) (a0_4 : Int) (a0_5 : Int) (a0_6 : Int) (a0_7 : Int) (a1 : Int) : Option D :=
lp.run (fun (((t1v0, _, t5v0, _), (b0v0, _)) : (Int × Unit × Int × Unit) × (List D × Unit)) =>
bif (ltZ t5v0 (wrapD .i64 (t1v0 - 1))) then (
bd (idxD 8 (.int .i64 t5v0)) fun v1 =>
tkT q13 b0v0 (0 + v1 * 1) none fun (v3 : Int) =>
clT q4 (cl 105 [(.int .u8 v3)]) fun (v5 : Int) =>
bif (ltZ v5 t1v0) then (
some (.inl ((t1v0, (), (wrapD .i64 (t5v0 + 1)), ()), (b0v0, ())))) else (
rt (
some (.int .i64 t5v0)))) else (
rt (
some (.int .i64 t5v0)))) ((a1, (), (0 : Int), ()), ([(.int .u8 a0_0), (.int .u8 a0_1), (.int .u8 a0_2), (.int .u8 a0_3), (.int .u8 a0_4), (.int .u8 a0_5), (.int .u8 a0_6), (.int .u8 a0_7)], ()))
theorem S75_eq (lp : Lp) (cl : CL) (a0_0 : Int) (a0_1 : Int) (a0_2 : Int) (a0_3 : Int) (a0_4 : Int) (a0_5 : Int) (a0_6 : Int) (a0_7 : Int) (a1 : Int) : runS lp Tryz.prog TryzG cl 75 [(.agg [(.int .u8 a0_0), (.int .u8 a0_1), (.int .u8 a0_2), (.int .u8 a0_3), (.int .u8 a0_4), (.int .u8 a0_5), (.int .u8 a0_6), (.int .u8 a0_7)]), (.int .i64 a1)] = S75 lp cl a0_0 a0_1 a0_2 a0_3 a0_4 a0_5 a0_6 a0_7 a1 := by kernel_rfl
def S75_w (lp : Lp) (cl : CL) (args : List D) : Option D := bd (Sh.gds [(.agg [(.int .u8), (.int .u8), (.int .u8), (.int .u8), (.int .u8), (.int .u8), (.int .u8), (.int .u8)]), (.int .i64)] args) fun v => S75 lp cl v.1.1 v.1.2.1 v.1.2.2.1 v.1.2.2.2.1 v.1.2.2.2.2.1 v.1.2.2.2.2.2.1 v.1.2.2.2.2.2.2.1 v.1.2.2.2.2.2.2.2.1 v.2.1
theorem S75_t : TabE TryzE 75 S75_w := tab_of (by kernel_rfl) fun lp cl v => S75_eq lp cl v.1.1 v.1.2.1 v.1.2.2.1 v.1.2.2.2.1 v.1.2.2.2.2.1 v.1.2.2.2.2.2.1 v.1.2.2.2.2.2.2.1 v.1.2.2.2.2.2.2.2.1 v.2.1

/- 96 invigilator/prims.pair -/
def S96 (lp : Lp) (cl : CL) (a0 : List UInt8) (a1 : D) : Option D :=
tkT q19 g0 0 none fun (v1 : D) =>
bd (slVF 1 v1 (some (.int .i64 1)) none none) fun v2 =>
clT q19 (cl 84 [(.sl true 1 [(.int .i64 11)])]) fun (v4 : D) =>
bd (slF 1 a1) fun v5 =>
bif Nat.beq v5.2 0 then (
bd (isSl v4) fun _ =>
some (.agg [(.str a0), v2, v4, .nilfn, .nilfn])) else (
bd (apF v4 1 v5.2 8) fun v6 =>
bd (frSl false 0 1 (v6.2 + v5.2) (v6.1 ++ v5.1)) fun v7 =>
some (.agg [(.str a0), v2, v7, .nilfn, .nilfn]))
theorem S96_eq (lp : Lp) (cl : CL) (a0 : List UInt8) (a1 : D) : runS lp Tryz.prog TryzG cl 96 [(.str a0), (.fz a1)] = S96 lp cl a0 a1 := by kernel_rfl
def S96_w (lp : Lp) (cl : CL) (args : List D) : Option D := bd (Sh.gds [.str, .fz] args) fun v => S96 lp cl v.1 v.2.1
theorem S96_t : TabE TryzE 96 S96_w := tab_of (by kernel_rfl) fun lp cl v => S96_eq lp cl v.1 v.2.1

/- 106 invigilator/invigilatorref01.lower -/
def S106 (lp : Lp) (cl : CL) (a0 : Int) : Option D :=
bif (leZ 97 a0) then (
some (.bool (leZ a0 122))) else (
some (.bool false))
theorem S106_eq (lp : Lp) (cl : CL) (a0 : Int) : runS lp Tryz.prog TryzG cl 106 [(.int .u8 a0)] = S106 lp cl a0 := by kernel_rfl
def S106_w (lp : Lp) (cl : CL) (args : List D) : Option D := bd (Sh.gds [(.int .u8)] args) fun v => S106 lp cl v.1
theorem S106_t : TabE TryzE 106 S106_w := tab_of (by kernel_rfl) fun lp cl v => S106_eq lp cl v.1

/- 107 invigilator/invigilatorref01.digit -/
def S107 (lp : Lp) (cl : CL) (a0 : Int) : Option D :=
bif (leZ 48 a0) then (
some (.bool (leZ a0 57))) else (
some (.bool false))
theorem S107_eq (lp : Lp) (cl : CL) (a0 : Int) : runS lp Tryz.prog TryzG cl 107 [(.int .u8 a0)] = S107 lp cl a0 := by kernel_rfl
def S107_w (lp : Lp) (cl : CL) (args : List D) : Option D := bd (Sh.gds [(.int .u8)] args) fun v => S107 lp cl v.1
theorem S107_t : TabE TryzE 107 S107_w := tab_of (by kernel_rfl) fun lp cl v => S107_eq lp cl v.1

/- 110 strings.trimRightByte -/
def S110 (lp : Lp) (cl : CL) (a0 : List UInt8) (a1 : Int) : Option D :=
lp.run (fun (((t0v0, t1v0, _), (_)) : (List UInt8 × Int × Unit) × (Unit)) =>
bif (ltZ 0 (List.length t0v0 : Int)) then (
bd (ixStr t0v0 (.int .i64 (wrapD .i64 ((List.length t0v0 : Int) - 1)))) fun v1 =>
bif (eqZ v1 t1v0) then (
bd (slStr t0v0 none (some (.int .i64 (wrapD .i64 ((List.length t0v0 : Int) - 1))))) fun v2 =>
some (.inl ((v2, t1v0, ()), (())))) else (
rt (
some (.str t0v0)))) else (
rt (
some (.str t0v0)))) ((a0, a1, ()), (()))
theorem S110_eq (lp : Lp) (cl : CL) (a0 : List UInt8) (a1 : Int) : runS lp Tryz.prog TryzG cl 110 [(.str a0), (.int .u8 a1)] = S110 lp cl a0 a1 := by kernel_rfl
def S110_w (lp : Lp) (cl : CL) (args : List D) : Option D := bd (Sh.gds [.str, (.int .u8)] args) fun v => S110 lp cl v.1 v.2.1
theorem S110_t : TabE TryzE 110 S110_w := tab_of (by kernel_rfl) fun lp cl v => S110_eq lp cl v.1 v.2.1

/- 111 strings.makeASCIISet -/
def S111 (lp : Lp) (cl : CL) (a0 : List UInt8) : Option D :=
lp.run (fun (((t0v0, _, t4v0, _), (b0v0, _)) : (List UInt8 × Unit × Int × Unit) × (List D × Unit)) =>
bif (ltZ t4v0 (List.length t0v0 : Int)) then (
bd (ixStr t0v0 (.int .i64 t4v0)) fun v1 =>
bif (leZ 128 v1) then (
bd (takeAt b0v0 0 (some 256)) fun v2 =>
bd (cellsF 256 v2) fun v3 =>
bd (inR 0 256 (List.length b0v0)) fun _ =>
rt (
bd (takeAt (setQ b0v0 0 v3) 0 (some 256)) fun v4 =>
some (.tup [v4, (.bool false)]))) else (
bd (idxD 256 (.int .u8 v1)) fun v5 =>
bd (inR (0 + v5 * 1) 1 (List.length b0v0)) fun _ =>
some (.inl ((t0v0, (), (wrapD .i64 (t4v0 + 1)), ()), ((setQ b0v0 (0 + v5 * 1) [(.bool true)]), ()))))) else (
rt (
bd (takeAt b0v0 0 (some 256)) fun v6 =>
bd (cellsF 256 v6) fun v7 =>
bd (inR 0 256 (List.length b0v0)) fun _ =>
bd (takeAt (setQ b0v0 0 v7) 0 (some 256)) fun v8 =>
some (.tup [v8, (.bool true)])))) ((a0, (), (0 : Int), ()), ([(.bool false), (.bool false), (.bool false), (.bool false), (.bool false), (.bool false), (.bool false), (.bool false), (.bool false), (.bool false), (.bool false), (.bool false), (.bool false), (.bool false), (.bool false), (.bool false), (.bool false), (.bool false), (.bool false), (.bool false), (.bool false), (.bool false), (.bool false), (.bool false), (.bool false), (.bool false), (.bool false), (.bool false), (.bool false), (.bool false), (.bool false), (.bool false), (.bool false), (.bool false), (.bool false), (.bool false), (.bool false), (.bool false), (.bool false), (.bool false), (.bool false), (.bool false), (.bool false), (.bool false), (.bool false), (.bool false), (.bool false), (.bool false), (.bool false), (.bool false), (.bool false), (.bool false), (.bool false), (.bool false), (.bool false), (.bool false), (.bool false), (.bool false), (.bool false), (.bool false), (.bool false), (.bool false), (.bool false), (.bool false), (.bool false), (.bool false), (.bool false), (.bool false), (.bool false), (.bool false), (.bool false), (.bool false), (.bool false), (.bool false), (.bool false), (.bool false), (.bool false), (.bool false), (.bool false), (.bool false), (.bool false), (.bool false), (.bool false), (.bool false), (.bool false), (.bool false), (.bool false), (.bool false), (.bool false), (.bool false), (.bool false), (.bool false), (.bool false), (.bool false), (.bool false), (.bool false), (.bool false), (.bool false), (.bool false), (.bool false), (.bool false), (.bool false), (.bool false), (.bool false), (.bool false), (.bool false), (.bool false), (.bool false), (.bool false), (.bool false), (.bool false), (.bool false), (.bool false), (.bool false), (.bool false), (.bool false), (.bool false), (.bool false), (.bool false), (.bool false), (.bool false), (.bool false), (.bool false), (.bool false), (.bool false), (.bool false), (.bool false), (.bool false), (.bool false), (.bool false), (.bool false), (.bool false), (.bool false), (.bool false), (.bool false), (.bool false), (.bool false), (.bool false), (.bool false), (.bool false), (.bool false), (.bool false), (.bool false), (.bool false), (.bool false), (.bool false), (.bool false), (.bool false), (.bool false), (.bool false), (.bool false), (.bool false), (.bool false), (.bool false), (.bool false), (.bool false), (.bool false), (.bool false), (.bool false), (.bool false), (.bool false), (.bool false), (.bool false), (.bool false), (.bool false), (.bool false), (.bool false), (.bool false), (.bool false), (.bool false), (.bool false), (.bool false), (.bool false), (.bool false), (.bool false), (.bool false), (.bool false), (.bool false), (.bool false), (.bool false), (.bool false), (.bool false), (.bool false), (.bool false), (.bool false), (.bool false), (.bool false), (.bool false), (.bool false), (.bool false), (.bool false), (.bool false), (.bool false), (.bool false), (.bool false), (.bool false), (.bool false), (.bool false), (.bool false), (.bool false), (.bool false), (.bool false), (.bool false), (.bool false), (.bool false), (.bool false), (.bool false), (.bool false), (.bool false), (.bool false), (.bool false), (.bool false), (.bool false), (.bool false), (.bool false), (.bool false), (.bool false), (.bool false), (.bool false), (.bool false), (.bool false), (.bool false), (.bool false), (.bool false), (.bool false), (.bool false), (.bool false), (.bool false), (.bool false), (.bool false), (.bool false), (.bool false), (.bool false), (.bool false), (.bool false), (.bool false), (.bool false), (.bool false), (.bool false), (.bool false), (.bool false), (.bool false), (.bool false), (.bool false), (.bool false), (.bool false), (.bool false), (.bool false), (.bool false), (.bool false), (.bool false), (.bool false), (.bool false), (.bool false), (.bool false), (.bool false)], ()))
theorem S111_eq (lp : Lp) (cl : CL) (a0 : List UInt8) : runS lp Tryz.prog TryzG cl 111 [(.str a0)] = S111 lp cl a0 := by kernel_rfl
def S111_w (lp : Lp) (cl : CL) (args : List D) : Option D := bd (Sh.gds [.str] args) fun v => S111 lp cl v.1
theorem S111_t : TabE TryzE 111 S111_w := tab_of (by kernel_rfl) fun lp cl v => S111_eq lp cl v.1

/- 145 unicode/utf8.DecodeLastRuneInString -/
def S145 (lp : Lp) (cl : CL) (a0 : List UInt8) : Option D :=
bif (eqZ (List.length a0 : Int) 0) then (
some (.tup [(.int .i32 65533), (.int .i64 0)])) else (
bd (ixStr a0 (.int .i64 (wrapD .i64 ((List.length a0 : Int) - 1)))) fun v0 =>
bif (ltZ (wrapD .i32 v0) 128) then (
some (.tup [(.int .i32 (wrapD .i32 v0)), (.int .i64 1)])) else (
bj (α := (List UInt8 × Int × Int × Unit) × (Unit)) (
lp.run (fun (((t0v2, t4v2, t5v2, t6v2, _), (_)) : (List UInt8 × Int × Int × Int × Unit) × (Unit)) =>
bif (leZ t6v2 t5v2) then (
bd (ixStr t0v2 (.int .i64 t5v2)) fun v3 =>
clT q0 (cl 158 [(.int .u8 v3)]) fun (v5 : Bool) =>
bif v5 then (
rt (
some (.inl ((t0v2, t4v2, t5v2, ()), (()))))) else (
some (.inl ((t0v2, t4v2, (wrapD .i64 (t5v2 - 1)), t6v2, ()), (()))))) else (
rt (
some (.inl ((t0v2, t4v2, t5v2, ()), (())))))) ((a0, (List.length a0 : Int), (wrapD .i64 ((wrapD .i64 ((List.length a0 : Int) - 1)) - 1)), (mmZ true (wrapD .i64 ((List.length a0 : Int) - 4)) 0), ()), (()))) fun (((t0v1, t4v1, t5v1, _), (_)) : (List UInt8 × Int × Int × Unit) × (Unit)) =>
bj (α := (List UInt8 × Int × Int × Unit) × (Unit)) (
bif (ltZ t5v1 0) then (
some (.inl ((t0v1, t4v1, (0 : Int), ()), (())))) else (
some (.inl ((t0v1, t4v1, t5v1, ()), (()))))) fun (((t0v6, t4v6, t5v6, _), (_)) : (List UInt8 × Int × Int × Unit) × (Unit)) =>
bd (slStr t0v6 (some (.int .i64 t5v6)) (some (.int .i64 t4v6))) fun v7 =>
clT q28 (cl 143 [(.str v7)]) fun (v9 : (Int × Int × Unit)) =>
bif (!(eqZ (wrapD .i64 (t5v6 + v9.2.1)) t4v6)) then (
some (.tup [(.int .i32 65533), (.int .i64 1)])) else (
some (.tup [(.int .i32 v9.1), (.int .i64 v9.2.1)]))))
theorem S145_eq (lp : Lp) (cl : CL) (a0 : List UInt8) : runS lp Tryz.prog TryzG cl 145 [(.str a0)] = S145 lp cl a0 := by kernel_rfl
def S145_w (lp : Lp) (cl : CL) (args : List D) : Option D := bd (Sh.gds [.str] args) fun v => S145 lp cl v.1
theorem S145_t : TabE TryzE 145 S145_w := tab_of (by kernel_rfl) fun lp cl v => S145_eq lp cl v.1

end Go.Proofs.YtblbgjfkbcdlfaaGreatDoor
