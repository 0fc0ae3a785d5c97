/- What the functions come to. -/
import Derived.Test.YtblbgjfkbcdlfaaGreatDoorSH
set_option linter.unusedVariables false
set_option maxRecDepth 100000
namespace Go.Proofs.YtblbgjfkbcdlfaaGreatDoor
open Go Iv
/- 6 invigilator/invigilatorlaw27.far -/
def S6 (lp : Lp) (cl : CL) (a0_0 : D) (a0_1 : D) : Option D :=
clT q0 (cl 16 [(.agg [a0_0, a0_1, .nils, .nils, .nils])]) fun (v1 : Bool) =>
some (.bool v1)
theorem S6_eq (lp : Lp) (cl : CL) (a0_0 : D) (a0_1 : D) : runS lp Tryz.prog TryzG cl 6 [(.agg [(.fz a0_0), (.fz a0_1)])] = S6 lp cl a0_0 a0_1 := by kernel_rfl
def S6_w (lp : Lp) (cl : CL) (args : List D) : Option D := bd (Sh.gds [(.agg [.fz, .fz])] args) fun v => S6 lp cl v.1.1 v.1.2.1
theorem S6_t : TabE TryzE 6 S6_w := tab_of (by kernel_rfl) fun lp cl v => S6_eq lp cl v.1.1 v.1.2.1

/- 8 invigilator/taint.Prim -/
def S8 (lp : Lp) (cl : CL) (a0_0 : D) (a0_1 : D) (a1 : Int) (a2 : D) : Option D :=
clT q7 (cl 19 [(.agg [a0_0, a0_1])]) fun (v1 : (Int × Int × Unit)) =>
bif (!(eqZ v1.2.1 0)) then (
some (.tup [(.agg [(.int .i64 0), (.int .i64 0), (.int .i64 0), (.int .i64 0), (.int .i64 0), (.int .i64 0), (.int .i64 0)]), (.int .i64 v1.2.1)])) else (
bd (lenD false a2) fun v2 =>
lp.run (fun (((t1v3, t2v3, _, _, t10v3, t11v3, t32v3, t33v3, t34v3, _), (b900011v3, b900010v3, b1v3, (b0v3_0, b0v3_1, _), _)) : (Int × D × Unit × Unit × Nat × Nat × D × Int × Int × Unit) × (List D × List D × List D × (D × D × Unit) × Unit)) =>
bif (ltZ t34v3 t33v3) then (
ixT q2 5 t32v3 (.int .i64 t34v3) (some 5) fun (v6 : (Int × Int × Int × Int × Int × Unit)) =>
bd (apG true (t10v3 * 1) (List.length b900010v3) (t10v3 + 1) 8) fun _ =>
bd (apG true (t11v3 * 1) (List.length b900011v3) (t11v3 + 1) 8) fun _ =>
some (.inl ((t1v3, t2v3, (), (), (t10v3 + 1), (t11v3 + 1), t32v3, t33v3, (wrapD .i64 (t34v3 + 1)), ()), ((b900011v3 ++ [(.int .i64 v6.2.1)]), (b900010v3 ++ [(.int .i64 v6.1)]), b1v3, (b0v3_0, b0v3_1, ()), ())))) else (
rt (
bd (frSl false 0 1 t10v3 b900010v3) fun v7 =>
bd (frSl false 0 1 t11v3 b900011v3) fun v8 =>
clT q5 (cl 20 [(.int .i64 t1v3), v7, v8]) fun (v10 : (Int × Int × Int × Unit)) =>
bif (!(eqZ v10.2.2.1 0)) then (
bd (inR 0 7 (List.length b1v3)) fun _ =>
bd (takeAt (setQ b1v3 0 [(.int .i64 0), (.int .i64 0), (.int .i64 0), (.int .i64 0), (.int .i64 0), (.int .i64 0), (.int .i64 0)]) 0 (some 7)) fun v11 =>
some (.tup [v11, (.int .i64 v10.2.2.1)])) else (
bd (lenD false t2v3) fun v12 =>
lp.run (fun (((t1v13, t2v13, _, _, t14v13, t15v13, t61v13, t62v13, t63v13, _), (b1v13, (b0v13_0, b0v13_1, _), _)) : (Int × D × Unit × Unit × Int × Int × D × Int × Int × Unit) × (List D × (D × D × Unit) × Unit)) =>
bif (ltZ t63v13 t62v13) then (
ixT q2 5 t61v13 (.int .i64 t63v13) (some 5) fun (v16 : (Int × Int × Int × Int × Int × Unit)) =>
clT q0 (cl 21 [(.agg [b0v13_0, b0v13_1]), (.agg [(.int .i64 v16.1), (.int .i64 v16.2.1), (.int .i64 v16.2.2.1), (.int .i64 v16.2.2.2.1), (.int .i64 v16.2.2.2.2.1)])]) fun (v18 : Bool) =>
bif (!v18) then (
bd (inR 0 7 (List.length b1v13)) fun _ =>
rt (
bd (takeAt (setQ b1v13 0 [(.int .i64 0), (.int .i64 0), (.int .i64 0), (.int .i64 0), (.int .i64 0), (.int .i64 0), (.int .i64 0)]) 0 (some 7)) fun v19 =>
some (.tup [v19, (.int .i64 7)]))) else (
some (.inl ((t1v13, t2v13, (), (), t14v13, t15v13, t61v13, t62v13, (wrapD .i64 (t63v13 + 1)), ()), (b1v13, (b0v13_0, b0v13_1, ()), ()))))) else (
rt (
clT q8 (cl 22 [(.agg [b0v13_0, b0v13_1])]) fun (v21 : (D × D × Int × Unit)) =>
bj (α := (Int × D × Unit × Unit × Unit × Unit) × (List D × (D × D × Int × Unit) × List D × (D × D × Unit) × Unit)) (
bd (lenD false t2v13) fun v23 =>
bif (eqZ (v23 : Int) 1) then (
ixT q2 5 t2v13 (.int .i64 0) (some 5) fun (v26 : (Int × Int × Int × Int × Int × Unit)) =>
clT q9 (cl 23 [(.agg [v21.1, v21.2.1, (.int .i64 v21.2.2.1)]), (.int .i64 t1v13), (.agg [(.int .i64 v26.1), (.int .i64 v26.2.1), (.int .i64 v26.2.2.1), (.int .i64 v26.2.2.2.1), (.int .i64 v26.2.2.2.2.1)])]) fun (v28 : ((Int × Int × Unit) × Int × Int × Unit)) =>
some (.inl ((t1v13, t2v13, (), (), (), ()), ([(.int .i64 t14v13), (.int .i64 t15v13), (.int .i64 v28.1.1), (.int .i64 v28.1.2.1), (.int .i64 v28.2.1), (.int .i64 v28.2.2.1), (.int .i64 v21.2.2.1)], (v21.1, v21.2.1, v21.2.2.1, ()), b1v13, (b0v13_0, b0v13_1, ()), ())))) else (
ixT q2 5 t2v13 (.int .i64 0) (some 5) fun (v31 : (Int × Int × Int × Int × Int × Unit)) =>
ixT q2 5 t2v13 (.int .i64 1) (some 5) fun (v34 : (Int × Int × Int × Int × Int × Unit)) =>
clT q9 (cl 24 [(.agg [v21.1, v21.2.1, (.int .i64 v21.2.2.1)]), (.int .i64 t1v13), (.agg [(.int .i64 v31.1), (.int .i64 v31.2.1), (.int .i64 v31.2.2.1), (.int .i64 v31.2.2.2.1), (.int .i64 v31.2.2.2.2.1)]), (.agg [(.int .i64 v34.1), (.int .i64 v34.2.1), (.int .i64 v34.2.2.1), (.int .i64 v34.2.2.2.1), (.int .i64 v34.2.2.2.2.1)])]) fun (v36 : ((Int × Int × Unit) × Int × Int × Unit)) =>
some (.inl ((t1v13, t2v13, (), (), (), ()), ([(.int .i64 t14v13), (.int .i64 t15v13), (.int .i64 v36.1.1), (.int .i64 v36.1.2.1), (.int .i64 v36.2.1), (.int .i64 v36.2.2.1), (.int .i64 v21.2.2.1)], (v21.1, v21.2.1, v21.2.2.1, ()), b1v13, (b0v13_0, b0v13_1, ()), ()))))) fun (((t1v22, t2v22, _, _, _, _), (b20006v22, (b19002v22_0, b19002v22_1, b19002v22_2, _), b1v22, (b0v22_0, b0v22_1, _), _)) : (Int × D × Unit × Unit × Unit × Unit) × (List D × (D × D × Int × Unit) × List D × (D × D × Unit) × Unit)) =>
bd (lenD false t2v22) fun v37 =>
lp.run (fun (((t1v38, _, _, _, t117v38, t118v38, t119v38, _), (b20006v38, (b19002v38_0, b19002v38_1, b19002v38_2, _), b1v38, _)) : (Int × Unit × Unit × Unit × D × Int × Int × Unit) × (List D × (D × D × Int × Unit) × List D × Unit)) =>
bif (ltZ t119v38 t118v38) then (
ixT q2 5 t117v38 (.int .i64 t119v38) (some 5) fun (v41 : (Int × Int × Int × Int × Int × Unit)) =>
tkT q4 b20006v38 6 none fun (v43 : Int) =>
clT q4 (cl 26 [(.agg [b19002v38_0, b19002v38_1, (.int .i64 b19002v38_2)]), (.agg [(.int .i64 v41.1), (.int .i64 v41.2.1), (.int .i64 v41.2.2.1), (.int .i64 v41.2.2.2.1), (.int .i64 v41.2.2.2.2.1)])]) fun (v45 : Int) =>
clT q4 (cl 25 [(.agg [b19002v38_0, b19002v38_1, (.int .i64 b19002v38_2)]), (.sl true 2 [(.int .i64 v43), (.int .i64 v45)])]) fun (v47 : Int) =>
bd (inR 6 1 (List.length b20006v38)) fun _ =>
some (.inl ((t1v38, (), (), (), t117v38, t118v38, (wrapD .i64 (t119v38 + 1)), ()), ((setQ b20006v38 6 [(.int .i64 v47)]), (b19002v38_0, b19002v38_1, b19002v38_2, ()), b1v38, ())))) else (
rt (
bj (α := (Unit × Unit × Unit × Bool × Unit) × (List D × (D × D × Int × Unit) × List D × Unit)) (
bif (eqZ t1v38 8) then (
some (.inl (((), (), (), (eqZ t1v38 8), ()), (b20006v38, (b19002v38_0, b19002v38_1, b19002v38_2, ()), b1v38, ())))) else (
bif (eqZ t1v38 35) then (
some (.inl (((), (), (), (eqZ t1v38 35), ()), (b20006v38, (b19002v38_0, b19002v38_1, b19002v38_2, ()), b1v38, ())))) else (
some (.inl (((), (), (), (eqZ t1v38 36), ()), (b20006v38, (b19002v38_0, b19002v38_1, b19002v38_2, ()), b1v38, ())))))) fun (((_, _, _, t134v48, _), (b20006v48, (b19002v48_0, b19002v48_1, b19002v48_2, _), b1v48, _)) : (Unit × Unit × Unit × Bool × Unit) × (List D × (D × D × Int × Unit) × List D × Unit)) =>
bif t134v48 then (
tkT q4 b20006v48 6 none fun (v50 : Int) =>
tkT q2 b20006v48 0 (some 5) fun (v52 : (Int × Int × Int × Int × Int × Unit)) =>
clT q4 (cl 26 [(.agg [b19002v48_0, b19002v48_1, (.int .i64 b19002v48_2)]), (.agg [(.int .i64 v52.1), (.int .i64 v52.2.1), (.int .i64 v52.2.2.1), (.int .i64 v52.2.2.2.1), (.int .i64 v52.2.2.2.2.1)])]) fun (v54 : Int) =>
clT q4 (cl 25 [(.agg [b19002v48_0, b19002v48_1, (.int .i64 b19002v48_2)]), (.sl true 2 [(.int .i64 v50), (.int .i64 v54)])]) fun (v56 : Int) =>
bd (inR 6 1 (List.length b20006v48)) fun _ =>
tkT q10 (setQ b20006v48 6 [(.int .i64 v56)]) 0 (some 7) fun (v58 : (Int × Int × Int × Int × Int × Int × Int × Unit)) =>
bd (inR 0 7 (List.length b1v48)) fun _ =>
bd (takeAt (setQ b1v48 0 [(.int .i64 v58.1), (.int .i64 v58.2.1), (.int .i64 v58.2.2.1), (.int .i64 v58.2.2.2.1), (.int .i64 v58.2.2.2.2.1), (.int .i64 v58.2.2.2.2.2.1), (.int .i64 v58.2.2.2.2.2.2.1)]) 0 (some 7)) fun v59 =>
some (.tup [v59, (.int .i64 0)])) else (
tkT q10 b20006v48 0 (some 7) fun (v61 : (Int × Int × Int × Int × Int × Int × Int × Unit)) =>
bd (inR 0 7 (List.length b1v48)) fun _ =>
bd (takeAt (setQ b1v48 0 [(.int .i64 v61.1), (.int .i64 v61.2.1), (.int .i64 v61.2.2.1), (.int .i64 v61.2.2.2.1), (.int .i64 v61.2.2.2.2.1), (.int .i64 v61.2.2.2.2.2.1), (.int .i64 v61.2.2.2.2.2.2.1)]) 0 (some 7)) fun v62 =>
some (.tup [v62, (.int .i64 0)]))))) ((t1v22, (), (), (), t2v22, (v37 : Int), (0 : Int), ()), (b20006v22, (b19002v22_0, b19002v22_1, b19002v22_2, ()), b1v22, ()))))) ((t1v3, t2v3, (), (), v10.1, v10.2.1, t2v3, (v12 : Int), (0 : Int), ()), (b1v3, (b0v3_0, b0v3_1, ()), ())))))) ((a1, a2, (), (), 0, 0, a2, (v2 : Int), (0 : Int), ()), ([], [], [(.int .i64 0), (.int .i64 0), (.int .i64 0), (.int .i64 0), (.int .i64 0), (.int .i64 0), (.int .i64 0)], (a0_0, a0_1, ()), ())))
theorem S8_eq (lp : Lp) (cl : CL) (a0_0 : D) (a0_1 : D) (a1 : Int) (a2 : D) : runS lp Tryz.prog TryzG cl 8 [(.agg [(.fz a0_0), (.fz a0_1)]), (.int .i64 a1), (.fz a2)] = S8 lp cl a0_0 a0_1 a1 a2 := by kernel_rfl
def S8_w (lp : Lp) (cl : CL) (args : List D) : Option D := bd (Sh.gds [(.agg [.fz, .fz]), (.int .i64), .fz] args) fun v => S8 lp cl v.1.1 v.1.2.1 v.2.1 v.2.2.1
theorem S8_t : TabE TryzE 8 S8_w := tab_of (by kernel_rfl) fun lp cl v => S8_eq lp cl v.1.1 v.1.2.1 v.2.1 v.2.2.1

/- 15 invigilator/invigilatorref12.Fits -/
def S15 (lp : Lp) (cl : CL) (a0 : Int) (a1 : D) (a2 : D) : Option D :=
clT q7 (cl 40 [(.int .i64 a0)]) fun (v1 : (Int × Int × Unit)) =>
bif (!(eqZ v1.2.1 0)) then (
some (.tup [(.int .i64 0), (.int .i64 0), (.int .i64 v1.2.1)])) else (
bj (α := (Int × D × D × Unit) × (Unit)) (
bd (lenD false a1) fun v3 =>
bif (!(eqZ (v3 : Int) v1.1)) then (
rt (
some (.tup [(.int .i64 0), (.int .i64 0), (.int .i64 23)]))) else (
bd (lenD false a2) fun v4 =>
bif (!(eqZ (v4 : Int) v1.1)) then (
rt (
some (.tup [(.int .i64 0), (.int .i64 0), (.int .i64 23)]))) else (
some (.inl ((a0, a1, a2, ()), (())))))) fun (((t0v2, t1v2, t2v2, _), (_)) : (Int × D × D × Unit) × (Unit)) =>
clT q0 (cl 41 [(.int .i64 t0v2), t1v2]) fun (v6 : Bool) =>
bif (!v6) then (
some (.tup [(.int .i64 0), (.int .i64 0), (.int .i64 21)])) else (
clT q4 (cl 42 [(.int .i64 t0v2), t2v2]) fun (v8 : Int) =>
bif (ltZ v8 0) then (
some (.tup [(.int .i64 0), (.int .i64 0), (.int .i64 22)])) else (
clT q4 (cl 43 [(.int .i64 t0v2), t1v2]) fun (v10 : Int) =>
some (.tup [(.int .i64 v10), (.int .i64 v8), (.int .i64 0)]))))
theorem S15_eq (lp : Lp) (cl : CL) (a0 : Int) (a1 : D) (a2 : D) : runS lp Tryz.prog TryzG cl 15 [(.int .i64 a0), (.fz a1), (.fz a2)] = S15 lp cl a0 a1 a2 := by kernel_rfl
def S15_w (lp : Lp) (cl : CL) (args : List D) : Option D := bd (Sh.gds [(.int .i64), .fz, .fz] args) fun v => S15 lp cl v.1 v.2.1 v.2.2.1
theorem S15_t : TabE TryzE 15 S15_w := tab_of (by kernel_rfl) fun lp cl v => S15_eq lp cl v.1 v.2.1 v.2.2.1

/- 16 invigilator/invigilatorlaw26.FarPolicy -/
def S16 (lp : Lp) (cl : CL) (a0_0 : D) (a0_1 : D) (a0_2 : D) (a0_3 : D) (a0_4 : D) : Option D :=
bj (α := (Unit × Unit) × ((D × D × D × D × D × Unit) × Unit)) (
bd (lenD false a0_0) fun v1 =>
bif (ltZ 9 (v1 : Int)) then (
rt (
some (.bool true))) else (
bd (lenD false a0_1) fun v2 =>
bif (ltZ 9 (v2 : Int)) then (
rt (
some (.bool true))) else (
bd (lenD false a0_2) fun v3 =>
bif (ltZ 8 (v3 : Int)) then (
rt (
some (.bool true))) else (
bd (lenD false a0_3) fun v4 =>
bif (ltZ 10 (v4 : Int)) then (
rt (
some (.bool true))) else (
bd (lenD false a0_4) fun v5 =>
bif (ltZ 12 (v5 : Int)) then (
rt (
some (.bool true))) else (
some (.inl (((), ()), ((a0_0, a0_1, a0_2, a0_3, a0_4, ()), ()))))))))) fun (((_, _), ((b0v0_0, b0v0_1, b0v0_2, b0v0_3, b0v0_4, _), _)) : (Unit × Unit) × ((D × D × D × D × D × Unit) × Unit)) =>
lp.run (fun (((_, t3v6, _), ((b0v6_0, b0v6_1, b0v6_2, b0v6_3, b0v6_4, _), _)) : (Unit × Int × Unit) × ((D × D × D × D × D × Unit) × Unit)) =>
bd (lenD false b0v6_0) fun v7 =>
bif (ltZ t3v6 (v7 : Int)) then (
ixT q12 1 b0v6_0 (.int .i64 t3v6) none fun (v10 : List UInt8) =>
bif (ltZ 40 (List.length v10 : Int)) then (
rt (
some (.bool true))) else (
some (.inl (((), (wrapD .i64 (t3v6 + 1)), ()), ((b0v6_0, b0v6_1, b0v6_2, b0v6_3, b0v6_4, ()), ()))))) else (
rt (
lp.run (fun (((_, t4v11, _), ((b0v11_0, b0v11_1, b0v11_2, b0v11_3, b0v11_4, _), _)) : (Unit × Int × Unit) × ((D × D × D × D × D × Unit) × Unit)) =>
bd (lenD false b0v11_2) fun v12 =>
bif (ltZ t4v11 (v12 : Int)) then (
bd (elF 2 b0v11_2 (.int .i64 t4v11)) fun v13 =>
tkT q12 v13.1 (v13.2 + 0) none fun (v15 : List UInt8) =>
bif (ltZ 40 (List.length v15 : Int)) then (
rt (
some (.bool true))) else (
some (.inl (((), (wrapD .i64 (t4v11 + 1)), ()), ((b0v11_0, b0v11_1, b0v11_2, b0v11_3, b0v11_4, ()), ()))))) else (
rt (
lp.run (fun (((_, t5v16, _), ((b0v16_0, b0v16_1, b0v16_2, b0v16_3, b0v16_4, _), _)) : (Unit × Int × Unit) × ((D × D × D × D × D × Unit) × Unit)) =>
bd (lenD false b0v16_3) fun v17 =>
bif (ltZ t5v16 (v17 : Int)) then (
bd (elF 6 b0v16_3 (.int .i64 t5v16)) fun v18 =>
tkT q12 v18.1 (v18.2 + 0) none fun (v20 : List UInt8) =>
bif (ltZ 40 (List.length v20 : Int)) then (
rt (
some (.bool true))) else (
some (.inl (((), (wrapD .i64 (t5v16 + 1)), ()), ((b0v16_0, b0v16_1, b0v16_2, b0v16_3, b0v16_4, ()), ()))))) else (
rt (
some (.bool false)))) (((), (0 : Int), ()), ((b0v11_0, b0v11_1, b0v11_2, b0v11_3, b0v11_4, ()), ()))))) (((), (0 : Int), ()), ((b0v6_0, b0v6_1, b0v6_2, b0v6_3, b0v6_4, ()), ()))))) (((), (0 : Int), ()), ((b0v0_0, b0v0_1, b0v0_2, b0v0_3, b0v0_4, ()), ()))
theorem S16_eq (lp : Lp) (cl : CL) (a0_0 : D) (a0_1 : D) (a0_2 : D) (a0_3 : D) (a0_4 : D) : runS lp Tryz.prog TryzG cl 16 [(.agg [(.fz a0_0), (.fz a0_1), (.fz a0_2), (.fz a0_3), (.fz a0_4)])] = S16 lp cl a0_0 a0_1 a0_2 a0_3 a0_4 := by kernel_rfl
def S16_w (lp : Lp) (cl : CL) (args : List D) : Option D := bd (Sh.gds [(.agg [.fz, .fz, .fz, .fz, .fz])] args) fun v => S16 lp cl v.1.1 v.1.2.1 v.1.2.2.1 v.1.2.2.2.1 v.1.2.2.2.2.1
theorem S16_t : TabE TryzE 16 S16_w := tab_of (by kernel_rfl) fun lp cl v => S16_eq lp cl v.1.1 v.1.2.1 v.1.2.2.1 v.1.2.2.2.1 v.1.2.2.2.2.1

/- 21 invigilator/taint.known -/
def S21 (lp : Lp) (cl : CL) (a0_0 : D) (a0_1 : D) (a1_0 : Int) (a1_1 : Int) (a1_2 : Int) (a1_3 : Int) (a1_4 : Int) : Option D :=
bd (bndO 2 2 (some (.int .i64 a1_1))) fun v0 =>
lp.run (fun (((_, t5v1, (t12v1_l, t12v1_c), t13v1, t14v1, _), ((b1v1_0, b1v1_1, b1v1_2, b1v1_3, b1v1_4, _), (b0v1_0, b0v1_1, _), _)) : (Unit × ((Unit) × (Unit × Unit)) × (Nat × Nat) × Int × Int × Unit) × ((Int × Int × Int × Int × Int × Unit) × (D × D × Unit) × Unit)) =>
bif (ltZ t14v1 t13v1) then (
bd (idxD t12v1_l (.int .i64 t14v1)) fun v2 =>
tkT q4 [(.int .i64 b1v1_0), (.int .i64 b1v1_1), (.int .i64 b1v1_2), (.int .i64 b1v1_3), (.int .i64 b1v1_4)] (2 + v2 * 1) none fun (v4 : Int) =>
clT q0 (cl 52 [(.int .i64 v4), (.iptr [b0v1_0, b0v1_1] 0)]) fun (v6 : Bool) =>
bif (!v6) then (
rt (
some (.bool false))) else (
some (.inl (((), ((()), ((), ())), (t12v1_l, t12v1_c), t13v1, (wrapD .i64 (t14v1 + 1)), ()), ((b1v1_0, b1v1_1, b1v1_2, b1v1_3, b1v1_4, ()), (b0v1_0, b0v1_1, ()), ()))))) else (
rt (
clT q0 (cl 52 [(.int .i64 b1v1_4), (.iptr [b0v1_0, b0v1_1] 0)]) fun (v8 : Bool) =>
some (.bool v8)))) (((), ((()), ((), ())), (v0, 2), (v0 : Int), (0 : Int), ()), ((a1_0, a1_1, a1_2, a1_3, a1_4, ()), (a0_0, a0_1, ()), ()))
theorem S21_eq (lp : Lp) (cl : CL) (a0_0 : D) (a0_1 : D) (a1_0 : Int) (a1_1 : Int) (a1_2 : Int) (a1_3 : Int) (a1_4 : Int) : runS lp Tryz.prog TryzG cl 21 [(.agg [(.fz a0_0), (.fz a0_1)]), (.agg [(.int .i64 a1_0), (.int .i64 a1_1), (.int .i64 a1_2), (.int .i64 a1_3), (.int .i64 a1_4)])] = S21 lp cl a0_0 a0_1 a1_0 a1_1 a1_2 a1_3 a1_4 := by kernel_rfl
def S21_w (lp : Lp) (cl : CL) (args : List D) : Option D := bd (Sh.gds [(.agg [.fz, .fz]), (.agg [(.int .i64), (.int .i64), (.int .i64), (.int .i64), (.int .i64)])] args) fun v => S21 lp cl v.1.1 v.1.2.1 v.2.1.1 v.2.1.2.1 v.2.1.2.2.1 v.2.1.2.2.2.1 v.2.1.2.2.2.2.1
theorem S21_t : TabE TryzE 21 S21_w := tab_of (by kernel_rfl) fun lp cl v => S21_eq lp cl v.1.1 v.1.2.1 v.2.1.1 v.2.1.2.1 v.2.1.2.2.1 v.2.1.2.2.2.1 v.2.1.2.2.2.2.1

/- 33 invigilator/invigilatorref03.Join -/
def S33 (lp : Lp) (cl : CL) (a0_0 : D) (a0_1 : D) (a1 : Int) (a2 : Int) : Option D :=
clT q4 (cl 64 [(.agg [a0_0, a0_1]), (.int .i64 a1), (.int .i64 a2)]) fun (v1 : Int) =>
bif (!(eqZ v1 0)) then (
some (.tup [(.int .i64 0), (.int .i64 v1)])) else (
clT q4 (cl 65 [(.agg [a0_0, a0_1]), (.int .i64 a1), (.int .i64 a2)]) fun (v3 : Int) =>
some (.tup [(.int .i64 v3), (.int .i64 0)]))
theorem S33_eq (lp : Lp) (cl : CL) (a0_0 : D) (a0_1 : D) (a1 : Int) (a2 : Int) : runS lp Tryz.prog TryzG cl 33 [(.agg [(.fz a0_0), (.fz a0_1)]), (.int .i64 a1), (.int .i64 a2)] = S33 lp cl a0_0 a0_1 a1 a2 := by kernel_rfl
def S33_w (lp : Lp) (cl : CL) (args : List D) : Option D := bd (Sh.gds [(.agg [.fz, .fz]), (.int .i64), (.int .i64)] args) fun v => S33 lp cl v.1.1 v.1.2.1 v.2.1 v.2.2.1
theorem S33_t : TabE TryzE 33 S33_w := tab_of (by kernel_rfl) fun lp cl v => S33_eq lp cl v.1.1 v.1.2.1 v.2.1 v.2.2.1

/- 36 invigilator/invigilatorref03.Bottom -/
def S36 (lp : Lp) (cl : CL) (a0_0 : D) (a0_1 : D) : Option D :=
clT q4 (cl 64 [(.agg [a0_0, a0_1]), (.int .i64 0), (.int .i64 0)]) fun (v1 : Int) =>
bif (!(eqZ v1 0)) then (
some (.tup [(.int .i64 0), (.int .i64 v1)])) else (
clT q19 (cl 60 [(.agg [a0_0, a0_1])]) fun (v3 : D) =>
lp.run (fun (((_, t5v4, t6v4, t7v4, _), ((b0v4_0, b0v4_1, _), _)) : (Unit × D × Int × Int × Unit) × ((D × D × Unit) × Unit)) =>
bd (lenD false b0v4_0) fun v5 =>
bif (ltZ t7v4 (v5 : Int)) then (
clT q4 (cl 61 [t5v4, (.int .i64 t7v4), (.int .i64 t6v4)]) fun (v7 : Int) =>
some (.inl (((), t5v4, v7, (wrapD .i64 (t7v4 + 1)), ()), ((b0v4_0, b0v4_1, ()), ())))) else (
rt (
some (.tup [(.int .i64 t6v4), (.int .i64 0)])))) (((), v3, (0 : Int), (0 : Int), ()), ((a0_0, a0_1, ()), ())))
theorem S36_eq (lp : Lp) (cl : CL) (a0_0 : D) (a0_1 : D) : runS lp Tryz.prog TryzG cl 36 [(.agg [(.fz a0_0), (.fz a0_1)])] = S36 lp cl a0_0 a0_1 := by kernel_rfl
def S36_w (lp : Lp) (cl : CL) (args : List D) : Option D := bd (Sh.gds [(.agg [.fz, .fz])] args) fun v => S36 lp cl v.1.1 v.1.2.1
theorem S36_t : TabE TryzE 36 S36_w := tab_of (by kernel_rfl) fun lp cl v => S36_eq lp cl v.1.1 v.1.2.1

/- 37 invigilator/invigilatorref03.Below -/
def S37 (lp : Lp) (cl : CL) (a0_0 : D) (a0_1 : D) (a1 : Int) (a2 : Int) : Option D :=
bif (leZ 0 a1) then (
bd (lenD false a0_1) fun v0 =>
bif (ltZ a1 (v0 : Int)) then (
bif (leZ 0 a2) then (
ixT q13 1 a0_1 (.int .i64 a1) none fun (v3 : Int) =>
bd (shrD .u8 v3 a2) fun v4 =>
bd (remD v4 2) fun v5 =>
some (.bool (eqZ v5 1))) else (
some (.bool false))) else (
some (.bool false))) else (
some (.bool false))
theorem S37_eq (lp : Lp) (cl : CL) (a0_0 : D) (a0_1 : D) (a1 : Int) (a2 : Int) : runS lp Tryz.prog TryzG cl 37 [(.agg [(.fz a0_0), (.fz a0_1)]), (.int .i64 a1), (.int .i64 a2)] = S37 lp cl a0_0 a0_1 a1 a2 := by kernel_rfl
def S37_w (lp : Lp) (cl : CL) (args : List D) : Option D := bd (Sh.gds [(.agg [.fz, .fz]), (.int .i64), (.int .i64)] args) fun v => S37 lp cl v.1.1 v.1.2.1 v.2.1 v.2.2.1
theorem S37_t : TabE TryzE 37 S37_w := tab_of (by kernel_rfl) fun lp cl v => S37_eq lp cl v.1.1 v.1.2.1 v.2.1 v.2.2.1

/- 39 invigilator/invigilatorref21.Of -/
def S39 (lp : Lp) (cl : CL) (a0_0 : D) (a0_1 : D) (a1 : Int) (a2 : D) : Option D :=
lp.run (fun (((t1v0, t2v0, _, _, t7v0, t8v0, t9v0, _), (b900008v0, b900007v0, b1v0, (b0v0_0, b0v0_1, _), _)) : (Int × D × Unit × Unit × Nat × Nat × Int × Unit) × (List D × List D × List D × (D × D × Unit) × Unit)) =>
bd (lenD false t2v0) fun v1 =>
bif (ltZ t9v0 (v1 : Int)) then (
bd (elF 5 t2v0 (.int .i64 t9v0)) fun v2 =>
tkT q4 v2.1 (v2.2 + 0) none fun (v4 : Int) =>
bd (apG true (t7v0 * 1) (List.length b900007v0) (t7v0 + 1) 8) fun _ =>
bd (elF 5 t2v0 (.int .i64 t9v0)) fun v5 =>
tkT q4 v5.1 (v5.2 + 1) none fun (v7 : Int) =>
bd (apG true (t8v0 * 1) (List.length b900008v0) (t8v0 + 1) 8) fun _ =>
some (.inl ((t1v0, t2v0, (), (), (t7v0 + 1), (t8v0 + 1), (wrapD .i64 (t9v0 + 1)), ()), ((b900008v0 ++ [(.int .i64 v7)]), (b900007v0 ++ [(.int .i64 v4)]), b1v0, (b0v0_0, b0v0_1, ()), ())))) else (
rt (
bd (frSl false 0 1 t7v0 b900007v0) fun v8 =>
bd (frSl false 0 1 t8v0 b900008v0) fun v9 =>
clT q5 (cl 15 [(.int .i64 t1v0), v8, v9]) fun (v11 : (Int × Int × Int × Unit)) =>
clT q4 (cl 67 [(.agg [b0v0_0, b0v0_1])]) fun (v13 : Int) =>
ixT q2 5 t2v0 (.int .i64 0) (some 5) fun (v16 : (Int × Int × Int × Int × Int × Unit)) =>
bj (α := (Int × Unit × Unit × Int × Int × Int × Unit × Unit × Unit) × ((Int × Int × Int × Int × Int × Unit) × (Int × Int × Int × Int × Int × Unit) × List D × List D × List D × (D × D × Unit) × Unit)) (
bd (lenD false t2v0) fun v18 =>
bif (eqZ (v18 : Int) 2) then (
ixT q2 5 t2v0 (.int .i64 1) (some 5) fun (v21 : (Int × Int × Int × Int × Int × Unit)) =>
some (.inl ((t1v0, (), (), v11.1, v11.2.1, v13, (), (), ()), ((v21.1, v21.2.1, v21.2.2.1, v21.2.2.2.1, v21.2.2.2.2.1, ()), (v16.1, v16.2.1, v16.2.2.1, v16.2.2.2.1, v16.2.2.2.2.1, ()), b900008v0, b900007v0, b1v0, (b0v0_0, b0v0_1, ()), ())))) else (
some (.inl ((t1v0, (), (), v11.1, v11.2.1, v13, (), (), ()), (((0 : Int), (0 : Int), v13, v13, v13, ()), (v16.1, v16.2.1, v16.2.2.1, v16.2.2.2.1, v16.2.2.2.2.1, ()), b900008v0, b900007v0, b1v0, (b0v0_0, b0v0_1, ()), ()))))) fun (((t1v17, _, _, t10v17, t11v17, t13v17, _, _, _), ((b9005v17_0, b9005v17_1, b9005v17_2, b9005v17_3, b9005v17_4, _), (b8003v17_0, b8003v17_1, b8003v17_2, b8003v17_3, b8003v17_4, _), b900008v17, b900007v17, b1v17, (b0v17_0, b0v17_1, _), _)) : (Int × Unit × Unit × Int × Int × Int × Unit × Unit × Unit) × ((Int × Int × Int × Int × Int × Unit) × (Int × Int × Int × Int × Int × Unit) × List D × List D × List D × (D × D × Unit) × Unit)) =>
clT q10 (cl 69 [(.agg [b0v17_0, b0v17_1]), (.int .i64 t1v17), (.agg [(.int .i64 b8003v17_0), (.int .i64 b8003v17_1), (.int .i64 b8003v17_2), (.int .i64 b8003v17_3), (.int .i64 b8003v17_4)]), (.agg [(.int .i64 b9005v17_0), (.int .i64 b9005v17_1), (.int .i64 b9005v17_2), (.int .i64 b9005v17_3), (.int .i64 b9005v17_4)]), (.int .i64 t13v17)]) fun (v23 : (Int × Int × Int × Int × Int × Int × Int × Unit)) =>
lp.run (fun (((_, t13v24, _, t17v24, _), (b12006v24, b1v24, _)) : (Unit × Int × Unit × Int × Unit) × (List D × List D × Unit)) =>
bif (ltZ t17v24 2) then (
bd (idxD 2 (.int .i64 t17v24)) fun v25 =>
bd (inR (2 + v25 * 1) 1 (List.length b12006v24)) fun _ =>
some (.inl (((), t13v24, (), (wrapD .i64 (t17v24 + 1)), ()), ((setQ b12006v24 (2 + v25 * 1) [(.int .i64 t13v24)]), b1v24, ())))) else (
rt (
tkT q10 b12006v24 0 (some 7) fun (v27 : (Int × Int × Int × Int × Int × Int × Int × Unit)) =>
bd (inR 0 7 (List.length b1v24)) fun _ =>
bd (takeAt (setQ b1v24 0 [(.int .i64 v27.1), (.int .i64 v27.2.1), (.int .i64 v27.2.2.1), (.int .i64 v27.2.2.2.1), (.int .i64 v27.2.2.2.2.1), (.int .i64 v27.2.2.2.2.2.1), (.int .i64 v27.2.2.2.2.2.2.1)]) 0 (some 7)) fun v28 =>
some v28))) (((), t13v17, (), t11v17, ()), ([(.int .i64 t10v17), (.int .i64 t11v17), (.int .i64 v23.2.2.1), (.int .i64 v23.2.2.2.1), (.int .i64 v23.2.2.2.2.1), (.int .i64 v23.2.2.2.2.2.1), (.int .i64 v23.2.2.2.2.2.2.1)], b1v17, ()))))) ((a1, a2, (), (), 0, 0, (0 : Int), ()), ([], [], [(.int .i64 0), (.int .i64 0), (.int .i64 0), (.int .i64 0), (.int .i64 0), (.int .i64 0), (.int .i64 0)], (a0_0, a0_1, ()), ()))
theorem S39_eq (lp : Lp) (cl : CL) (a0_0 : D) (a0_1 : D) (a1 : Int) (a2 : D) : runS lp Tryz.prog TryzG cl 39 [(.agg [(.fz a0_0), (.fz a0_1)]), (.int .i64 a1), (.fz a2)] = S39 lp cl a0_0 a0_1 a1 a2 := by kernel_rfl
def S39_w (lp : Lp) (cl : CL) (args : List D) : Option D := bd (Sh.gds [(.agg [.fz, .fz]), (.int .i64), .fz] args) fun v => S39 lp cl v.1.1 v.1.2.1 v.2.1 v.2.2.1
theorem S39_t : TabE TryzE 39 S39_w := tab_of (by kernel_rfl) fun lp cl v => S39_eq lp cl v.1.1 v.1.2.1 v.2.1 v.2.2.1

/- 40 invigilator/invigilatorref12.Arity -/
def S40 (lp : Lp) (cl : CL) (a0 : Int) : Option D :=
bj (α := (Int × Unit) × (Unit)) (
bif (ltZ a0 1) then (
rt (
some (.tup [(.int .i64 0), (.int .i64 2)]))) else (
bif (ltZ 40 a0) then (
rt (
some (.tup [(.int .i64 0), (.int .i64 2)]))) else (
some (.inl ((a0, ()), (())))))) fun (((t0v0, _), (_)) : (Int × Unit) × (Unit)) =>
bif (leZ t0v0 14) then (
some (.tup [(.int .i64 1), (.int .i64 0)])) else (
some (.tup [(.int .i64 2), (.int .i64 0)]))
theorem S40_eq (lp : Lp) (cl : CL) (a0 : Int) : runS lp Tryz.prog TryzG cl 40 [(.int .i64 a0)] = S40 lp cl a0 := by kernel_rfl
def S40_w (lp : Lp) (cl : CL) (args : List D) : Option D := bd (Sh.gds [(.int .i64)] args) fun v => S40 lp cl v.1
theorem S40_t : TabE TryzE 40 S40_w := tab_of (by kernel_rfl) fun lp cl v => S40_eq lp cl v.1

/- 46 invigilator/lattice.of -/
def S46 (lp : Lp) (cl : CL) (a0 : D) : Option D :=
bd (ptF a0) fun v0 =>
tkT q19 v0.1 (v0.2 + 0) none fun (v2 : D) =>
bd (lenD false v2) fun v3 =>
bd (ptF a0) fun v4 =>
tkT q19 v4.1 (v4.2 + 1) none fun (v6 : D) =>
bd (lenD false v6) fun v7 =>
lp.run (fun (((_, _, t16v8, t17v8, t18v8, _), (b1006v8, b0v8, _)) : (Unit × Unit × D × Int × Int × Unit) × (List D × List D × Unit)) =>
bif (ltZ t18v8 t17v8) then (
ixT q13 1 t16v8 (.int .i64 t18v8) none fun (v11 : Int) =>
bd (idxD 8 (.int .i64 t18v8)) fun v12 =>
bd (inR (1 + v12 * 1) 1 (List.length b1006v8)) fun _ =>
tkT q4 (setQ b1006v8 (1 + v12 * 1) [(.int .u8 v11)]) 0 none fun (v14 : Int) =>
lp.run (fun (((_, _, t4v15, t5v15, t16v15, t17v15, t18v15, t28v15, t29v15, _), (b1006v15, b0v15, _)) : (Unit × Unit × Int × Int × D × Int × Int × Int × Int × Unit) × (List D × List D × Unit)) =>
bif (ltZ t29v15 t28v15) then (
bd (idxD 8 (.int .i64 t29v15)) fun v16 =>
tkT q13 b1006v15 (9 + v16 * 1) none fun (v18 : Int) =>
bd (shrD .u8 t5v15 t29v15) fun v19 =>
bd (shlD .u8 (andZ .u8 v19 1) t4v15) fun v20 =>
bd (idxD 8 (.int .i64 t29v15)) fun v21 =>
bd (inR (9 + v21 * 1) 1 (List.length b1006v15)) fun _ =>
some (.inl (((), (), t4v15, t5v15, t16v15, t17v15, t18v15, t28v15, (wrapD .i64 (t29v15 + 1)), ()), ((setQ b1006v15 (9 + v21 * 1) [(.int .u8 (orZ .u8 v18 v20))]), b0v15, ())))) else (
rt (
some (.inl (((), (), t16v15, t17v15, (wrapD .i64 (t18v15 + 1)), ()), (b1006v15, b0v15, ())))))) (((), (), t18v8, v11, t16v8, t17v8, t18v8, v14, (0 : Int), ()), ((setQ b1006v8 (1 + v12 * 1) [(.int .u8 v11)]), b0v8, ()))) else (
rt (
tkT q14 b1006v8 0 (some 17) fun (v23 : (Int × Int × Int × Int × Int × Int × Int × Int × Int × Int × Int × Int × Int × Int × Int × Int × Int × Unit)) =>
bd (inR 0 17 (List.length b0v8)) fun _ =>
bd (takeAt (setQ b0v8 0 [(.int .i64 v23.1), (.int .u8 v23.2.1), (.int .u8 v23.2.2.1), (.int .u8 v23.2.2.2.1), (.int .u8 v23.2.2.2.2.1), (.int .u8 v23.2.2.2.2.2.1), (.int .u8 v23.2.2.2.2.2.2.1), (.int .u8 v23.2.2.2.2.2.2.2.1), (.int .u8 v23.2.2.2.2.2.2.2.2.1), (.int .u8 v23.2.2.2.2.2.2.2.2.2.1), (.int .u8 v23.2.2.2.2.2.2.2.2.2.2.1), (.int .u8 v23.2.2.2.2.2.2.2.2.2.2.2.1), (.int .u8 v23.2.2.2.2.2.2.2.2.2.2.2.2.1), (.int .u8 v23.2.2.2.2.2.2.2.2.2.2.2.2.2.1), (.int .u8 v23.2.2.2.2.2.2.2.2.2.2.2.2.2.2.1), (.int .u8 v23.2.2.2.2.2.2.2.2.2.2.2.2.2.2.2.1), (.int .u8 v23.2.2.2.2.2.2.2.2.2.2.2.2.2.2.2.2.1)]) 0 (some 17)) fun v24 =>
some v24))) (((), (), v6, (v7 : Int), (0 : Int), ()), ([(.int .i64 (v3 : Int)), (.int .u8 0), (.int .u8 0), (.int .u8 0), (.int .u8 0), (.int .u8 0), (.int .u8 0), (.int .u8 0), (.int .u8 0), (.int .u8 0), (.int .u8 0), (.int .u8 0), (.int .u8 0), (.int .u8 0), (.int .u8 0), (.int .u8 0), (.int .u8 0)], [(.int .i64 0), (.int .u8 0), (.int .u8 0), (.int .u8 0), (.int .u8 0), (.int .u8 0), (.int .u8 0), (.int .u8 0), (.int .u8 0), (.int .u8 0), (.int .u8 0), (.int .u8 0), (.int .u8 0), (.int .u8 0), (.int .u8 0), (.int .u8 0), (.int .u8 0)], ()))
theorem S46_eq (lp : Lp) (cl : CL) (a0 : D) : runS lp Tryz.prog TryzG cl 46 [(.fz a0)] = S46 lp cl a0 := by kernel_rfl
def S46_w (lp : Lp) (cl : CL) (args : List D) : Option D := bd (Sh.gds [.fz] args) fun v => S46 lp cl v.1
theorem S46_t : TabE TryzE 46 S46_w := tab_of (by kernel_rfl) fun lp cl v => S46_eq lp cl v.1

/- 52 invigilator/taint.known$1 -/
def S52 (lp : Lp) (cl : CL) (a0 : Int) (a1 : D) : Option D :=
bif (leZ 0 a0) then (
bd (ptF a1) fun v0 =>
tkT q19 v0.1 (v0.2 + 0) none fun (v2 : D) =>
bd (lenD false v2) fun v3 =>
some (.bool (ltZ a0 (v3 : Int)))) else (
some (.bool false))
theorem S52_eq (lp : Lp) (cl : CL) (a0 : Int) (a1 : D) : runS lp Tryz.prog TryzG cl 52 [(.int .i64 a0), (.fz a1)] = S52 lp cl a0 a1 := by kernel_rfl
def S52_w (lp : Lp) (cl : CL) (args : List D) : Option D := bd (Sh.gds [(.int .i64), .fz] args) fun v => S52 lp cl v.1 v.2.1
theorem S52_t : TabE TryzE 52 S52_w := tab_of (by kernel_rfl) fun lp cl v => S52_eq lp cl v.1 v.2.1

/- 53 invigilator/lattice.Bottom -/
def S53 (lp : Lp) (cl : CL) (a0_0 : D) (a0_1 : D) : Option D :=
clT q4 (cl 74 [(.iptr [a0_0, a0_1] 0), .nils]) fun (v1 : Int) =>
bif (!(eqZ v1 0)) then (
some (.tup [(.int .i64 0), (.int .i64 v1)])) else (
clT q14 (cl 46 [(.iptr [a0_0, a0_1] 0)]) fun (v3 : (Int × Int × Int × Int × Int × Int × Int × Int × Int × Int × Int × Int × Int × Int × Int × Int × Int × Unit)) =>
clT q4 (cl 75 [(.agg [(.int .u8 v3.2.1), (.int .u8 v3.2.2.1), (.int .u8 v3.2.2.2.1), (.int .u8 v3.2.2.2.2.1), (.int .u8 v3.2.2.2.2.2.1), (.int .u8 v3.2.2.2.2.2.2.1), (.int .u8 v3.2.2.2.2.2.2.2.1), (.int .u8 v3.2.2.2.2.2.2.2.2.1)]), (.int .i64 v3.1)]) fun (v5 : Int) =>
some (.tup [(.int .i64 v5), (.int .i64 0)]))
theorem S53_eq (lp : Lp) (cl : CL) (a0_0 : D) (a0_1 : D) : runS lp Tryz.prog TryzG cl 53 [(.agg [(.fz a0_0), (.fz a0_1)])] = S53 lp cl a0_0 a0_1 := by kernel_rfl
def S53_w (lp : Lp) (cl : CL) (args : List D) : Option D := bd (Sh.gds [(.agg [.fz, .fz])] args) fun v => S53 lp cl v.1.1 v.1.2.1
theorem S53_t : TabE TryzE 53 S53_w := tab_of (by kernel_rfl) fun lp cl v => S53_eq lp cl v.1.1 v.1.2.1

/- 59 invigilator/invigilatorref03.ordered -/
def S59 (lp : Lp) (cl : CL) (a0_0 : D) (a0_1 : D) (a1 : Int) : Option D :=
bd (lenD false a0_0) fun v0 =>
ixT q13 1 a0_1 (.int .i64 a1) none fun (v3 : Int) =>
bj (α := (Int × Unit × Int × Int × Unit) × ((D × D × Unit) × Unit)) (
bd (shrD .i64 (wrapD .i64 v3) (v0 : Int)) fun v5 =>
bif (ltZ 0 v5) then (
rt (
some (.bool false))) else (
clT q0 (cl 37 [(.agg [a0_0, a0_1]), (.int .i64 a1), (.int .i64 a1)]) fun (v7 : Bool) =>
bif (!v7) then (
rt (
some (.bool false))) else (
some (.inl ((a1, (), (v0 : Int), (wrapD .i64 v3), ()), ((a0_0, a0_1, ()), ())))))) fun (((t1v4, _, t5v4, t6v4, _), ((b0v4_0, b0v4_1, _), _)) : (Int × Unit × Int × Int × Unit) × ((D × D × Unit) × Unit)) =>
lp.run (fun (((t1v8, _, t5v8, t6v8, t7v8, _), ((b0v8_0, b0v8_1, _), _)) : (Int × Unit × Int × Int × Int × Unit) × ((D × D × Unit) × Unit)) =>
bif (ltZ t7v8 t5v8) then (
clT q0 (cl 37 [(.agg [b0v8_0, b0v8_1]), (.int .i64 t1v8), (.int .i64 t7v8)]) fun (v10 : Bool) =>
bif (!v10) then (
some (.inl ((t1v8, (), t5v8, t6v8, (wrapD .i64 (t7v8 + 1)), ()), ((b0v8_0, b0v8_1, ()), ())))) else (
ixT q13 1 b0v8_1 (.int .i64 t7v8) none fun (v13 : Int) =>
bd (shlD .i64 1 t5v8) fun v14 =>
bif (!(eqZ t7v8 t1v8)) then (
clT q0 (cl 37 [(.agg [b0v8_0, b0v8_1]), (.int .i64 t7v8), (.int .i64 t1v8)]) fun (v16 : Bool) =>
bif v16 then (
rt (
some (.bool false))) else (
bif (!(eqZ (andZ .i64 (andZ .i64 (wrapD .i64 v13) (wrapD .i64 (v14 - 1))) t6v8) (andZ .i64 (wrapD .i64 v13) (wrapD .i64 (v14 - 1))))) then (
rt (
some (.bool false))) else (
some (.inl ((t1v8, (), t5v8, t6v8, (wrapD .i64 (t7v8 + 1)), ()), ((b0v8_0, b0v8_1, ()), ())))))) else (
bif (!(eqZ (andZ .i64 (andZ .i64 (wrapD .i64 v13) (wrapD .i64 (v14 - 1))) t6v8) (andZ .i64 (wrapD .i64 v13) (wrapD .i64 (v14 - 1))))) then (
rt (
some (.bool false))) else (
some (.inl ((t1v8, (), t5v8, t6v8, (wrapD .i64 (t7v8 + 1)), ()), ((b0v8_0, b0v8_1, ()), ()))))))) else (
rt (
some (.bool true)))) ((t1v4, (), t5v4, t6v4, (0 : Int), ()), ((b0v4_0, b0v4_1, ()), ()))
theorem S59_eq (lp : Lp) (cl : CL) (a0_0 : D) (a0_1 : D) (a1 : Int) : runS lp Tryz.prog TryzG cl 59 [(.agg [(.fz a0_0), (.fz a0_1)]), (.int .i64 a1)] = S59 lp cl a0_0 a0_1 a1 := by kernel_rfl
def S59_w (lp : Lp) (cl : CL) (args : List D) : Option D := bd (Sh.gds [(.agg [.fz, .fz]), (.int .i64)] args) fun v => S59 lp cl v.1.1 v.1.2.1 v.2.1
theorem S59_t : TabE TryzE 59 S59_w := tab_of (by kernel_rfl) fun lp cl v => S59_eq lp cl v.1.1 v.1.2.1 v.2.1

/- 68 invigilator/invigilatorref20.Leq -/
def S68 (lp : Lp) (cl : CL) (a0_0 : D) (a0_1 : D) (a1 : Int) (a2 : Int) : Option D :=
clT q0 (cl 37 [(.agg [a0_0, a0_1]), (.int .i64 a1), (.int .i64 a2)]) fun (v1 : Bool) =>
some (.bool v1)
theorem S68_eq (lp : Lp) (cl : CL) (a0_0 : D) (a0_1 : D) (a1 : Int) (a2 : Int) : runS lp Tryz.prog TryzG cl 68 [(.agg [(.fz a0_0), (.fz a0_1)]), (.int .i64 a1), (.int .i64 a2)] = S68 lp cl a0_0 a0_1 a1 a2 := by kernel_rfl
def S68_w (lp : Lp) (cl : CL) (args : List D) : Option D := bd (Sh.gds [(.agg [.fz, .fz]), (.int .i64), (.int .i64)] args) fun v => S68 lp cl v.1.1 v.1.2.1 v.2.1 v.2.2.1
theorem S68_t : TabE TryzE 68 S68_w := tab_of (by kernel_rfl) fun lp cl v => S68_eq lp cl v.1.1 v.1.2.1 v.2.1 v.2.2.1

/- 69 invigilator/invigilatorref21.labels -/
def S69 (lp : Lp) (cl : CL) (a0_0 : D) (a0_1 : D) (a1 : Int) (a2_0 : Int) (a2_1 : Int) (a2_2 : Int) (a2_3 : Int) (a2_4 : Int) (a3_0 : Int) (a3_1 : Int) (a3_2 : Int) (a3_3 : Int) (a3_4 : Int) (a4 : Int) : Option D :=
clT q4 (cl 77 [(.agg [a0_0, a0_1]), (.int .i64 a2_4), (.int .i64 a3_4)]) fun (v1 : Int) =>
clT q4 (cl 78 [(.agg [a0_0, a0_1]), (.agg [(.int .i64 a2_0), (.int .i64 a2_1), (.int .i64 a2_2), (.int .i64 a2_3), (.int .i64 a2_4)])]) fun (v3 : Int) =>
clT q4 (cl 78 [(.agg [a0_0, a0_1]), (.agg [(.int .i64 a3_0), (.int .i64 a3_1), (.int .i64 a3_2), (.int .i64 a3_3), (.int .i64 a3_4)])]) fun (v5 : Int) =>
clT q4 (cl 77 [(.agg [a0_0, a0_1]), (.int .i64 v3), (.int .i64 v5)]) fun (v7 : Int) =>
clT q0 (cl 79 [(.int .i64 a1), (.sl true 3 [(.int .i64 1), (.int .i64 2), (.int .i64 13)])]) fun (v9 : Bool) =>
bif v9 then (
some (.agg [(.int .i64 0), (.int .i64 0), (.int .i64 a2_2), (.int .i64 a2_3), (.int .i64 v1), (.int .i64 v1), (.int .i64 v7)])) else (
clT q0 (cl 79 [(.int .i64 a1), (.sl true 1 [(.int .i64 4)])]) fun (v11 : Bool) =>
bif v11 then (
some (.agg [(.int .i64 0), (.int .i64 0), (.int .i64 a4), (.int .i64 a4), (.int .i64 v7), (.int .i64 a4), (.int .i64 v7)])) else (
clT q0 (cl 79 [(.int .i64 a1), (.sl true 1 [(.int .i64 5)])]) fun (v13 : Bool) =>
bif v13 then (
some (.agg [(.int .i64 0), (.int .i64 0), (.int .i64 v7), (.int .i64 a2_3), (.int .i64 v1), (.int .i64 a4), (.int .i64 v7)])) else (
clT q0 (cl 79 [(.int .i64 a1), (.sl true 1 [(.int .i64 7)])]) fun (v15 : Bool) =>
bif v15 then (
some (.agg [(.int .i64 0), (.int .i64 0), (.int .i64 a2_3), (.int .i64 a2_2), (.int .i64 v1), (.int .i64 a4), (.int .i64 v7)])) else (
clT q0 (cl 79 [(.int .i64 a1), (.sl true 1 [(.int .i64 8)])]) fun (v17 : Bool) =>
bif v17 then (
clT q4 (cl 77 [(.agg [a0_0, a0_1]), (.int .i64 v7), (.int .i64 v1)]) fun (v19 : Int) =>
some (.agg [(.int .i64 0), (.int .i64 0), (.int .i64 v1), (.int .i64 a2_3), (.int .i64 v1), (.int .i64 v1), (.int .i64 v19)])) else (
clT q0 (cl 79 [(.int .i64 a1), (.sl true 1 [(.int .i64 9)])]) fun (v21 : Bool) =>
bif v21 then (
some (.agg [(.int .i64 0), (.int .i64 0), (.int .i64 a2_2), (.int .i64 a2_3), (.int .i64 v1), (.int .i64 v1), (.int .i64 v7)])) else (
clT q0 (cl 79 [(.int .i64 a1), (.sl true 2 [(.int .i64 10), (.int .i64 11)])]) fun (v23 : Bool) =>
bif v23 then (
some (.agg [(.int .i64 0), (.int .i64 0), (.int .i64 a2_2), (.int .i64 a2_3), (.int .i64 v1), (.int .i64 v7), (.int .i64 v7)])) else (
clT q0 (cl 79 [(.int .i64 a1), (.sl true 1 [(.int .i64 12)])]) fun (v25 : Bool) =>
bif v25 then (
some (.agg [(.int .i64 0), (.int .i64 0), (.int .i64 a2_2), (.int .i64 a2_3), (.int .i64 v7), (.int .i64 a4), (.int .i64 v7)])) else (
clT q0 (cl 79 [(.int .i64 a1), (.sl true 2 [(.int .i64 33), (.int .i64 34)])]) fun (v27 : Bool) =>
bif v27 then (
clT q4 (cl 78 [(.agg [a0_0, a0_1]), (.agg [(.int .i64 a3_0), (.int .i64 a3_1), (.int .i64 a3_2), (.int .i64 a3_3), (.int .i64 a3_4)])]) fun (v29 : Int) =>
clT q4 (cl 77 [(.agg [a0_0, a0_1]), (.int .i64 a2_4), (.int .i64 v29)]) fun (v31 : Int) =>
some (.agg [(.int .i64 0), (.int .i64 0), (.int .i64 v31), (.int .i64 a2_3), (.int .i64 v1), (.int .i64 a4), (.int .i64 v7)])) else (
clT q0 (cl 79 [(.int .i64 a1), (.sl true 1 [(.int .i64 35)])]) fun (v33 : Bool) =>
bif v33 then (
clT q4 (cl 77 [(.agg [a0_0, a0_1]), (.int .i64 v7), (.int .i64 a2_4)]) fun (v35 : Int) =>
some (.agg [(.int .i64 0), (.int .i64 0), (.int .i64 a2_4), (.int .i64 a2_3), (.int .i64 v1), (.int .i64 a2_4), (.int .i64 v35)])) else (
clT q0 (cl 79 [(.int .i64 a1), (.sl true 1 [(.int .i64 36)])]) fun (v37 : Bool) =>
bif v37 then (
clT q4 (cl 78 [(.agg [a0_0, a0_1]), (.agg [(.int .i64 a3_0), (.int .i64 a3_1), (.int .i64 a3_2), (.int .i64 a3_3), (.int .i64 a3_4)])]) fun (v39 : Int) =>
clT q4 (cl 77 [(.agg [a0_0, a0_1]), (.int .i64 a2_4), (.int .i64 v39)]) fun (v41 : Int) =>
clT q4 (cl 77 [(.agg [a0_0, a0_1]), (.int .i64 v7), (.int .i64 a2_4)]) fun (v43 : Int) =>
some (.agg [(.int .i64 0), (.int .i64 0), (.int .i64 a2_4), (.int .i64 a2_4), (.int .i64 v1), (.int .i64 v41), (.int .i64 v43)])) else (
clT q0 (cl 79 [(.int .i64 a1), (.sl true 1 [(.int .i64 37)])]) fun (v45 : Bool) =>
bif v45 then (
clT q4 (cl 77 [(.agg [a0_0, a0_1]), (.int .i64 a2_2), (.int .i64 a3_2)]) fun (v47 : Int) =>
clT q4 (cl 77 [(.agg [a0_0, a0_1]), (.int .i64 a2_3), (.int .i64 a3_3)]) fun (v49 : Int) =>
some (.agg [(.int .i64 0), (.int .i64 0), (.int .i64 v47), (.int .i64 v49), (.int .i64 v1), (.int .i64 v7), (.int .i64 v7)])) else (
clT q0 (cl 79 [(.int .i64 a1), (.sl true 1 [(.int .i64 38)])]) fun (v51 : Bool) =>
bif v51 then (
clT q4 (cl 78 [(.agg [a0_0, a0_1]), (.agg [(.int .i64 a2_0), (.int .i64 a2_1), (.int .i64 a2_2), (.int .i64 a2_3), (.int .i64 a2_4)])]) fun (v53 : Int) =>
clT q4 (cl 77 [(.agg [a0_0, a0_1]), (.int .i64 v53), (.int .i64 a3_4)]) fun (v55 : Int) =>
some (.agg [(.int .i64 0), (.int .i64 0), (.int .i64 a3_2), (.int .i64 a3_3), (.int .i64 v1), (.int .i64 v55), (.int .i64 v7)])) else (
clT q0 (cl 79 [(.int .i64 a1), (.sl true 1 [(.int .i64 40)])]) fun (v57 : Bool) =>
bif v57 then (
clT q4 (cl 78 [(.agg [a0_0, a0_1]), (.agg [(.int .i64 a3_0), (.int .i64 a3_1), (.int .i64 a3_2), (.int .i64 a3_3), (.int .i64 a3_4)])]) fun (v59 : Int) =>
clT q4 (cl 77 [(.agg [a0_0, a0_1]), (.int .i64 a2_4), (.int .i64 v59)]) fun (v61 : Int) =>
some (.agg [(.int .i64 0), (.int .i64 0), (.int .i64 v61), (.int .i64 a2_3), (.int .i64 v1), (.int .i64 v7), (.int .i64 v7)])) else (
clT q0 (cl 80 [(.int .i64 a1)]) fun (v63 : Bool) =>
bif v63 then (
clT q18 (cl 81 [(.agg [a0_0, a0_1]), (.agg [(.int .i64 a2_0), (.int .i64 a2_1), (.int .i64 a2_2), (.int .i64 a2_3), (.int .i64 a2_4)]), (.agg [(.int .i64 a3_0), (.int .i64 a3_1), (.int .i64 a3_2), (.int .i64 a3_3), (.int .i64 a3_4)])]) fun (v65 : (Int × Int × Unit)) =>
clT q0 (cl 79 [(.int .i64 a1), (.sl true 5 [(.int .i64 15), (.int .i64 16), (.int .i64 17), (.int .i64 18), (.int .i64 19)])]) fun (v67 : Bool) =>
bif v67 then (
some (.agg [(.int .i64 0), (.int .i64 0), (.int .i64 v65.1), (.int .i64 v65.2.1), (.int .i64 v1), (.int .i64 v1), (.int .i64 v7)])) else (
bif (eqZ a2_1 a3_1) then (
bif (ltZ 0 a2_1) then (
some (.agg [(.int .i64 0), (.int .i64 0), (.int .i64 v65.1), (.int .i64 v65.2.1), (.int .i64 v1), (.int .i64 v7), (.int .i64 v7)])) else (
some (.agg [(.int .i64 0), (.int .i64 0), (.int .i64 v65.1), (.int .i64 v65.2.1), (.int .i64 v1), (.int .i64 a4), (.int .i64 v7)]))) else (
some (.agg [(.int .i64 0), (.int .i64 0), (.int .i64 v65.1), (.int .i64 v65.2.1), (.int .i64 v1), (.int .i64 a4), (.int .i64 v7)])))) else (
some (.agg [(.int .i64 0), (.int .i64 0), (.int .i64 a2_2), (.int .i64 a2_3), (.int .i64 v1), (.int .i64 a4), (.int .i64 v7)]))))))))))))))))
theorem S69_eq (lp : Lp) (cl : CL) (a0_0 : D) (a0_1 : D) (a1 : Int) (a2_0 : Int) (a2_1 : Int) (a2_2 : Int) (a2_3 : Int) (a2_4 : Int) (a3_0 : Int) (a3_1 : Int) (a3_2 : Int) (a3_3 : Int) (a3_4 : Int) (a4 : Int) : runS lp Tryz.prog TryzG cl 69 [(.agg [(.fz a0_0), (.fz a0_1)]), (.int .i64 a1), (.agg [(.int .i64 a2_0), (.int .i64 a2_1), (.int .i64 a2_2), (.int .i64 a2_3), (.int .i64 a2_4)]), (.agg [(.int .i64 a3_0), (.int .i64 a3_1), (.int .i64 a3_2), (.int .i64 a3_3), (.int .i64 a3_4)]), (.int .i64 a4)] = S69 lp cl a0_0 a0_1 a1 a2_0 a2_1 a2_2 a2_3 a2_4 a3_0 a3_1 a3_2 a3_3 a3_4 a4 := by kernel_rfl
def S69_w (lp : Lp) (cl : CL) (args : List D) : Option D := bd (Sh.gds [(.agg [.fz, .fz]), (.int .i64), (.agg [(.int .i64), (.int .i64), (.int .i64), (.int .i64), (.int .i64)]), (.agg [(.int .i64), (.int .i64), (.int .i64), (.int .i64), (.int .i64)]), (.int .i64)] args) fun v => S69 lp cl v.1.1 v.1.2.1 v.2.1 v.2.2.1.1 v.2.2.1.2.1 v.2.2.1.2.2.1 v.2.2.1.2.2.2.1 v.2.2.1.2.2.2.2.1 v.2.2.2.1.1 v.2.2.2.1.2.1 v.2.2.2.1.2.2.1 v.2.2.2.1.2.2.2.1 v.2.2.2.1.2.2.2.2.1 v.2.2.2.2.1
theorem S69_t : TabE TryzE 69 S69_w := tab_of (by kernel_rfl) fun lp cl v => S69_eq lp cl v.1.1 v.1.2.1 v.2.1 v.2.2.1.1 v.2.2.1.2.1 v.2.2.1.2.2.1 v.2.2.1.2.2.2.1 v.2.2.1.2.2.2.2.1 v.2.2.2.1.1 v.2.2.2.1.2.1 v.2.2.2.1.2.2.1 v.2.2.2.1.2.2.2.1 v.2.2.2.1.2.2.2.2.1 v.2.2.2.2.1

/- 71 invigilator/words.Name -/
def S71 (lp : Lp) (cl : CL) (a0 : List UInt8) : Option D :=
bif (eqS a0 []) then (
some (.bool false)) else (
bif (ltZ 16 (List.length a0 : Int)) then (
some (.bool false)) else (
bd (ixStr a0 (.int .i64 0)) fun v0 =>
bif (ltZ v0 97) then (
some (.bool false)) else (
bd (ixStr a0 (.int .i64 0)) fun v1 =>
bif (ltZ 122 v1) then (
some (.bool false)) else (
clT q12 (cl 82 [(.str a0), (.str [97, 98, 99, 100, 101, 102, 103, 104, 105, 106, 107, 108, 109, 110, 111, 112, 113, 114, 115, 116, 117, 118, 119, 120, 121, 122, 48, 49, 50, 51, 52, 53, 54, 55, 56, 57, 45])]) fun (v3 : List UInt8) =>
some (.bool (eqS v3 []))))))
theorem S71_eq (lp : Lp) (cl : CL) (a0 : List UInt8) : runS lp Tryz.prog TryzG cl 71 [(.str a0)] = S71 lp cl a0 := by kernel_rfl
def S71_w (lp : Lp) (cl : CL) (args : List D) : Option D := bd (Sh.gds [.str] args) fun v => S71 lp cl v.1
theorem S71_t : TabE TryzE 71 S71_w := tab_of (by kernel_rfl) fun lp cl v => S71_eq lp cl v.1

/- 75 invigilator/lattice.end[invigilator/lattice.ups] -/
def S75 (lp : Lp) (cl : CL) (a0_0 : Int) (a0_1 : Int) (a0_2 : Int) (a0_3 : Int) (a0_4 : Int) (a0_5 : Int) (a0_6 : Int) (a0_7 : Int) (a1 : Int) : Option D :=
lp.run (fun (((t1v0, _, t5v0, _), (b0v0, _)) : (Int × Unit × Int × Unit) × (List D × Unit)) =>
bif (ltZ t5v0 (wrapD .i64 (t1v0 - 1))) then (
bd (idxD 8 (.int .i64 t5v0)) fun v1 =>
tkT q13 b0v0 (0 + v1 * 1) none fun (v3 : Int) =>
clT q4 (cl 105 [(.int .u8 v3)]) fun (v5 : Int) =>
bif (ltZ v5 t1v0) then (
some (.inl ((t1v0, (), (wrapD .i64 (t5v0 + 1)), ()), (b0v0, ())))) else (
rt (
some (.int .i64 t5v0)))) else (
rt (
some (.int .i64 t5v0)))) ((a1, (), (0 : Int), ()), ([(.int .u8 a0_0), (.int .u8 a0_1), (.int .u8 a0_2), (.int .u8 a0_3), (.int .u8 a0_4), (.int .u8 a0_5), (.int .u8 a0_6), (.int .u8 a0_7)], ()))
theorem S75_eq (lp : Lp) (cl : CL) (a0_0 : Int) (a0_1 : Int) (a0_2 : Int) (a0_3 : Int) (a0_4 : Int) (a0_5 : Int) (a0_6 : Int) (a0_7 : Int) (a1 : Int) : runS lp Tryz.prog TryzG cl 75 [(.agg [(.int .u8 a0_0), (.int .u8 a0_1), (.int .u8 a0_2), (.int .u8 a0_3), (.int .u8 a0_4), (.int .u8 a0_5), (.int .u8 a0_6), (.int .u8 a0_7)]), (.int .i64 a1)] = S75 lp cl a0_0 a0_1 a0_2 a0_3 a0_4 a0_5 a0_6 a0_7 a1 := by kernel_rfl
def S75_w (lp : Lp) (cl : CL) (args : List D) : Option D := bd (Sh.gds [(.agg [(.int .u8), (.int .u8), (.int .u8), (.int .u8), (.int .u8), (.int .u8), (.int .u8), (.int .u8)]), (.int .i64)] args) fun v => S75 lp cl v.1.1 v.1.2.1 v.1.2.2.1 v.1.2.2.2.1 v.1.2.2.2.2.1 v.1.2.2.2.2.2.1 v.1.2.2.2.2.2.2.1 v.1.2.2.2.2.2.2.2.1 v.2.1
theorem S75_t : TabE TryzE 75 S75_w := tab_of (by kernel_rfl) fun lp cl v => S75_eq lp cl v.1.1 v.1.2.1 v.1.2.2.1 v.1.2.2.2.1 v.1.2.2.2.2.1 v.1.2.2.2.2.2.1 v.1.2.2.2.2.2.2.1 v.1.2.2.2.2.2.2.2.1 v.2.1

/- 79 invigilator/invigilatorref21.one -/
def S79 (lp : Lp) (cl : CL) (a0 : Int) (a1 : D) : Option D :=
lp.run (fun (((t0v0, t1v0, t5v0, _), (_)) : (Int × D × Int × Unit) × (Unit)) =>
bd (lenD false t1v0) fun v1 =>
bif (ltZ t5v0 (v1 : Int)) then (
ixT q4 1 t1v0 (.int .i64 t5v0) none fun (v4 : Int) =>
bif (eqZ v4 t0v0) then (
rt (
some (.bool true))) else (
some (.inl ((t0v0, t1v0, (wrapD .i64 (t5v0 + 1)), ()), (()))))) else (
rt (
some (.bool false)))) ((a0, a1, (0 : Int), ()), (()))
theorem S79_eq (lp : Lp) (cl : CL) (a0 : Int) (a1 : D) : runS lp Tryz.prog TryzG cl 79 [(.int .i64 a0), (.fz a1)] = S79 lp cl a0 a1 := by kernel_rfl
def S79_w (lp : Lp) (cl : CL) (args : List D) : Option D := bd (Sh.gds [(.int .i64), .fz] args) fun v => S79 lp cl v.1 v.2.1
theorem S79_t : TabE TryzE 79 S79_w := tab_of (by kernel_rfl) fun lp cl v => S79_eq lp cl v.1 v.2.1

/- 81 invigilator/invigilatorref21.extended -/
def S81 (lp : Lp) (cl : CL) (a0_0 : D) (a0_1 : D) (a1_0 : Int) (a1_1 : Int) (a1_2 : Int) (a1_3 : Int) (a1_4 : Int) (a2_0 : Int) (a2_1 : Int) (a2_2 : Int) (a2_3 : Int) (a2_4 : Int) : Option D :=
bif (ltZ a2_1 a1_1) then (
some (.agg [(.int .i64 a1_2), (.int .i64 a1_3)])) else (
bif (ltZ a1_1 a2_1) then (
some (.agg [(.int .i64 a2_2), (.int .i64 a2_3)])) else (
clT q4 (cl 77 [(.agg [a0_0, a0_1]), (.int .i64 a1_2), (.int .i64 a2_2)]) fun (v1 : Int) =>
clT q4 (cl 77 [(.agg [a0_0, a0_1]), (.int .i64 a1_3), (.int .i64 a2_3)]) fun (v3 : Int) =>
some (.agg [(.int .i64 v1), (.int .i64 v3)])))
theorem S81_eq (lp : Lp) (cl : CL) (a0_0 : D) (a0_1 : D) (a1_0 : Int) (a1_1 : Int) (a1_2 : Int) (a1_3 : Int) (a1_4 : Int) (a2_0 : Int) (a2_1 : Int) (a2_2 : Int) (a2_3 : Int) (a2_4 : Int) : runS lp Tryz.prog TryzG cl 81 [(.agg [(.fz a0_0), (.fz a0_1)]), (.agg [(.int .i64 a1_0), (.int .i64 a1_1), (.int .i64 a1_2), (.int .i64 a1_3), (.int .i64 a1_4)]), (.agg [(.int .i64 a2_0), (.int .i64 a2_1), (.int .i64 a2_2), (.int .i64 a2_3), (.int .i64 a2_4)])] = S81 lp cl a0_0 a0_1 a1_0 a1_1 a1_2 a1_3 a1_4 a2_0 a2_1 a2_2 a2_3 a2_4 := by kernel_rfl
def S81_w (lp : Lp) (cl : CL) (args : List D) : Option D := bd (Sh.gds [(.agg [.fz, .fz]), (.agg [(.int .i64), (.int .i64), (.int .i64), (.int .i64), (.int .i64)]), (.agg [(.int .i64), (.int .i64), (.int .i64), (.int .i64), (.int .i64)])] args) fun v => S81 lp cl v.1.1 v.1.2.1 v.2.1.1 v.2.1.2.1 v.2.1.2.2.1 v.2.1.2.2.2.1 v.2.1.2.2.2.2.1 v.2.2.1.1 v.2.2.1.2.1 v.2.2.1.2.2.1 v.2.2.1.2.2.2.1 v.2.2.1.2.2.2.2.1
theorem S81_t : TabE TryzE 81 S81_w := tab_of (by kernel_rfl) fun lp cl v => S81_eq lp cl v.1.1 v.1.2.1 v.2.1.1 v.2.1.2.1 v.2.1.2.2.1 v.2.1.2.2.2.1 v.2.1.2.2.2.2.1 v.2.2.1.1 v.2.2.1.2.1 v.2.2.1.2.2.1 v.2.2.1.2.2.2.1 v.2.2.1.2.2.2.2.1

/- 107 invigilator/invigilatorref01.digit -/
def S107 (lp : Lp) (cl : CL) (a0 : Int) : Option D :=
bif (leZ 48 a0) then (
some (.bool (leZ a0 57))) else (
some (.bool false))
theorem S107_eq (lp : Lp) (cl : CL) (a0 : Int) : runS lp Tryz.prog TryzG cl 107 [(.int .u8 a0)] = S107 lp cl a0 := by kernel_rfl
def S107_w (lp : Lp) (cl : CL) (args : List D) : Option D := bd (Sh.gds [(.int .u8)] args) fun v => S107 lp cl v.1
theorem S107_t : TabE TryzE 107 S107_w := tab_of (by kernel_rfl) fun lp cl v => S107_eq lp cl v.1

/- 108 invigilator/invigilatorref20.Up -/
def S108 (lp : Lp) (cl : CL) (a0_0 : D) (a0_1 : D) (a1 : Int) (a2 : Int) : Option D :=
lp.run (fun (((t1v0, t2v0, _, t7v0, _), ((b0v0_0, b0v0_1, _), _)) : (Int × Int × Unit × Int × Unit) × ((D × D × Unit) × Unit)) =>
bd (lenD false b0v0_1) fun v1 =>
bif (ltZ t7v0 (v1 : Int)) then (
ixT q13 1 b0v0_1 (.int .i64 t7v0) none fun (v4 : Int) =>
ixT q13 1 b0v0_1 (.int .i64 t1v0) none fun (v7 : Int) =>
ixT q13 1 b0v0_1 (.int .i64 t2v0) none fun (v10 : Int) =>
bif (eqZ v4 (andZ .u8 v7 v10)) then (
rt (
some (.int .i64 t7v0))) else (
some (.inl ((t1v0, t2v0, (), (wrapD .i64 (t7v0 + 1)), ()), ((b0v0_0, b0v0_1, ()), ()))))) else (
rt (
some (.int .i64 t1v0)))) ((a1, a2, (), (0 : Int), ()), ((a0_0, a0_1, ()), ()))
theorem S108_eq (lp : Lp) (cl : CL) (a0_0 : D) (a0_1 : D) (a1 : Int) (a2 : Int) : runS lp Tryz.prog TryzG cl 108 [(.agg [(.fz a0_0), (.fz a0_1)]), (.int .i64 a1), (.int .i64 a2)] = S108 lp cl a0_0 a0_1 a1 a2 := by kernel_rfl
def S108_w (lp : Lp) (cl : CL) (args : List D) : Option D := bd (Sh.gds [(.agg [.fz, .fz]), (.int .i64), (.int .i64)] args) fun v => S108 lp cl v.1.1 v.1.2.1 v.2.1 v.2.2.1
theorem S108_t : TabE TryzE 108 S108_w := tab_of (by kernel_rfl) fun lp cl v => S108_eq lp cl v.1.1 v.1.2.1 v.2.1 v.2.2.1

/- 111 strings.makeASCIISet -/
def S111 (lp : Lp) (cl : CL) (a0 : List UInt8) : Option D :=
lp.run (fun (((t0v0, _, t4v0, _), (b0v0, _)) : (List UInt8 × Unit × Int × Unit) × (List D × Unit)) =>
bif (ltZ t4v0 (List.length t0v0 : Int)) then (
bd (ixStr t0v0 (.int .i64 t4v0)) fun v1 =>
bif (leZ 128 v1) then (
bd (takeAt b0v0 0 (some 256)) fun v2 =>
bd (cellsF 256 v2) fun v3 =>
bd (inR 0 256 (List.length b0v0)) fun _ =>
rt (
bd (takeAt (setQ b0v0 0 v3) 0 (some 256)) fun v4 =>
some (.tup [v4, (.bool false)]))) else (
bd (idxD 256 (.int .u8 v1)) fun v5 =>
bd (inR (0 + v5 * 1) 1 (List.length b0v0)) fun _ =>
some (.inl ((t0v0, (), (wrapD .i64 (t4v0 + 1)), ()), ((setQ b0v0 (0 + v5 * 1) [(.bool true)]), ()))))) else (
rt (
bd (takeAt b0v0 0 (some 256)) fun v6 =>
bd (cellsF 256 v6) fun v7 =>
bd (inR 0 256 (List.length b0v0)) fun _ =>
bd (takeAt (setQ b0v0 0 v7) 0 (some 256)) fun v8 =>
some (.tup [v8, (.bool true)])))) ((a0, (), (0 : Int), ()), ([(.bool false), (.bool false), (.bool false), (.bool false), (.bool false), (.bool false), (.bool false), (.bool false), (.bool false), (.bool false), (.bool false), (.bool false), (.bool false), (.bool false), (.bool false), (.bool false), (.bool false), (.bool false), (.bool false), (.bool false), (.bool false), (.bool false), (.bool false), (.bool false), (.bool false), (.bool false), (.bool false), (.bool false), (.bool false), (.bool false), (.bool false), (.bool false), (.bool false), (.bool false), (.bool false), (.bool false), (.bool false), (.bool false), (.bool false), (.bool false), (.bool false), (.bool false), (.bool false), (.bool false), (.bool false), (.bool false), (.bool false), (.bool false), (.bool false), (.bool false), (.bool false), (.bool false), (.bool false), (.bool false), (.bool false), (.bool false), (.bool false), (.bool false), (.bool false), (.bool false), (.bool false), (.bool false), (.bool false), (.bool false), (.bool false), (.bool false), (.bool false), (.bool false), (.bool false), (.bool false), (.bool false), (.bool false), (.bool false), (.bool false), (.bool false), (.bool false), (.bool false), (.bool false), (.bool false), (.bool false), (.bool false), (.bool false), (.bool false), (.bool false), (.bool false), (.bool false), (.bool false), (.bool false), (.bool false), (.bool false), (.bool false), (.bool false), (.bool false), (.bool false), (.bool false), (.bool false), (.bool false), (.bool false), (.bool false), (.bool false), (.bool false), (.bool false), (.bool false), (.bool false), (.bool false), (.bool false), (.bool false), (.bool false), (.bool false), (.bool false), (.bool false), (.bool false), (.bool false), (.bool false), (.bool false), (.bool false), (.bool false), (.bool false), (.bool false), (.bool false), (.bool false), (.bool false), (.bool false), (.bool false), (.bool false), (.bool false), (.bool false), (.bool false), (.bool false), (.bool false), (.bool false), (.bool false), (.bool false), (.bool false), (.bool false), (.bool false), (.bool false), (.bool false), (.bool false), (.bool false), (.bool false), (.bool false), (.bool false), (.bool false), (.bool false), (.bool false), (.bool false), (.bool false), (.bool false), (.bool false), (.bool false), (.bool false), (.bool false), (.bool false), (.bool false), (.bool false), (.bool false), (.bool false), (.bool false), (.bool false), (.bool false), (.bool false), (.bool false), (.bool false), (.bool false), (.bool false), (.bool false), (.bool false), (.bool false), (.bool false), (.bool false), (.bool false), (.bool false), (.bool false), (.bool false), (.bool false), (.bool false), (.bool false), (.bool false), (.bool false), (.bool false), (.bool false), (.bool false), (.bool false), (.bool false), (.bool false), (.bool false), (.bool false), (.bool false), (.bool false), (.bool false), (.bool false), (.bool false), (.bool false), (.bool false), (.bool false), (.bool false), (.bool false), (.bool false), (.bool false), (.bool false), (.bool false), (.bool false), (.bool false), (.bool false), (.bool false), (.bool false), (.bool false), (.bool false), (.bool false), (.bool false), (.bool false), (.bool false), (.bool false), (.bool false), (.bool false), (.bool false), (.bool false), (.bool false), (.bool false), (.bool false), (.bool false), (.bool false), (.bool false), (.bool false), (.bool false), (.bool false), (.bool false), (.bool false), (.bool false), (.bool false), (.bool false), (.bool false), (.bool false), (.bool false), (.bool false), (.bool false), (.bool false), (.bool false), (.bool false), (.bool false), (.bool false), (.bool false), (.bool false), (.bool false), (.bool false), (.bool false), (.bool false), (.bool false), (.bool false), (.bool false), (.bool false), (.bool false), (.bool false), (.bool false), (.bool false)], ()))
theorem S111_eq (lp : Lp) (cl : CL) (a0 : List UInt8) : runS lp Tryz.prog TryzG cl 111 [(.str a0)] = S111 lp cl a0 := by kernel_rfl
def S111_w (lp : Lp) (cl : CL) (args : List D) : Option D := bd (Sh.gds [.str] args) fun v => S111 lp cl v.1
theorem S111_t : TabE TryzE 111 S111_w := tab_of (by kernel_rfl) fun lp cl v => S111_eq lp cl v.1

end Go.Proofs.YtblbgjfkbcdlfaaGreatDoor
