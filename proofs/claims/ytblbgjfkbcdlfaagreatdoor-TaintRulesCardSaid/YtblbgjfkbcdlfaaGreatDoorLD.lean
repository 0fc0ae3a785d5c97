/- What the functions of this program come to: rules of primitives of one operand. -/
import Derived.Test.YtblbgjfkbcdlfaaGreatDoorLC
set_option linter.unusedVariables false
set_option linter.unusedSimpArgs false
set_option linter.unusedSectionVars false
set_option maxRecDepth 100000
namespace Go.Proofs.YtblbgjfkbcdlfaaGreatDoor
open Go Iv LatT

noncomputable def lastM {T : LatT} (m : TM T) : Lab T := bif Nat.blt m.r 2 then m.a0 else m.a1
noncomputable def foldM {T : LatT} (m : TM T) : Lab T := bif Nat.blt m.r 2 then bot T else m.a0
/-- Axes, data, error of a primitive of one operand. -/
noncomputable def oneM {T : LatT} (p : Nat) (m : TM T) : Lab T × Lab T × Lab T × Lab T :=
  let a := m.lens
  let all := J a m.d
  match p with
  | 1 => (m.a0, m.a1, m.d, all)
  | 2 => (m.a0, m.a1, m.d, all)
  | 4 => (bot T, bot T, a, bot T)
  | 5 => (a, bot T, m.d, bot T)
  | 7 => (m.a1, m.a0, m.d, bot T)
  | 8 => (m.d, bot T, m.d, m.d)
  | 9 => (foldM m, bot T, J m.d (lastM m), all)
  | 10 => (foldM m, bot T, J m.d (lastM m), a)
  | 11 => (foldM m, bot T, J m.d (lastM m), a)
  | 12 => (foldM m, bot T, a, bot T)
  | 13 => (m.a0, m.a1, all, all)
  | 14 => (m.a0, m.a1, J m.d (lastM m), bot T)
  | _ => (m.a0, m.a1, m.d, bot T)
def enc4 {T : LatT} (x : Lab T × Lab T × Lab T × Lab T) : D := .tup [.agg [.int .i64 (x.1.1 : Int), .int .i64 (x.2.1.1 : Int)], .int .i64 (x.2.2.1.1 : Int), .int .i64 (x.2.2.2.1 : Int)]
@[simp] theorem q9_enc4 {T : LatT} (x : Lab T × Lab T × Lab T × Lab T) : q9 (enc4 x) = some (((x.1.1 : Int), (x.2.1.1 : Int), ()), (x.2.2.1.1 : Int), (x.2.2.2.1 : Int), ()) := rfl
theorem enc4_congr {T : LatT} {a b c d a' b' c' d' : Lab T} (h1 : a = a') (h2 : b = b') (h3 : c = c') (h4 : d = d') :
    some (D.tup [.agg [.int .i64 (a.1 : Int), .int .i64 (b.1 : Int)], .int .i64 (c.1 : Int), .int .i64 (d.1 : Int)]) = some (enc4 (a', b', c', d')) := by
  rw [h1, h2, h3, h4]; rfl

theorem enc4_congr' {α : Type} {T : LatT} {a b c d a' b' c' d' : Lab T} (h1 : a = a') (h2 : b = b') (h3 : c = c') (h4 : d = d') :
    some (Sum.inr (α := α) (D.tup [.agg [.int .i64 (a.1 : Int), .int .i64 (b.1 : Int)], .int .i64 (c.1 : Int), .int .i64 (d.1 : Int)])) = some (Sum.inr (enc4 (a', b', c', d'))) := by
  rw [h1, h2, h3, h4]; rfl
def okR1 (p r : Nat) : Bool := !(ltZ (rankM p [(r : Int)]) 0)

theorem T0 (a b c d e : Int) {ρ : Type} (K : Int → Option ρ) : tkT q4 [.int .i64 a, .int .i64 b, .int .i64 c, .int .i64 d, .int .i64 e] (2 + 0 * 1) none K = K c := rfl
theorem T1 (a b c d e : Int) {ρ : Type} (K : Int → Option ρ) : tkT q4 [.int .i64 a, .int .i64 b, .int .i64 c, .int .i64 d, .int .i64 e] (2 + 1 * 1) none K = K d := rfl
theorem I0 : idxD 2 (.int .i64 (0 : Int)) = some 0 := rfl
theorem I1 : idxD 2 (.int .i64 (1 : Int)) = some 1 := rfl
theorem I10 : idxD 2 (.int .i64 (wrapD .i64 ((1 : Int) - 1))) = some 0 := rfl
theorem I21 : idxD 2 (.int .i64 (wrapD .i64 ((2 : Int) - 1))) = some 1 := rfl
theorem W1 : wrapD .i64 ((0 : Int) + 1) = 1 := rfl
theorem W2 : wrapD .i64 ((1 : Int) + 1) = 2 := rfl
theorem R0 : inR (0 + 0 * 1) 1 2 = some () := rfl
theorem R1 : inR (0 + 1 * 1) 1 2 = some () := rfl
theorem G0 (a b x : Int) {ρ : Type} (K : (Int × Int × Unit) → Option ρ) : bd (Sh.gds [(.int .i64), (.int .i64)] (setQ [.int .i64 a, .int .i64 b] (0 + 0 * 1) [.int .i64 x])) K = K (x, b, ()) := rfl
theorem G1 (a b x : Int) {ρ : Type} (K : (Int × Int × Unit) → Option ρ) : bd (Sh.gds [(.int .i64), (.int .i64)] (setQ [.int .i64 a, .int .i64 b] (0 + 1 * 1) [.int .i64 x])) K = K (a, x, ()) := rfl

section
variable {ss : List (List UInt8)} {us : List Nat} {d e : D} (h : Strs ss d) (hu : U8s us e) (hg : Good ss us)
include h hu hg
theorem c23_1 (n : Nat) {k r x0 x1 x2 : Int} {m : TM (latT hg)} (hm : IsTy m r x0 x1 x2) (hr : okR1 1 m.r = true) : cl (n + 11) 23 [.agg [d, e, .int .i64 ((bot (latT hg)).1 : Int)], .int .i64 1, ty5 k r x0 x1 x2] = some (enc4 (oneM 1 m)) := by
  obtain ⟨mr, a0, a1, md⟩ := m
  have h2 := hm.r2
  simp only at h2 hr
  have hc : mr = 0 ∨ mr = 1 ∨ mr = 2 := by omega
  have h26 := c26 h hu hg n (k := k) hm
  have h54 := c54 h hu (n + 9) hg (k := k) hm
  simp only [ty5] at h26 h54
  obtain ⟨_, hr', hx0, hb0, hx1, hb1, rfl⟩ := hm
  simp only at hr' hx0 hb0 hx1 hb1
  rcases hc with rfl | rfl | rfl
  · obtain rfl : r = 0 := hr'
    obtain rfl := hb0 (by omega)
    obtain rfl := hb1 (by omega)
    refine in23 d e _ _ _ _ _ _ _ h.fz hu.fz rfl ?_
    unfold S23
    simp only [h26, h54, j25_2 h hu hg (n + 1), c55_0 h hu hg n, c55_1 h hu hg n, clT_some, q4_int, q18_ag, bd_some_eq, bj_inl, cond_true, cond_false, Bool.and_true, Bool.and_false, Bool.true_and, Bool.false_and, eqZ_eq, leZ_eq, ltZ_eq, Int.reduceBEq, Int.reduceLE, Int.reduceLT, decide_true, decide_false, rt_some_eq, T0, T1, I0, I1, I10, I21, W1, W2, R0, R1, G0, G1]
    refine enc4_congr ?_ ?_ ?_ ?_ <;> simp only [oneM, TM.lens, lastM, foldM, Nat.blt, Nat.ble, cond_true, cond_false, J_bot, bot_J]
  · obtain rfl : r = 1 := hr'
    obtain rfl := hx0 (by omega)
    obtain rfl := hb1 (by omega)
    refine in23 d e _ _ _ _ _ _ _ h.fz hu.fz rfl ?_
    unfold S23
    simp only [h26, h54, j25_2 h hu hg (n + 1), c55_0 h hu hg n, c55_1 h hu hg n, clT_some, q4_int, q18_ag, bd_some_eq, bj_inl, cond_true, cond_false, Bool.and_true, Bool.and_false, Bool.true_and, Bool.false_and, eqZ_eq, leZ_eq, ltZ_eq, Int.reduceBEq, Int.reduceLE, Int.reduceLT, decide_true, decide_false, rt_some_eq, T0, T1, I0, I1, I10, I21, W1, W2, R0, R1, G0, G1]
    refine enc4_congr ?_ ?_ ?_ ?_ <;> simp only [oneM, TM.lens, lastM, foldM, Nat.blt, Nat.ble, cond_true, cond_false, J_bot, bot_J]
  · obtain rfl : r = 2 := hr'
    obtain rfl := hx0 (by omega)
    obtain rfl := hx1 (by omega)
    refine in23 d e _ _ _ _ _ _ _ h.fz hu.fz rfl ?_
    unfold S23
    simp only [h26, h54, j25_2 h hu hg (n + 1), c55_0 h hu hg n, c55_1 h hu hg n, clT_some, q4_int, q18_ag, bd_some_eq, bj_inl, cond_true, cond_false, Bool.and_true, Bool.and_false, Bool.true_and, Bool.false_and, eqZ_eq, leZ_eq, ltZ_eq, Int.reduceBEq, Int.reduceLE, Int.reduceLT, decide_true, decide_false, rt_some_eq, T0, T1, I0, I1, I10, I21, W1, W2, R0, R1, G0, G1]
    refine enc4_congr ?_ ?_ ?_ ?_ <;> simp only [oneM, TM.lens, lastM, foldM, Nat.blt, Nat.ble, cond_true, cond_false, J_bot, bot_J]
theorem c23_2 (n : Nat) {k r x0 x1 x2 : Int} {m : TM (latT hg)} (hm : IsTy m r x0 x1 x2) (hr : okR1 2 m.r = true) : cl (n + 11) 23 [.agg [d, e, .int .i64 ((bot (latT hg)).1 : Int)], .int .i64 2, ty5 k r x0 x1 x2] = some (enc4 (oneM 2 m)) := by
  obtain ⟨mr, a0, a1, md⟩ := m
  have h2 := hm.r2
  simp only at h2 hr
  have hc : mr = 0 ∨ mr = 1 ∨ mr = 2 := by omega
  have h26 := c26 h hu hg n (k := k) hm
  have h54 := c54 h hu (n + 9) hg (k := k) hm
  simp only [ty5] at h26 h54
  obtain ⟨_, hr', hx0, hb0, hx1, hb1, rfl⟩ := hm
  simp only at hr' hx0 hb0 hx1 hb1
  rcases hc with rfl | rfl | rfl
  · obtain rfl : r = 0 := hr'
    obtain rfl := hb0 (by omega)
    obtain rfl := hb1 (by omega)
    refine in23 d e _ _ _ _ _ _ _ h.fz hu.fz rfl ?_
    unfold S23
    simp only [h26, h54, j25_2 h hu hg (n + 1), c55_0 h hu hg n, c55_1 h hu hg n, clT_some, q4_int, q18_ag, bd_some_eq, bj_inl, cond_true, cond_false, Bool.and_true, Bool.and_false, Bool.true_and, Bool.false_and, eqZ_eq, leZ_eq, ltZ_eq, Int.reduceBEq, Int.reduceLE, Int.reduceLT, decide_true, decide_false, rt_some_eq, T0, T1, I0, I1, I10, I21, W1, W2, R0, R1, G0, G1]
    refine enc4_congr ?_ ?_ ?_ ?_ <;> simp only [oneM, TM.lens, lastM, foldM, Nat.blt, Nat.ble, cond_true, cond_false, J_bot, bot_J]
  · obtain rfl : r = 1 := hr'
    obtain rfl := hx0 (by omega)
    obtain rfl := hb1 (by omega)
    refine in23 d e _ _ _ _ _ _ _ h.fz hu.fz rfl ?_
    unfold S23
    simp only [h26, h54, j25_2 h hu hg (n + 1), c55_0 h hu hg n, c55_1 h hu hg n, clT_some, q4_int, q18_ag, bd_some_eq, bj_inl, cond_true, cond_false, Bool.and_true, Bool.and_false, Bool.true_and, Bool.false_and, eqZ_eq, leZ_eq, ltZ_eq, Int.reduceBEq, Int.reduceLE, Int.reduceLT, decide_true, decide_false, rt_some_eq, T0, T1, I0, I1, I10, I21, W1, W2, R0, R1, G0, G1]
    refine enc4_congr ?_ ?_ ?_ ?_ <;> simp only [oneM, TM.lens, lastM, foldM, Nat.blt, Nat.ble, cond_true, cond_false, J_bot, bot_J]
  · obtain rfl : r = 2 := hr'
    obtain rfl := hx0 (by omega)
    obtain rfl := hx1 (by omega)
    refine in23 d e _ _ _ _ _ _ _ h.fz hu.fz rfl ?_
    unfold S23
    simp only [h26, h54, j25_2 h hu hg (n + 1), c55_0 h hu hg n, c55_1 h hu hg n, clT_some, q4_int, q18_ag, bd_some_eq, bj_inl, cond_true, cond_false, Bool.and_true, Bool.and_false, Bool.true_and, Bool.false_and, eqZ_eq, leZ_eq, ltZ_eq, Int.reduceBEq, Int.reduceLE, Int.reduceLT, decide_true, decide_false, rt_some_eq, T0, T1, I0, I1, I10, I21, W1, W2, R0, R1, G0, G1]
    refine enc4_congr ?_ ?_ ?_ ?_ <;> simp only [oneM, TM.lens, lastM, foldM, Nat.blt, Nat.ble, cond_true, cond_false, J_bot, bot_J]
theorem c23_3 (n : Nat) {k r x0 x1 x2 : Int} {m : TM (latT hg)} (hm : IsTy m r x0 x1 x2) (hr : okR1 3 m.r = true) : cl (n + 11) 23 [.agg [d, e, .int .i64 ((bot (latT hg)).1 : Int)], .int .i64 3, ty5 k r x0 x1 x2] = some (enc4 (oneM 3 m)) := by
  obtain ⟨mr, a0, a1, md⟩ := m
  have h2 := hm.r2
  simp only at h2 hr
  have hc : mr = 0 ∨ mr = 1 ∨ mr = 2 := by omega
  have h26 := c26 h hu hg n (k := k) hm
  have h54 := c54 h hu (n + 9) hg (k := k) hm
  simp only [ty5] at h26 h54
  obtain ⟨_, hr', hx0, hb0, hx1, hb1, rfl⟩ := hm
  simp only at hr' hx0 hb0 hx1 hb1
  rcases hc with rfl | rfl | rfl
  · obtain rfl : r = 0 := hr'
    obtain rfl := hb0 (by omega)
    obtain rfl := hb1 (by omega)
    refine in23 d e _ _ _ _ _ _ _ h.fz hu.fz rfl ?_
    unfold S23
    simp only [h26, h54, j25_2 h hu hg (n + 1), c55_0 h hu hg n, c55_1 h hu hg n, clT_some, q4_int, q18_ag, bd_some_eq, bj_inl, cond_true, cond_false, Bool.and_true, Bool.and_false, Bool.true_and, Bool.false_and, eqZ_eq, leZ_eq, ltZ_eq, Int.reduceBEq, Int.reduceLE, Int.reduceLT, decide_true, decide_false, rt_some_eq, T0, T1, I0, I1, I10, I21, W1, W2, R0, R1, G0, G1]
    refine enc4_congr ?_ ?_ ?_ ?_ <;> simp only [oneM, TM.lens, lastM, foldM, Nat.blt, Nat.ble, cond_true, cond_false, J_bot, bot_J]
  · obtain rfl : r = 1 := hr'
    obtain rfl := hx0 (by omega)
    obtain rfl := hb1 (by omega)
    refine in23 d e _ _ _ _ _ _ _ h.fz hu.fz rfl ?_
    unfold S23
    simp only [h26, h54, j25_2 h hu hg (n + 1), c55_0 h hu hg n, c55_1 h hu hg n, clT_some, q4_int, q18_ag, bd_some_eq, bj_inl, cond_true, cond_false, Bool.and_true, Bool.and_false, Bool.true_and, Bool.false_and, eqZ_eq, leZ_eq, ltZ_eq, Int.reduceBEq, Int.reduceLE, Int.reduceLT, decide_true, decide_false, rt_some_eq, T0, T1, I0, I1, I10, I21, W1, W2, R0, R1, G0, G1]
    refine enc4_congr ?_ ?_ ?_ ?_ <;> simp only [oneM, TM.lens, lastM, foldM, Nat.blt, Nat.ble, cond_true, cond_false, J_bot, bot_J]
  · obtain rfl : r = 2 := hr'
    obtain rfl := hx0 (by omega)
    obtain rfl := hx1 (by omega)
    refine in23 d e _ _ _ _ _ _ _ h.fz hu.fz rfl ?_
    unfold S23
    simp only [h26, h54, j25_2 h hu hg (n + 1), c55_0 h hu hg n, c55_1 h hu hg n, clT_some, q4_int, q18_ag, bd_some_eq, bj_inl, cond_true, cond_false, Bool.and_true, Bool.and_false, Bool.true_and, Bool.false_and, eqZ_eq, leZ_eq, ltZ_eq, Int.reduceBEq, Int.reduceLE, Int.reduceLT, decide_true, decide_false, rt_some_eq, T0, T1, I0, I1, I10, I21, W1, W2, R0, R1, G0, G1]
    refine enc4_congr ?_ ?_ ?_ ?_ <;> simp only [oneM, TM.lens, lastM, foldM, Nat.blt, Nat.ble, cond_true, cond_false, J_bot, bot_J]
theorem c23_4 (n : Nat) {k r x0 x1 x2 : Int} {m : TM (latT hg)} (hm : IsTy m r x0 x1 x2) (hr : okR1 4 m.r = true) : cl (n + 11) 23 [.agg [d, e, .int .i64 ((bot (latT hg)).1 : Int)], .int .i64 4, ty5 k r x0 x1 x2] = some (enc4 (oneM 4 m)) := by
  obtain ⟨mr, a0, a1, md⟩ := m
  have h2 := hm.r2
  simp only at h2 hr
  have hc : mr = 0 ∨ mr = 1 ∨ mr = 2 := by omega
  have h26 := c26 h hu hg n (k := k) hm
  have h54 := c54 h hu (n + 9) hg (k := k) hm
  simp only [ty5] at h26 h54
  obtain ⟨_, hr', hx0, hb0, hx1, hb1, rfl⟩ := hm
  simp only at hr' hx0 hb0 hx1 hb1
  rcases hc with rfl | rfl | rfl
  · obtain rfl : r = 0 := hr'
    obtain rfl := hb0 (by omega)
    obtain rfl := hb1 (by omega)
    refine in23 d e _ _ _ _ _ _ _ h.fz hu.fz rfl ?_
    unfold S23
    simp only [h26, h54, j25_2 h hu hg (n + 1), c55_0 h hu hg n, c55_1 h hu hg n, clT_some, q4_int, q18_ag, bd_some_eq, bj_inl, cond_true, cond_false, Bool.and_true, Bool.and_false, Bool.true_and, Bool.false_and, eqZ_eq, leZ_eq, ltZ_eq, Int.reduceBEq, Int.reduceLE, Int.reduceLT, decide_true, decide_false, rt_some_eq, T0, T1, I0, I1, I10, I21, W1, W2, R0, R1, G0, G1]
    refine enc4_congr ?_ ?_ ?_ ?_ <;> simp only [oneM, TM.lens, lastM, foldM, Nat.blt, Nat.ble, cond_true, cond_false, J_bot, bot_J]
  · obtain rfl : r = 1 := hr'
    obtain rfl := hx0 (by omega)
    obtain rfl := hb1 (by omega)
    refine in23 d e _ _ _ _ _ _ _ h.fz hu.fz rfl ?_
    unfold S23
    simp only [h26, h54, j25_2 h hu hg (n + 1), c55_0 h hu hg n, c55_1 h hu hg n, clT_some, q4_int, q18_ag, bd_some_eq, bj_inl, cond_true, cond_false, Bool.and_true, Bool.and_false, Bool.true_and, Bool.false_and, eqZ_eq, leZ_eq, ltZ_eq, Int.reduceBEq, Int.reduceLE, Int.reduceLT, decide_true, decide_false, rt_some_eq, T0, T1, I0, I1, I10, I21, W1, W2, R0, R1, G0, G1]
    refine enc4_congr ?_ ?_ ?_ ?_ <;> simp only [oneM, TM.lens, lastM, foldM, Nat.blt, Nat.ble, cond_true, cond_false, J_bot, bot_J]
  · obtain rfl : r = 2 := hr'
    obtain rfl := hx0 (by omega)
    obtain rfl := hx1 (by omega)
    refine in23 d e _ _ _ _ _ _ _ h.fz hu.fz rfl ?_
    unfold S23
    simp only [h26, h54, j25_2 h hu hg (n + 1), c55_0 h hu hg n, c55_1 h hu hg n, clT_some, q4_int, q18_ag, bd_some_eq, bj_inl, cond_true, cond_false, Bool.and_true, Bool.and_false, Bool.true_and, Bool.false_and, eqZ_eq, leZ_eq, ltZ_eq, Int.reduceBEq, Int.reduceLE, Int.reduceLT, decide_true, decide_false, rt_some_eq, T0, T1, I0, I1, I10, I21, W1, W2, R0, R1, G0, G1]
    refine enc4_congr ?_ ?_ ?_ ?_ <;> simp only [oneM, TM.lens, lastM, foldM, Nat.blt, Nat.ble, cond_true, cond_false, J_bot, bot_J]
theorem c23_5 (n : Nat) {k r x0 x1 x2 : Int} {m : TM (latT hg)} (hm : IsTy m r x0 x1 x2) (hr : okR1 5 m.r = true) : cl (n + 11) 23 [.agg [d, e, .int .i64 ((bot (latT hg)).1 : Int)], .int .i64 5, ty5 k r x0 x1 x2] = some (enc4 (oneM 5 m)) := by
  obtain ⟨mr, a0, a1, md⟩ := m
  have h2 := hm.r2
  simp only at h2 hr
  have hc : mr = 0 ∨ mr = 1 ∨ mr = 2 := by omega
  have h26 := c26 h hu hg n (k := k) hm
  have h54 := c54 h hu (n + 9) hg (k := k) hm
  simp only [ty5] at h26 h54
  obtain ⟨_, hr', hx0, hb0, hx1, hb1, rfl⟩ := hm
  simp only at hr' hx0 hb0 hx1 hb1
  rcases hc with rfl | rfl | rfl
  · obtain rfl : r = 0 := hr'
    obtain rfl := hb0 (by omega)
    obtain rfl := hb1 (by omega)
    refine in23 d e _ _ _ _ _ _ _ h.fz hu.fz rfl ?_
    unfold S23
    simp only [h26, h54, j25_2 h hu hg (n + 1), c55_0 h hu hg n, c55_1 h hu hg n, clT_some, q4_int, q18_ag, bd_some_eq, bj_inl, cond_true, cond_false, Bool.and_true, Bool.and_false, Bool.true_and, Bool.false_and, eqZ_eq, leZ_eq, ltZ_eq, Int.reduceBEq, Int.reduceLE, Int.reduceLT, decide_true, decide_false, rt_some_eq, T0, T1, I0, I1, I10, I21, W1, W2, R0, R1, G0, G1]
    refine enc4_congr ?_ ?_ ?_ ?_ <;> simp only [oneM, TM.lens, lastM, foldM, Nat.blt, Nat.ble, cond_true, cond_false, J_bot, bot_J]
  · obtain rfl : r = 1 := hr'
    obtain rfl := hx0 (by omega)
    obtain rfl := hb1 (by omega)
    refine in23 d e _ _ _ _ _ _ _ h.fz hu.fz rfl ?_
    unfold S23
    simp only [h26, h54, j25_2 h hu hg (n + 1), c55_0 h hu hg n, c55_1 h hu hg n, clT_some, q4_int, q18_ag, bd_some_eq, bj_inl, cond_true, cond_false, Bool.and_true, Bool.and_false, Bool.true_and, Bool.false_and, eqZ_eq, leZ_eq, ltZ_eq, Int.reduceBEq, Int.reduceLE, Int.reduceLT, decide_true, decide_false, rt_some_eq, T0, T1, I0, I1, I10, I21, W1, W2, R0, R1, G0, G1]
    refine enc4_congr ?_ ?_ ?_ ?_ <;> simp only [oneM, TM.lens, lastM, foldM, Nat.blt, Nat.ble, cond_true, cond_false, J_bot, bot_J]
  · obtain rfl : r = 2 := hr'
    obtain rfl := hx0 (by omega)
    obtain rfl := hx1 (by omega)
    refine in23 d e _ _ _ _ _ _ _ h.fz hu.fz rfl ?_
    unfold S23
    simp only [h26, h54, j25_2 h hu hg (n + 1), c55_0 h hu hg n, c55_1 h hu hg n, clT_some, q4_int, q18_ag, bd_some_eq, bj_inl, cond_true, cond_false, Bool.and_true, Bool.and_false, Bool.true_and, Bool.false_and, eqZ_eq, leZ_eq, ltZ_eq, Int.reduceBEq, Int.reduceLE, Int.reduceLT, decide_true, decide_false, rt_some_eq, T0, T1, I0, I1, I10, I21, W1, W2, R0, R1, G0, G1]
    refine enc4_congr ?_ ?_ ?_ ?_ <;> simp only [oneM, TM.lens, lastM, foldM, Nat.blt, Nat.ble, cond_true, cond_false, J_bot, bot_J]
theorem c23_6 (n : Nat) {k r x0 x1 x2 : Int} {m : TM (latT hg)} (hm : IsTy m r x0 x1 x2) (hr : okR1 6 m.r = true) : cl (n + 11) 23 [.agg [d, e, .int .i64 ((bot (latT hg)).1 : Int)], .int .i64 6, ty5 k r x0 x1 x2] = some (enc4 (oneM 6 m)) := by
  obtain ⟨mr, a0, a1, md⟩ := m
  have h2 := hm.r2
  simp only at h2 hr
  have hc : mr = 0 ∨ mr = 1 ∨ mr = 2 := by omega
  have h26 := c26 h hu hg n (k := k) hm
  have h54 := c54 h hu (n + 9) hg (k := k) hm
  simp only [ty5] at h26 h54
  obtain ⟨_, hr', hx0, hb0, hx1, hb1, rfl⟩ := hm
  simp only at hr' hx0 hb0 hx1 hb1
  rcases hc with rfl | rfl | rfl
  · exact absurd hr (by decide)
  · obtain rfl : r = 1 := hr'
    obtain rfl := hx0 (by omega)
    obtain rfl := hb1 (by omega)
    refine in23 d e _ _ _ _ _ _ _ h.fz hu.fz rfl ?_
    unfold S23
    simp only [h26, h54, j25_2 h hu hg (n + 1), c55_0 h hu hg n, c55_1 h hu hg n, clT_some, q4_int, q18_ag, bd_some_eq, bj_inl, cond_true, cond_false, Bool.and_true, Bool.and_false, Bool.true_and, Bool.false_and, eqZ_eq, leZ_eq, ltZ_eq, Int.reduceBEq, Int.reduceLE, Int.reduceLT, decide_true, decide_false, rt_some_eq, T0, T1, I0, I1, I10, I21, W1, W2, R0, R1, G0, G1]
    refine enc4_congr ?_ ?_ ?_ ?_ <;> simp only [oneM, TM.lens, lastM, foldM, Nat.blt, Nat.ble, cond_true, cond_false, J_bot, bot_J]
  · obtain rfl : r = 2 := hr'
    obtain rfl := hx0 (by omega)
    obtain rfl := hx1 (by omega)
    refine in23 d e _ _ _ _ _ _ _ h.fz hu.fz rfl ?_
    unfold S23
    simp only [h26, h54, j25_2 h hu hg (n + 1), c55_0 h hu hg n, c55_1 h hu hg n, clT_some, q4_int, q18_ag, bd_some_eq, bj_inl, cond_true, cond_false, Bool.and_true, Bool.and_false, Bool.true_and, Bool.false_and, eqZ_eq, leZ_eq, ltZ_eq, Int.reduceBEq, Int.reduceLE, Int.reduceLT, decide_true, decide_false, rt_some_eq, T0, T1, I0, I1, I10, I21, W1, W2, R0, R1, G0, G1]
    refine enc4_congr ?_ ?_ ?_ ?_ <;> simp only [oneM, TM.lens, lastM, foldM, Nat.blt, Nat.ble, cond_true, cond_false, J_bot, bot_J]
theorem c23_7 (n : Nat) {k r x0 x1 x2 : Int} {m : TM (latT hg)} (hm : IsTy m r x0 x1 x2) (hr : okR1 7 m.r = true) : cl (n + 11) 23 [.agg [d, e, .int .i64 ((bot (latT hg)).1 : Int)], .int .i64 7, ty5 k r x0 x1 x2] = some (enc4 (oneM 7 m)) := by
  obtain ⟨mr, a0, a1, md⟩ := m
  have h2 := hm.r2
  simp only at h2 hr
  have hc : mr = 0 ∨ mr = 1 ∨ mr = 2 := by omega
  have h26 := c26 h hu hg n (k := k) hm
  have h54 := c54 h hu (n + 9) hg (k := k) hm
  simp only [ty5] at h26 h54
  obtain ⟨_, hr', hx0, hb0, hx1, hb1, rfl⟩ := hm
  simp only at hr' hx0 hb0 hx1 hb1
  rcases hc with rfl | rfl | rfl
  · exact absurd hr (by decide)
  · exact absurd hr (by decide)
  · obtain rfl : r = 2 := hr'
    obtain rfl := hx0 (by omega)
    obtain rfl := hx1 (by omega)
    refine in23 d e _ _ _ _ _ _ _ h.fz hu.fz rfl ?_
    unfold S23
    simp only [h26, h54, j25_2 h hu hg (n + 1), c55_0 h hu hg n, c55_1 h hu hg n, clT_some, q4_int, q18_ag, bd_some_eq, bj_inl, cond_true, cond_false, Bool.and_true, Bool.and_false, Bool.true_and, Bool.false_and, eqZ_eq, leZ_eq, ltZ_eq, Int.reduceBEq, Int.reduceLE, Int.reduceLT, decide_true, decide_false, rt_some_eq, T0, T1, I0, I1, I10, I21, W1, W2, R0, R1, G0, G1]
    refine enc4_congr ?_ ?_ ?_ ?_ <;> simp only [oneM, TM.lens, lastM, foldM, Nat.blt, Nat.ble, cond_true, cond_false, J_bot, bot_J]
theorem c23_8 (n : Nat) {k r x0 x1 x2 : Int} {m : TM (latT hg)} (hm : IsTy m r x0 x1 x2) (hr : okR1 8 m.r = true) : cl (n + 11) 23 [.agg [d, e, .int .i64 ((bot (latT hg)).1 : Int)], .int .i64 8, ty5 k r x0 x1 x2] = some (enc4 (oneM 8 m)) := by
  obtain ⟨mr, a0, a1, md⟩ := m
  have h2 := hm.r2
  simp only at h2 hr
  have hc : mr = 0 ∨ mr = 1 ∨ mr = 2 := by omega
  have h26 := c26 h hu hg n (k := k) hm
  have h54 := c54 h hu (n + 9) hg (k := k) hm
  simp only [ty5] at h26 h54
  obtain ⟨_, hr', hx0, hb0, hx1, hb1, rfl⟩ := hm
  simp only at hr' hx0 hb0 hx1 hb1
  rcases hc with rfl | rfl | rfl
  · obtain rfl : r = 0 := hr'
    obtain rfl := hb0 (by omega)
    obtain rfl := hb1 (by omega)
    refine in23 d e _ _ _ _ _ _ _ h.fz hu.fz rfl ?_
    unfold S23
    simp only [h26, h54, j25_2 h hu hg (n + 1), c55_0 h hu hg n, c55_1 h hu hg n, clT_some, q4_int, q18_ag, bd_some_eq, bj_inl, cond_true, cond_false, Bool.and_true, Bool.and_false, Bool.true_and, Bool.false_and, eqZ_eq, leZ_eq, ltZ_eq, Int.reduceBEq, Int.reduceLE, Int.reduceLT, decide_true, decide_false, rt_some_eq, T0, T1, I0, I1, I10, I21, W1, W2, R0, R1, G0, G1]
    refine enc4_congr ?_ ?_ ?_ ?_ <;> simp only [oneM, TM.lens, lastM, foldM, Nat.blt, Nat.ble, cond_true, cond_false, J_bot, bot_J]
  · exact absurd hr (by decide)
  · exact absurd hr (by decide)
theorem c23_9 (n : Nat) {k r x0 x1 x2 : Int} {m : TM (latT hg)} (hm : IsTy m r x0 x1 x2) (hr : okR1 9 m.r = true) : cl (n + 11) 23 [.agg [d, e, .int .i64 ((bot (latT hg)).1 : Int)], .int .i64 9, ty5 k r x0 x1 x2] = some (enc4 (oneM 9 m)) := by
  obtain ⟨mr, a0, a1, md⟩ := m
  have h2 := hm.r2
  simp only at h2 hr
  have hc : mr = 0 ∨ mr = 1 ∨ mr = 2 := by omega
  have h26 := c26 h hu hg n (k := k) hm
  have h54 := c54 h hu (n + 9) hg (k := k) hm
  simp only [ty5] at h26 h54
  obtain ⟨_, hr', hx0, hb0, hx1, hb1, rfl⟩ := hm
  simp only at hr' hx0 hb0 hx1 hb1
  rcases hc with rfl | rfl | rfl
  · exact absurd hr (by decide)
  · obtain rfl : r = 1 := hr'
    obtain rfl := hx0 (by omega)
    obtain rfl := hb1 (by omega)
    refine in23 d e _ _ _ _ _ _ _ h.fz hu.fz rfl ?_
    unfold S23
    simp only [h26, h54, j25_2 h hu hg (n + 1), c55_0 h hu hg n, c55_1 h hu hg n, clT_some, q4_int, q18_ag, bd_some_eq, bj_inl, cond_true, cond_false, Bool.and_true, Bool.and_false, Bool.true_and, Bool.false_and, eqZ_eq, leZ_eq, ltZ_eq, Int.reduceBEq, Int.reduceLE, Int.reduceLT, decide_true, decide_false, rt_some_eq, T0, T1, I0, I1, I10, I21, W1, W2, R0, R1, G0, G1]
    refine enc4_congr ?_ ?_ ?_ ?_ <;> simp only [oneM, TM.lens, lastM, foldM, Nat.blt, Nat.ble, cond_true, cond_false, J_bot, bot_J]
  · obtain rfl : r = 2 := hr'
    obtain rfl := hx0 (by omega)
    obtain rfl := hx1 (by omega)
    refine in23 d e _ _ _ _ _ _ _ h.fz hu.fz rfl ?_
    unfold S23
    simp only [h26, h54, j25_2 h hu hg (n + 1), c55_0 h hu hg n, c55_1 h hu hg n, clT_some, q4_int, q18_ag, bd_some_eq, bj_inl, cond_true, cond_false, Bool.and_true, Bool.and_false, Bool.true_and, Bool.false_and, eqZ_eq, leZ_eq, ltZ_eq, Int.reduceBEq, Int.reduceLE, Int.reduceLT, decide_true, decide_false, rt_some_eq, T0, T1, I0, I1, I10, I21, W1, W2, R0, R1, G0, G1]
    refine enc4_congr ?_ ?_ ?_ ?_ <;> simp only [oneM, TM.lens, lastM, foldM, Nat.blt, Nat.ble, cond_true, cond_false, J_bot, bot_J]
theorem c23_10 (n : Nat) {k r x0 x1 x2 : Int} {m : TM (latT hg)} (hm : IsTy m r x0 x1 x2) (hr : okR1 10 m.r = true) : cl (n + 11) 23 [.agg [d, e, .int .i64 ((bot (latT hg)).1 : Int)], .int .i64 10, ty5 k r x0 x1 x2] = some (enc4 (oneM 10 m)) := by
  obtain ⟨mr, a0, a1, md⟩ := m
  have h2 := hm.r2
  simp only at h2 hr
  have hc : mr = 0 ∨ mr = 1 ∨ mr = 2 := by omega
  have h26 := c26 h hu hg n (k := k) hm
  have h54 := c54 h hu (n + 9) hg (k := k) hm
  simp only [ty5] at h26 h54
  obtain ⟨_, hr', hx0, hb0, hx1, hb1, rfl⟩ := hm
  simp only at hr' hx0 hb0 hx1 hb1
  rcases hc with rfl | rfl | rfl
  · exact absurd hr (by decide)
  · obtain rfl : r = 1 := hr'
    obtain rfl := hx0 (by omega)
    obtain rfl := hb1 (by omega)
    refine in23 d e _ _ _ _ _ _ _ h.fz hu.fz rfl ?_
    unfold S23
    simp only [h26, h54, j25_2 h hu hg (n + 1), c55_0 h hu hg n, c55_1 h hu hg n, clT_some, q4_int, q18_ag, bd_some_eq, bj_inl, cond_true, cond_false, Bool.and_true, Bool.and_false, Bool.true_and, Bool.false_and, eqZ_eq, leZ_eq, ltZ_eq, Int.reduceBEq, Int.reduceLE, Int.reduceLT, decide_true, decide_false, rt_some_eq, T0, T1, I0, I1, I10, I21, W1, W2, R0, R1, G0, G1]
    refine enc4_congr ?_ ?_ ?_ ?_ <;> simp only [oneM, TM.lens, lastM, foldM, Nat.blt, Nat.ble, cond_true, cond_false, J_bot, bot_J]
  · obtain rfl : r = 2 := hr'
    obtain rfl := hx0 (by omega)
    obtain rfl := hx1 (by omega)
    refine in23 d e _ _ _ _ _ _ _ h.fz hu.fz rfl ?_
    unfold S23
    simp only [h26, h54, j25_2 h hu hg (n + 1), c55_0 h hu hg n, c55_1 h hu hg n, clT_some, q4_int, q18_ag, bd_some_eq, bj_inl, cond_true, cond_false, Bool.and_true, Bool.and_false, Bool.true_and, Bool.false_and, eqZ_eq, leZ_eq, ltZ_eq, Int.reduceBEq, Int.reduceLE, Int.reduceLT, decide_true, decide_false, rt_some_eq, T0, T1, I0, I1, I10, I21, W1, W2, R0, R1, G0, G1]
    refine enc4_congr ?_ ?_ ?_ ?_ <;> simp only [oneM, TM.lens, lastM, foldM, Nat.blt, Nat.ble, cond_true, cond_false, J_bot, bot_J]
theorem c23_11 (n : Nat) {k r x0 x1 x2 : Int} {m : TM (latT hg)} (hm : IsTy m r x0 x1 x2) (hr : okR1 11 m.r = true) : cl (n + 11) 23 [.agg [d, e, .int .i64 ((bot (latT hg)).1 : Int)], .int .i64 11, ty5 k r x0 x1 x2] = some (enc4 (oneM 11 m)) := by
  obtain ⟨mr, a0, a1, md⟩ := m
  have h2 := hm.r2
  simp only at h2 hr
  have hc : mr = 0 ∨ mr = 1 ∨ mr = 2 := by omega
  have h26 := c26 h hu hg n (k := k) hm
  have h54 := c54 h hu (n + 9) hg (k := k) hm
  simp only [ty5] at h26 h54
  obtain ⟨_, hr', hx0, hb0, hx1, hb1, rfl⟩ := hm
  simp only at hr' hx0 hb0 hx1 hb1
  rcases hc with rfl | rfl | rfl
  · exact absurd hr (by decide)
  · obtain rfl : r = 1 := hr'
    obtain rfl := hx0 (by omega)
    obtain rfl := hb1 (by omega)
    refine in23 d e _ _ _ _ _ _ _ h.fz hu.fz rfl ?_
    unfold S23
    simp only [h26, h54, j25_2 h hu hg (n + 1), c55_0 h hu hg n, c55_1 h hu hg n, clT_some, q4_int, q18_ag, bd_some_eq, bj_inl, cond_true, cond_false, Bool.and_true, Bool.and_false, Bool.true_and, Bool.false_and, eqZ_eq, leZ_eq, ltZ_eq, Int.reduceBEq, Int.reduceLE, Int.reduceLT, decide_true, decide_false, rt_some_eq, T0, T1, I0, I1, I10, I21, W1, W2, R0, R1, G0, G1]
    refine enc4_congr ?_ ?_ ?_ ?_ <;> simp only [oneM, TM.lens, lastM, foldM, Nat.blt, Nat.ble, cond_true, cond_false, J_bot, bot_J]
  · obtain rfl : r = 2 := hr'
    obtain rfl := hx0 (by omega)
    obtain rfl := hx1 (by omega)
    refine in23 d e _ _ _ _ _ _ _ h.fz hu.fz rfl ?_
    unfold S23
    simp only [h26, h54, j25_2 h hu hg (n + 1), c55_0 h hu hg n, c55_1 h hu hg n, clT_some, q4_int, q18_ag, bd_some_eq, bj_inl, cond_true, cond_false, Bool.and_true, Bool.and_false, Bool.true_and, Bool.false_and, eqZ_eq, leZ_eq, ltZ_eq, Int.reduceBEq, Int.reduceLE, Int.reduceLT, decide_true, decide_false, rt_some_eq, T0, T1, I0, I1, I10, I21, W1, W2, R0, R1, G0, G1]
    refine enc4_congr ?_ ?_ ?_ ?_ <;> simp only [oneM, TM.lens, lastM, foldM, Nat.blt, Nat.ble, cond_true, cond_false, J_bot, bot_J]
theorem c23_12 (n : Nat) {k r x0 x1 x2 : Int} {m : TM (latT hg)} (hm : IsTy m r x0 x1 x2) (hr : okR1 12 m.r = true) : cl (n + 11) 23 [.agg [d, e, .int .i64 ((bot (latT hg)).1 : Int)], .int .i64 12, ty5 k r x0 x1 x2] = some (enc4 (oneM 12 m)) := by
  obtain ⟨mr, a0, a1, md⟩ := m
  have h2 := hm.r2
  simp only at h2 hr
  have hc : mr = 0 ∨ mr = 1 ∨ mr = 2 := by omega
  have h26 := c26 h hu hg n (k := k) hm
  have h54 := c54 h hu (n + 9) hg (k := k) hm
  simp only [ty5] at h26 h54
  obtain ⟨_, hr', hx0, hb0, hx1, hb1, rfl⟩ := hm
  simp only at hr' hx0 hb0 hx1 hb1
  rcases hc with rfl | rfl | rfl
  · exact absurd hr (by decide)
  · obtain rfl : r = 1 := hr'
    obtain rfl := hx0 (by omega)
    obtain rfl := hb1 (by omega)
    refine in23 d e _ _ _ _ _ _ _ h.fz hu.fz rfl ?_
    unfold S23
    simp only [h26, h54, j25_2 h hu hg (n + 1), c55_0 h hu hg n, c55_1 h hu hg n, clT_some, q4_int, q18_ag, bd_some_eq, bj_inl, cond_true, cond_false, Bool.and_true, Bool.and_false, Bool.true_and, Bool.false_and, eqZ_eq, leZ_eq, ltZ_eq, Int.reduceBEq, Int.reduceLE, Int.reduceLT, decide_true, decide_false, rt_some_eq, T0, T1, I0, I1, I10, I21, W1, W2, R0, R1, G0, G1]
    refine enc4_congr ?_ ?_ ?_ ?_ <;> simp only [oneM, TM.lens, lastM, foldM, Nat.blt, Nat.ble, cond_true, cond_false, J_bot, bot_J]
  · obtain rfl : r = 2 := hr'
    obtain rfl := hx0 (by omega)
    obtain rfl := hx1 (by omega)
    refine in23 d e _ _ _ _ _ _ _ h.fz hu.fz rfl ?_
    unfold S23
    simp only [h26, h54, j25_2 h hu hg (n + 1), c55_0 h hu hg n, c55_1 h hu hg n, clT_some, q4_int, q18_ag, bd_some_eq, bj_inl, cond_true, cond_false, Bool.and_true, Bool.and_false, Bool.true_and, Bool.false_and, eqZ_eq, leZ_eq, ltZ_eq, Int.reduceBEq, Int.reduceLE, Int.reduceLT, decide_true, decide_false, rt_some_eq, T0, T1, I0, I1, I10, I21, W1, W2, R0, R1, G0, G1]
    refine enc4_congr ?_ ?_ ?_ ?_ <;> simp only [oneM, TM.lens, lastM, foldM, Nat.blt, Nat.ble, cond_true, cond_false, J_bot, bot_J]
theorem c23_13 (n : Nat) {k r x0 x1 x2 : Int} {m : TM (latT hg)} (hm : IsTy m r x0 x1 x2) (hr : okR1 13 m.r = true) : cl (n + 11) 23 [.agg [d, e, .int .i64 ((bot (latT hg)).1 : Int)], .int .i64 13, ty5 k r x0 x1 x2] = some (enc4 (oneM 13 m)) := by
  obtain ⟨mr, a0, a1, md⟩ := m
  have h2 := hm.r2
  simp only at h2 hr
  have hc : mr = 0 ∨ mr = 1 ∨ mr = 2 := by omega
  have h26 := c26 h hu hg n (k := k) hm
  have h54 := c54 h hu (n + 9) hg (k := k) hm
  simp only [ty5] at h26 h54
  obtain ⟨_, hr', hx0, hb0, hx1, hb1, rfl⟩ := hm
  simp only at hr' hx0 hb0 hx1 hb1
  rcases hc with rfl | rfl | rfl
  · exact absurd hr (by decide)
  · obtain rfl : r = 1 := hr'
    obtain rfl := hx0 (by omega)
    obtain rfl := hb1 (by omega)
    refine in23 d e _ _ _ _ _ _ _ h.fz hu.fz rfl ?_
    unfold S23
    simp only [h26, h54, j25_2 h hu hg (n + 1), c55_0 h hu hg n, c55_1 h hu hg n, clT_some, q4_int, q18_ag, bd_some_eq, bj_inl, cond_true, cond_false, Bool.and_true, Bool.and_false, Bool.true_and, Bool.false_and, eqZ_eq, leZ_eq, ltZ_eq, Int.reduceBEq, Int.reduceLE, Int.reduceLT, decide_true, decide_false, rt_some_eq, T0, T1, I0, I1, I10, I21, W1, W2, R0, R1, G0, G1]
    refine enc4_congr ?_ ?_ ?_ ?_ <;> simp only [oneM, TM.lens, lastM, foldM, Nat.blt, Nat.ble, cond_true, cond_false, J_bot, bot_J]
  · obtain rfl : r = 2 := hr'
    obtain rfl := hx0 (by omega)
    obtain rfl := hx1 (by omega)
    refine in23 d e _ _ _ _ _ _ _ h.fz hu.fz rfl ?_
    unfold S23
    simp only [h26, h54, j25_2 h hu hg (n + 1), c55_0 h hu hg n, c55_1 h hu hg n, clT_some, q4_int, q18_ag, bd_some_eq, bj_inl, cond_true, cond_false, Bool.and_true, Bool.and_false, Bool.true_and, Bool.false_and, eqZ_eq, leZ_eq, ltZ_eq, Int.reduceBEq, Int.reduceLE, Int.reduceLT, decide_true, decide_false, rt_some_eq, T0, T1, I0, I1, I10, I21, W1, W2, R0, R1, G0, G1]
    refine enc4_congr ?_ ?_ ?_ ?_ <;> simp only [oneM, TM.lens, lastM, foldM, Nat.blt, Nat.ble, cond_true, cond_false, J_bot, bot_J]
theorem c23_14 (n : Nat) {k r x0 x1 x2 : Int} {m : TM (latT hg)} (hm : IsTy m r x0 x1 x2) (hr : okR1 14 m.r = true) : cl (n + 11) 23 [.agg [d, e, .int .i64 ((bot (latT hg)).1 : Int)], .int .i64 14, ty5 k r x0 x1 x2] = some (enc4 (oneM 14 m)) := by
  obtain ⟨mr, a0, a1, md⟩ := m
  have h2 := hm.r2
  simp only at h2 hr
  have hc : mr = 0 ∨ mr = 1 ∨ mr = 2 := by omega
  have h26 := c26 h hu hg n (k := k) hm
  have h54 := c54 h hu (n + 9) hg (k := k) hm
  simp only [ty5] at h26 h54
  obtain ⟨_, hr', hx0, hb0, hx1, hb1, rfl⟩ := hm
  simp only at hr' hx0 hb0 hx1 hb1
  rcases hc with rfl | rfl | rfl
  · exact absurd hr (by decide)
  · obtain rfl : r = 1 := hr'
    obtain rfl := hx0 (by omega)
    obtain rfl := hb1 (by omega)
    refine in23 d e _ _ _ _ _ _ _ h.fz hu.fz rfl ?_
    unfold S23
    simp only [h26, h54, j25_2 h hu hg (n + 1), c55_0 h hu hg n, c55_1 h hu hg n, clT_some, q4_int, q18_ag, bd_some_eq, bj_inl, cond_true, cond_false, Bool.and_true, Bool.and_false, Bool.true_and, Bool.false_and, eqZ_eq, leZ_eq, ltZ_eq, Int.reduceBEq, Int.reduceLE, Int.reduceLT, decide_true, decide_false, rt_some_eq, T0, T1, I0, I1, I10, I21, W1, W2, R0, R1, G0, G1]
    refine enc4_congr ?_ ?_ ?_ ?_ <;> simp only [oneM, TM.lens, lastM, foldM, Nat.blt, Nat.ble, cond_true, cond_false, J_bot, bot_J]
  · exact absurd hr (by decide)
theorem c23 (n : Nat) {p : Nat} (h1 : 1 ≤ p) (h14 : p ≤ 14) {k r x0 x1 x2 : Int} {m : TM (latT hg)} (hm : IsTy m r x0 x1 x2) (hr : okR1 p m.r = true) : cl (n + 11) 23 [.agg [d, e, .int .i64 ((bot (latT hg)).1 : Int)], .int .i64 (p : Int), ty5 k r x0 x1 x2] = some (enc4 (oneM p m)) :=
  match p, h1, h14, hr with
  | 1, _, _, hr => c23_1 h hu hg n hm hr
  | 2, _, _, hr => c23_2 h hu hg n hm hr
  | 3, _, _, hr => c23_3 h hu hg n hm hr
  | 4, _, _, hr => c23_4 h hu hg n hm hr
  | 5, _, _, hr => c23_5 h hu hg n hm hr
  | 6, _, _, hr => c23_6 h hu hg n hm hr
  | 7, _, _, hr => c23_7 h hu hg n hm hr
  | 8, _, _, hr => c23_8 h hu hg n hm hr
  | 9, _, _, hr => c23_9 h hu hg n hm hr
  | 10, _, _, hr => c23_10 h hu hg n hm hr
  | 11, _, _, hr => c23_11 h hu hg n hm hr
  | 12, _, _, hr => c23_12 h hu hg n hm hr
  | 13, _, _, hr => c23_13 h hu hg n hm hr
  | 14, _, _, hr => c23_14 h hu hg n hm hr
  | 0, h1, _, _ => by omega
  | q + 15, _, h14, _ => by omega
end
end Go.Proofs.YtblbgjfkbcdlfaaGreatDoor
