/- What the functions of this program come to: good types (ref19, ref20). -/
import Derived.Test.YtblbgjfkbcdlfaaGreatDoorLF
set_option linter.unusedVariables false
set_option linter.unusedSimpArgs false
set_option linter.unusedSectionVars false
set_option maxRecDepth 100000
namespace Go.Proofs.YtblbgjfkbcdlfaaGreatDoor
open Go Iv LatT

/-- A good type: all its cells are labels, those beyond the rank the bottom, axes at or below the data. -/
structure TyG {T : LatT} (m : TM T) (t : TyR) : Prop where
  is : IsTy m t.r t.x0 t.x1 t.x2
  k : isKi t.k = true
  x0 : t.x0 = (m.a0.1 : Int)
  x1 : t.x1 = (m.a1.1 : Int)
  l0 : LatT.le m.a0 m.d
  l1 : LatT.le m.a1 m.d

theorem TyG.lens {T : LatT} {m : TM T} {t : TyR} (h : TyG m t) : LatT.le m.lens m.d := by
  have := J_mono h.l0 h.l1
  rw [J_idem] at this; exact this
theorem TyG.r {T : LatT} {m : TM T} {t : TyR} (h : TyG m t) : isRi t.r = true := by
  have h2 := h.is.r2
  rw [h.is.r]
  have : m.r = 0 ∨ m.r = 1 ∨ m.r = 2 := by omega
  rcases this with h | h | h <;> rw [h] <;> rfl

theorem lab_of {ss : List (List UInt8)} {us : List Nat} (hg : Good ss us) {x : Int} (h : inL ss.length x = true) : ∃ a : Lab (latT hg), x = (a.1 : Int) := by
  have := inL_iff.1 h
  exact ⟨⟨x.toNat, by show x.toNat < ss.length; omega⟩, by show x = (x.toNat : Int); omega⟩

section
variable {ss : List (List UInt8)} {us : List Nat} {d e : D} (h : Strs ss d) (hu : U8s us e)
include h hu

theorem c35 (n : Nat) (x : Int) : cl (n + 1) 35 [.agg [d, e], .int .i64 x] = some (.bool (inL ss.length x)) := by
  refine in35 d e _ h.fz hu.fz rfl ?_
  unfold S35 inL
  cases leZ 0 x
  · rfl
  · simp only [cond_true, h.len, Bool.true_and]
theorem c66 (n : Nat) (x : Int) : cl (n + 1) 66 [.agg [d, e], .int .i64 x] = some (.bool (inL ss.length x)) := by
  refine in66 d e _ h.fz hu.fz rfl ?_
  unfold S66 inL
  cases leZ 0 x
  · rfl
  · simp only [cond_true, h.len, Bool.true_and]

/-- The two loops of ref19.Good. -/
theorem c13 (n : Nat) (hg : Good ss us) (t : TyR) : (∃ er : Int, cl (n + 7) 13 [.agg [d, e], ty5 t.k t.r t.x0 t.x1 t.x2] = some (.int .i64 er) ∧ er ≠ 0) ∨
    (cl (n + 7) 13 [.agg [d, e], ty5 t.k t.r t.x0 t.x1 t.x2] = some (.int .i64 0) ∧ ∃ m : TM (latT hg), TyG m t) := by
  obtain ⟨k, r, x0, x1, x2⟩ := t
  have hus : us.length = ss.length := hg.2.1
  have run : ∀ v : Int, S13 lpD (cl (n + 6)) d e k r x0 x1 x2 = some (.int .i64 v) → cl (n + 7) 13 [.agg [d, e], ty5 k r x0 x1 x2] = some (.int .i64 v) := fun v hv => in13 d e _ _ _ _ _ h.fz hu.fz rfl hv
  have hz : eqZ 0 0 = true := rfl
  have c27' := c27 (n + 2) h hu
  rw [chk_good hg] at c27'
  have bad7 : (isKi k = false ∨ isRi r = false ∨ inL ss.length x0 = false ∨ inL ss.length x1 = false ∨ inL ss.length x2 = false) → S13 lpD (cl (n + 6)) d e k r x0 x1 x2 = some (.int .i64 7) := fun hb => by
    unfold S13
    simp only [c27', clT_some, q7_e2, bd_some_eq, hz, Bool.not_true, cond_false, c35 h hu (n + 5), q0_bool]
    have hrr : isRi r = (!(ltZ r 0) && !(ltZ 2 r)) := by
      rw [Bool.eq_iff_iff]
      simp only [isRi, Bool.or_eq_true, eqZ_eq, beq_iff_eq, ltZ_eq, Bool.and_eq_true, Bool.not_eq_true', decide_eq_false_iff_not]
      omega
    simp only [isKi] at hb
    rw [hrr] at hb
    cases h1 : eqZ k 1 <;> cases h2 : eqZ k 2 <;> cases h3 : ltZ r 0 <;> cases h4 : ltZ 2 r <;> cases h5 : inL ss.length x0 <;> cases h6 : inL ss.length x1 <;> cases h7 : inL ss.length x2 <;> first | rfl | (exfalso; rw [h1, h2, h3, h4, h5, h6, h7] at hb; simp at hb)
  cases hk : isKi k
  · exact .inl ⟨7, run _ (bad7 (.inl hk)), by omega⟩
  cases hr : isRi r
  · exact .inl ⟨7, run _ (bad7 (.inr (.inl hr))), by omega⟩
  cases h0 : inL ss.length x0
  · exact .inl ⟨7, run _ (bad7 (.inr (.inr (.inl h0)))), by omega⟩
  cases h1 : inL ss.length x1
  · exact .inl ⟨7, run _ (bad7 (.inr (.inr (.inr (.inl h1))))), by omega⟩
  cases h2 : inL ss.length x2
  · exact .inl ⟨7, run _ (bad7 (.inr (.inr (.inr (.inr h2))))), by omega⟩
  obtain ⟨a0, rfl⟩ := lab_of hg h0
  obtain ⟨a1, rfl⟩ := lab_of hg h1
  obtain ⟨a2, rfl⟩ := lab_of hg h2
  have hrr : ltZ r 0 = false ∧ ltZ 2 r = false := by
    have := isRi_cases hr
    rw [ltZ_eq, ltZ_eq, decide_eq_false_iff_not, decide_eq_false_iff_not]; omega
  -- up to the loops
  have up : ∀ R : Option D, lpD.run (fun (((_, _, t7v17, t9v17, _), ((b1v17_0, b1v17_1, b1v17_2, b1v17_3, b1v17_4, _), (b0v17_0, b0v17_1, _), _)) : (Unit × Unit × Int × Int × Unit) × ((Int × Int × Int × Int × Int × Unit) × (D × D × Unit) × Unit)) =>
      bif (ltZ t9v17 2) then (
      bd (idxD 2 (.int .i64 t9v17)) fun v18 =>
      tkT q4 [(.int .i64 b1v17_0), (.int .i64 b1v17_1), (.int .i64 b1v17_2), (.int .i64 b1v17_3), (.int .i64 b1v17_4)] (2 + v18 * 1) none fun (v20 : Int) =>
      bif (!(eqZ v20 t7v17)) then (
      rt (
      some (.int .i64 6))) else (
      some (.inl (((), (), t7v17, (wrapD .i64 (t9v17 + 1)), ()), ((b1v17_0, b1v17_1, b1v17_2, b1v17_3, b1v17_4, ()), (b0v17_0, b0v17_1, ()), ()))))) else (
      rt (
      lpD.run (fun (((_, _, t10v21, _), ((b1v21_0, b1v21_1, b1v21_2, b1v21_3, b1v21_4, _), (b0v21_0, b0v21_1, _), _)) : (Unit × Unit × Int × Unit) × ((Int × Int × Int × Int × Int × Unit) × (D × D × Unit) × Unit)) =>
      bif (ltZ t10v21 b1v21_1) then (
      bd (idxD 2 (.int .i64 t10v21)) fun v22 =>
      tkT q4 [(.int .i64 b1v21_0), (.int .i64 b1v21_1), (.int .i64 b1v21_2), (.int .i64 b1v21_3), (.int .i64 b1v21_4)] (2 + v22 * 1) none fun (v24 : Int) =>
      clT q0 (cl (n + 6) 37 [(.agg [b0v21_0, b0v21_1]), (.int .i64 v24), (.int .i64 b1v21_4)]) fun (v26 : Bool) =>
      bif (!v26) then (
      rt (
      some (.int .i64 25))) else (
      some (.inl (((), (), (wrapD .i64 (t10v21 + 1)), ()), ((b1v21_0, b1v21_1, b1v21_2, b1v21_3, b1v21_4, ()), (b0v21_0, b0v21_1, ()), ()))))) else (
      rt (
      some (.int .i64 0)))) (((), (), (0 : Int), ()), ((b1v17_0, b1v17_1, b1v17_2, b1v17_3, b1v17_4, ()), (b0v17_0, b0v17_1, ()), ()))))) (((), (), ((bot (latT hg)).1 : Int), r, ()), ((k, r, (a0.1 : Int), (a1.1 : Int), (a2.1 : Int), ()), (d, e, ()), ())) = R → S13 lpD (cl (n + 6)) d e k r a0.1 a1.1 a2.1 = R := fun R hR => by
    unfold S13
    simp only [c27', clT_some, q7_e2, bd_some_eq, hz, Bool.not_true, cond_false, c35 h hu (n + 5), q0_bool, hrr.1, hrr.2, h0, h1, h2]
    simp only [isKi] at hk
    cases h1 : eqZ k 1
    · rw [h1, Bool.false_or] at hk
      simp only [hk, Bool.not_false, Bool.not_true, cond_true, cond_false, bj_inl, c36 h hu hg n, clT_some, q7_e2, bd_some_eq]
      exact hR
    · simp only [Bool.not_true, cond_false, bj_inl, c36 h hu hg n, clT_some, q7_e2, bd_some_eq]
      exact hR
  have l02 : ltZ 0 (2 : Int) = true := rfl
  have l12 : ltZ 1 (2 : Int) = true := rfl
  have l22 : ltZ 2 (2 : Int) = false := rfl
  have l00 : ltZ 0 (0 : Int) = false := rfl
  have l01 : ltZ 0 (1 : Int) = true := rfl
  have l11 : ltZ 1 (1 : Int) = false := rfl
  have hb : ∀ a b : Lab (latT hg), cl (n + 6) 37 [.agg [d, e], .int .i64 (a.1 : Int), .int .i64 (b.1 : Int)] = some (.bool ((uM us a.1).testBit b.1)) := fun a b => c37 (n + 5) h.fz hu (show a.1 < us.length by rw [hus]; exact a.2) b.1
  have lab_eq : ∀ a b : Lab (latT hg), eqZ (a.1 : Int) (b.1 : Int) = true → a = b := fun a b hx => by
    rw [eqZ_nat] at hx; exact Subtype.ext (Nat.eq_of_beq_eq_true hx)
  rcases isRi_cases hr with rfl | rfl | rfl
  · cases e0 : eqZ (a0.1 : Int) ((bot (latT hg)).1 : Int)
    · refine .inl ⟨6, run _ (up _ (loop_done ?_)), by omega⟩
      simp only [l02, cond_true, I0, bd_some_eq, T0, e0, Bool.not_false, rt_some_eq]
    · cases e1 : eqZ (a1.1 : Int) ((bot (latT hg)).1 : Int)
      · refine .inl ⟨6, run _ (up _ ((loop_step (w := (((), (), ((bot (latT hg)).1 : Int), (1 : Int), ()), ((k, (0 : Int), (a0.1 : Int), (a1.1 : Int), (a2.1 : Int), ()), (d, e, ()), ()))) ?_).trans (loop_done ?_))), by omega⟩
        · simp only [l02, cond_true, I0, bd_some_eq, T0, e0, Bool.not_true, cond_false, W1]
        · simp only [l12, cond_true, I1, bd_some_eq, T1, e1, Bool.not_false, rt_some_eq]
      · obtain rfl := lab_eq _ _ e0
        obtain rfl := lab_eq _ _ e1
        refine .inr ⟨run _ (up _ ((loop_step (w := (((), (), ((bot (latT hg)).1 : Int), (1 : Int), ()), ((k, (0 : Int), ((bot (latT hg)).1 : Int), ((bot (latT hg)).1 : Int), (a2.1 : Int), ()), (d, e, ()), ()))) ?_).trans ((loop_step (w := (((), (), ((bot (latT hg)).1 : Int), (2 : Int), ()), ((k, (0 : Int), ((bot (latT hg)).1 : Int), ((bot (latT hg)).1 : Int), (a2.1 : Int), ()), (d, e, ()), ()))) ?_).trans (loop_done ?_)))), ⟨0, bot _, bot _, a2⟩, ⟨by show 0 ≤ 2; omega, rfl, fun _ => rfl, fun _ => rfl, fun _ => rfl, fun _ => rfl, rfl⟩, hk, rfl, rfl, bot_le _, bot_le _⟩
        · simp only [l02, cond_true, I0, bd_some_eq, T0, e0, Bool.not_true, cond_false, W1]
        · simp only [l12, cond_true, I1, bd_some_eq, T1, e1, Bool.not_true, cond_false, W2]
        · simp only [l22, cond_false]
          refine congrArg (rt (α := _)) (loop_done (r := D.int .i64 0) ?_)
          simp only [l00, cond_false]; rfl
  · cases e1 : eqZ (a1.1 : Int) ((bot (latT hg)).1 : Int)
    · refine .inl ⟨6, run _ (up _ (loop_done ?_)), by omega⟩
      simp only [l12, cond_true, I1, bd_some_eq, T1, e1, Bool.not_false, rt_some_eq]
    · obtain rfl := lab_eq _ _ e1
      have stp : ∀ v : Int, (cl (n + 6) 37 [.agg [d, e], .int .i64 (a0.1 : Int), .int .i64 (a2.1 : Int)] = some (.bool ((uM us a0.1).testBit a2.1))) → (bif (uM us a0.1).testBit a2.1 then v = 0 else v = 25) → cl (n + 7) 13 [.agg [d, e], ty5 k 1 a0.1 (bot (latT hg)).1 a2.1] = some (.int .i64 v) := fun v h37 hv => by
        refine run _ (up _ ((loop_step (w := (((), (), ((bot (latT hg)).1 : Int), (2 : Int), ()), ((k, (1 : Int), (a0.1 : Int), ((bot (latT hg)).1 : Int), (a2.1 : Int), ()), (d, e, ()), ()))) ?_).trans (loop_done ?_)))
        · simp only [l12, cond_true, I1, bd_some_eq, T1, e1, Bool.not_true, cond_false, W2]
        · simp only [l22, cond_false]
          refine congrArg (rt (α := _)) (show _ = some (D.int .i64 v) from ?_)
          cases hbt : (uM us a0.1).testBit a2.1 <;> rw [hbt] at hv h37
          · have hv : v = 25 := hv
            subst hv
            refine loop_done ?_
            simp only [l01, cond_true, I0, bd_some_eq, T0, h37, clT_some, q0_bool, Bool.not_false]; rfl
          · have hv : v = 0 := hv
            subst hv
            refine (loop_step (w := (((), (), (1 : Int), ()), ((k, (1 : Int), (a0.1 : Int), ((bot (latT hg)).1 : Int), (a2.1 : Int), ()), (d, e, ()), ()))) ?_).trans (loop_done ?_)
            · simp only [l01, cond_true, I0, bd_some_eq, T0, h37, clT_some, q0_bool, Bool.not_true, cond_false, W1]
            · simp only [l11, cond_false]; rfl
      cases hbt : (uM us a0.1).testBit a2.1
      · exact .inl ⟨25, stp 25 (hb a0 a2) (by rw [hbt]; rfl), by omega⟩
      · exact .inr ⟨stp 0 (hb a0 a2) (by rw [hbt]; rfl), ⟨1, a0, bot _, a2⟩, ⟨by show 1 ≤ 2; omega, rfl, fun _ => rfl, fun hx => by simp at hx, fun _ => rfl, fun _ => rfl, rfl⟩, hk, rfl, rfl, hbt, bot_le _⟩
  · have stp : ∀ v : Int, (bif (uM us a0.1).testBit a2.1 then (bif (uM us a1.1).testBit a2.1 then v = 0 else v = 25) else v = 25) → cl (n + 7) 13 [.agg [d, e], ty5 k 2 a0.1 a1.1 a2.1] = some (.int .i64 v) := fun v hv => by
      refine run _ (up _ (loop_done ?_))
      simp only [l22, cond_false]
      refine congrArg (rt (α := _)) (show _ = some (D.int .i64 v) from ?_)
      have h37 := hb a0 a2
      have h37' := hb a1 a2
      cases hbt : (uM us a0.1).testBit a2.1 <;> rw [hbt] at hv h37
      · have hv : v = 25 := hv
        subst hv
        refine loop_done ?_
        simp only [l02, cond_true, I0, bd_some_eq, T0, h37, clT_some, q0_bool, Bool.not_false]; rfl
      · refine (loop_step (w := (((), (), (1 : Int), ()), ((k, (2 : Int), (a0.1 : Int), (a1.1 : Int), (a2.1 : Int), ()), (d, e, ()), ()))) ?_).trans ?_
        · simp only [l02, cond_true, I0, bd_some_eq, T0, h37, clT_some, q0_bool, Bool.not_true, cond_false, W1]
        · cases hbt' : (uM us a1.1).testBit a2.1 <;> rw [hbt'] at hv h37'
          · have hv : v = 25 := hv
            subst hv
            refine loop_done ?_
            simp only [l12, cond_true, I1, bd_some_eq, T1, h37', clT_some, q0_bool, Bool.not_false]; rfl
          · have hv : v = 0 := hv
            subst hv
            refine (loop_step (w := (((), (), (2 : Int), ()), ((k, (2 : Int), (a0.1 : Int), (a1.1 : Int), (a2.1 : Int), ()), (d, e, ()), ()))) ?_).trans (loop_done ?_)
            · simp only [l12, cond_true, I1, bd_some_eq, T1, h37', clT_some, q0_bool, Bool.not_true, cond_false, W2]
            · simp only [l22, cond_false]; rfl
    cases hbt : (uM us a0.1).testBit a2.1
    · exact .inl ⟨25, stp 25 (by rw [hbt]; rfl), by omega⟩
    · cases hbt' : (uM us a1.1).testBit a2.1
      · exact .inl ⟨25, stp 25 (by rw [hbt, hbt']; rfl), by omega⟩
      · exact .inr ⟨stp 0 (by rw [hbt, hbt']; rfl), ⟨2, a0, a1, a2⟩, ⟨by show 2 ≤ 2; omega, rfl, fun _ => rfl, fun hx => by simp at hx, fun _ => rfl, fun hx => by simp at hx, rfl⟩, hk, rfl, rfl, hbt, hbt'⟩

/-- Good of a lattice that is none. -/
theorem c13bad (n : Nat) (t : TyR) {x er : Int} (hc : CHK ss us = e2 x er) (he : eqZ er 0 = false) : cl (n + 7) 13 [.agg [d, e], ty5 t.k t.r t.x0 t.x1 t.x2] = some (.int .i64 er) := by
  refine in13 d e _ _ _ _ _ h.fz hu.fz rfl ?_
  unfold S13
  simp only [c27 (n + 2) h hu, hc, clT_some, q7_e2, bd_some_eq, he, Bool.not_false, cond_true]
end
end Go.Proofs.YtblbgjfkbcdlfaaGreatDoor
/- What the functions of this program come to: the reference's rules of types (ref20, ref21). -/
set_option linter.unusedVariables false
set_option linter.unusedSimpArgs false
set_option linter.unusedSectionVars false
set_option maxRecDepth 100000
namespace Go.Proofs.YtblbgjfkbcdlfaaGreatDoor
open Go Iv LatT

theorem ty_uniq {T : LatT} {m m' : TM T} {r x0 x1 x2 : Int} (h : IsTy m r x0 x1 x2) (h' : IsTy m' r x0 x1 x2) : m = m' := by
  obtain ⟨a, b, c, f⟩ := m
  obtain ⟨a', b', c', f'⟩ := m'
  obtain ⟨_, hr, h0, g0, h1, g1, h2⟩ := h
  obtain ⟨_, hr', h0', g0', h1', g1', h2'⟩ := h'
  simp only at hr h0 g0 h1 g1 h2 hr' h0' g0' h1' g1' h2'
  have e : a = a' := by omega
  subst e
  have e1 : b = b' := by
    by_cases hx : 1 ≤ a
    · exact Subtype.ext (by have := h0 hx; have := h0' hx; omega)
    · rw [g0 (by omega), g0' (by omega)]
  have e2 : c = c' := by
    by_cases hx : 2 ≤ a
    · exact Subtype.ext (by have := h1 hx; have := h1' hx; omega)
    · rw [g1 (by omega), g1' (by omega)]
  have e3 : f = f' := Subtype.ext (by omega)
  rw [e1, e2, e3]

section
variable {ss : List (List UInt8)} {us : List Nat} {d e : D} (h : Strs ss d) (hu : U8s us e) (hg : Good ss us)
include h hu hg

theorem uB {a : Lab (latT hg)} : a.1 < us.length := by rw [hg.2.1]; exact a.2

theorem c67 (n : Nat) : cl (n + 1) 67 [.agg [d, e]] = some (.int .i64 ((bot (latT hg)).1 : Int)) := by
  have hn := good_n hg
  have hus : us.length = ss.length := hg.2.1
  refine in67 d e h.fz hu.fz rfl ?_
  unfold S67
  have hx : ∀ c (hc : c < us.length), ((us[c] : Nat) : Int) = ((uM us c : Nat) : Int) := fun c hc => by unfold uM; rw [getD_lt hc]
  have hw : ∀ c, wrapD .i64 ((uM us c : Nat) : Int) = ((uM us c : Nat) : Int) := fun c => wrap_i64 (by omega) (by have := uM_lt hu c; omega)
  obtain ⟨v, hv1, hv2⟩ := all_i64 us.length (by omega) (by omega)
  have hall := u_bot_all hg
  have hb : (bot (latT hg)).1 < us.length := by rw [hus]; exact (bot (latT hg)).2
  refine loop_exit (st := fun i => (((), (i : Int), ()), ((d, e, ()), ()))) (m := (bot (latT hg)).1) (fun i hi => ?_) ?_
  · have hi' : i < us.length := by omega
    have hne : Nat.beq (uM us i) (2 ^ us.length - 1) = false := by
      rw [← Bool.not_eq_true, Nat.beq_eq]
      intro he
      have : (⟨i, show i < ss.length by omega⟩ : Lab (latT hg)) = bot (latT hg) := Lab.ext (by show uM us i = uM us (bot (latT hg)).1; rw [he, hall, hus])
      have := congrArg Subtype.val this
      simp only at this
      omega
    simp only [hu.len, ltZ_lt hi', cond_true, hu.ix hi', q13_int, bd_some_eq, hx, hw, hv1, hv2, eqZ_nat, hne, cond_false, inc_i64 (show i < 9223372036854775807 by omega)]
  · have he : Nat.beq (uM us (bot (latT hg)).1) (2 ^ us.length - 1) = true := by rw [hall, hus]; exact Nat.beq_refl _
    simp only [hu.len, ltZ_lt hb, cond_true, hu.ix hb, q13_int, bd_some_eq, hx, hw, hv1, hv2, eqZ_nat, he]; rfl

theorem c77 (n : Nat) (a b : Lab (latT hg)) : cl (n + 2) 77 [.agg [d, e], .int .i64 (a.1 : Int), .int .i64 (b.1 : Int)] = some (.int .i64 ((J a b).1 : Int)) := by
  have hus : us.length = ss.length := hg.2.1
  refine in77 d e _ _ h.fz hu.fz rfl ?_
  unfold S77
  have hx : ∀ c (hc : c < us.length), ((us[c] : Nat) : Int) = ((uM us c : Nat) : Int) := fun c hc => by unfold uM; rw [getD_lt hc]
  have ha : a.1 < us.length := by rw [hus]; exact a.2
  have hb : b.1 < us.length := by rw [hus]; exact b.2
  have hj : (J a b).1 < us.length := by rw [hus]; exact (J a b).2
  have hU : uM us (J a b).1 = uM us a.1 &&& uM us b.1 := u_J a b
  have h108 : cl (n + 1) 108 [.agg [d, e], .int .i64 (a.1 : Int), .int .i64 (b.1 : Int)] = some (.int .i64 ((J a b).1 : Int)) := by
    refine in108 d e _ _ h.fz hu.fz rfl ?_
    unfold S108
    refine loop_exit (st := fun i => (((a.1 : Int), (b.1 : Int), (), (i : Int), ()), ((d, e, ()), ()))) (m := (J a b).1) (fun i hi => ?_) ?_
    · have hi' : i < us.length := by omega
      have hne : Nat.beq (uM us i) (uM us a.1 &&& uM us b.1) = false := by
        rw [← Bool.not_eq_true, Nat.beq_eq]
        intro he
        have : (⟨i, show i < ss.length by omega⟩ : Lab (latT hg)) = J a b := Lab.ext (by show uM us i = uM us (J a b).1; rw [he, hU])
        have := congrArg Subtype.val this
        simp only at this
        omega
      simp only [hu.len, ltZ_lt hi', cond_true, hu.ix hi', hu.ix ha, hu.ix hb, q13_int, bd_some_eq, hx, andZ_u8 (uM_lt hu a.1) (uM_lt hu b.1), eqZ_nat, hne, cond_false, inc_i64 (show i < 9223372036854775807 by have := (good_n hg).2; omega)]
    · have he : Nat.beq (uM us (J a b).1) (uM us a.1 &&& uM us b.1) = true := by rw [hU]; exact Nat.beq_refl _
      simp only [hu.len, ltZ_lt hj, cond_true, hu.ix hj, hu.ix ha, hu.ix hb, q13_int, bd_some_eq, hx, andZ_u8 (uM_lt hu a.1) (uM_lt hu b.1), eqZ_nat, he]; rfl
  simp only [h108, clT_some, q4_int, bd_some_eq]

theorem c78 (n : Nat) (k r : Int) (a b c : Lab (latT hg)) : cl (n + 3) 78 [.agg [d, e], ty5 k r (a.1 : Int) (b.1 : Int) (c.1 : Int)] = some (.int .i64 ((J a b).1 : Int)) := by
  refine in78 d e _ _ _ _ _ h.fz hu.fz rfl ?_
  unfold S78
  simp only [c77 h hu hg n, clT_some, q4_int, bd_some_eq]

theorem c68 (n : Nat) (a b : Lab (latT hg)) : cl (n + 2) 68 [.agg [d, e], .int .i64 (a.1 : Int), .int .i64 (b.1 : Int)] = some (.bool ((uM us a.1).testBit b.1)) := by
  refine in68 d e _ _ h.fz hu.fz rfl ?_
  unfold S68
  have ha : a.1 < us.length := by rw [hg.2.1]; exact a.2
  simp only [c37 n h.fz hu ha, clT_some, q0_bool, bd_some_eq]

/-- ref20.Good of a good type. -/
theorem c38 (n : Nat) {m : TM (latT hg)} {t : TyR} (ht : TyG m t) : cl (n + 3) 38 [.agg [d, e], ty5 t.k t.r t.x0 t.x1 t.x2] = some (.int .i64 0) := by
  have hri := ht.r
  obtain ⟨k, r, x0, x1, x2⟩ := t
  obtain ⟨⟨h2, hr, hx0, hb0, hx1, hb1, hx2⟩, hk, e0, e1, l0, l1⟩ := ht
  simp only at hr hx0 hb0 hx1 hb1 hx2 hk e0 e1 hri
  subst e0 e1 hx2
  refine in38 d e _ _ _ _ _ h.fz hu.fz rfl ?_
  unfold S38
  have hrr : ltZ r 0 = false ∧ ltZ 2 r = false := by
    have := isRi_cases hri
    rw [ltZ_eq, ltZ_eq, decide_eq_false_iff_not, decide_eq_false_iff_not]; omega
  have l02 : ltZ 0 (2 : Int) = true := rfl
  have l12 : ltZ 1 (2 : Int) = true := rfl
  have l22 : ltZ 2 (2 : Int) = false := rfl
  have l00 : ltZ 0 (0 : Int) = false := rfl
  have l01 : ltZ 0 (1 : Int) = true := rfl
  have l11 : ltZ 1 (1 : Int) = false := rfl
  have h680 := c68 h hu hg n m.a0 m.d
  have h681 := c68 h hu hg n m.a1 m.d
  rw [show (uM us m.a0.1).testBit m.d.1 = true from l0] at h680
  rw [show (uM us m.a1.1).testBit m.d.1 = true from l1] at h681
  have h67 := c67 h hu hg (n + 1)
  have key : lpD.run (fun (((_, _, t5v8, _), ((b1v8_0, b1v8_1, b1v8_2, b1v8_3, b1v8_4, _), (b0v8_0, b0v8_1, _), _)) : (Unit × Unit × Int × Unit) × ((Int × Int × Int × Int × Int × Unit) × (D × D × Unit) × Unit)) =>
      bif (ltZ t5v8 2) then (
      bd (idxD 2 (.int .i64 t5v8)) fun v9 =>
      tkT q4 [(.int .i64 b1v8_0), (.int .i64 b1v8_1), (.int .i64 b1v8_2), (.int .i64 b1v8_3), (.int .i64 b1v8_4)] (2 + v9 * 1) none fun (v11 : Int) =>
      clT q4 (cl (n + 2) 67 [(.agg [b0v8_0, b0v8_1])]) fun (v13 : Int) =>
      bif (!(eqZ v11 v13)) then (
      rt (
      some (.int .i64 6))) else (
      some (.inl (((), (), (wrapD .i64 (t5v8 + 1)), ()), ((b1v8_0, b1v8_1, b1v8_2, b1v8_3, b1v8_4, ()), (b0v8_0, b0v8_1, ()), ()))))) else (
      rt (
      lpD.run (fun (((_, _, t6v14, _), ((b1v14_0, b1v14_1, b1v14_2, b1v14_3, b1v14_4, _), (b0v14_0, b0v14_1, _), _)) : (Unit × Unit × Int × Unit) × ((Int × Int × Int × Int × Int × Unit) × (D × D × Unit) × Unit)) =>
      bif (ltZ t6v14 b1v14_1) then (
      bd (idxD 2 (.int .i64 t6v14)) fun v15 =>
      tkT q4 [(.int .i64 b1v14_0), (.int .i64 b1v14_1), (.int .i64 b1v14_2), (.int .i64 b1v14_3), (.int .i64 b1v14_4)] (2 + v15 * 1) none fun (v17 : Int) =>
      clT q0 (cl (n + 2) 68 [(.agg [b0v14_0, b0v14_1]), (.int .i64 v17), (.int .i64 b1v14_4)]) fun (v19 : Bool) =>
      bif (!v19) then (
      rt (
      some (.int .i64 25))) else (
      some (.inl (((), (), (wrapD .i64 (t6v14 + 1)), ()), ((b1v14_0, b1v14_1, b1v14_2, b1v14_3, b1v14_4, ()), (b0v14_0, b0v14_1, ()), ()))))) else (
      rt (
      some (.int .i64 0)))) (((), (), (0 : Int), ()), ((b1v8_0, b1v8_1, b1v8_2, b1v8_3, b1v8_4, ()), (b0v8_0, b0v8_1, ()), ()))))) (((), (), r, ()), ((k, r, (m.a0.1 : Int), (m.a1.1 : Int), (m.d.1 : Int), ()), (d, e, ()), ())) = some (D.int .i64 0) := by
    rcases isRi_cases hri with rfl | rfl | rfl
    · have hb0 := hb0 (by omega)
      have hb1 := hb1 (by omega)
      refine (loop_step (w := (((), (), (1 : Int), ()), ((k, (0 : Int), (m.a0.1 : Int), (m.a1.1 : Int), (m.d.1 : Int), ()), (d, e, ()), ()))) ?_).trans ((loop_step (w := (((), (), (2 : Int), ()), ((k, (0 : Int), (m.a0.1 : Int), (m.a1.1 : Int), (m.d.1 : Int), ()), (d, e, ()), ()))) ?_).trans (loop_done ?_))
      · rw [hb0]; simp only [l02, cond_true, I0, bd_some_eq, T0, h67, clT_some, q4_int, eqZ_refl, Bool.not_true, cond_false, W1]
      · rw [hb1]; simp only [l12, cond_true, I1, bd_some_eq, T1, h67, clT_some, q4_int, eqZ_refl, Bool.not_true, cond_false, W2]
      · simp only [l22, cond_false]
        refine congrArg (rt (α := _)) (loop_done (r := D.int .i64 0) ?_)
        simp only [l00, cond_false]; rfl
    · have hb1 := hb1 (by omega)
      refine (loop_step (w := (((), (), (2 : Int), ()), ((k, (1 : Int), (m.a0.1 : Int), (m.a1.1 : Int), (m.d.1 : Int), ()), (d, e, ()), ()))) ?_).trans (loop_done ?_)
      · rw [hb1]; simp only [l12, cond_true, I1, bd_some_eq, T1, h67, clT_some, q4_int, eqZ_refl, Bool.not_true, cond_false, W2]
      · simp only [l22, cond_false]
        refine congrArg (rt (α := _)) ((loop_step (w := (((), (), (1 : Int), ()), ((k, (1 : Int), (m.a0.1 : Int), (m.a1.1 : Int), (m.d.1 : Int), ()), (d, e, ()), ()))) ?_).trans (loop_done (r := D.int .i64 0) ?_))
        · simp only [l01, cond_true, I0, bd_some_eq, T0, h680, clT_some, q0_bool, Bool.not_true, cond_false, W1]
        · simp only [l11, cond_false]; rfl
    · refine loop_done ?_
      simp only [l22, cond_false]
      refine congrArg (rt (α := _)) ((loop_step (w := (((), (), (1 : Int), ()), ((k, (2 : Int), (m.a0.1 : Int), (m.a1.1 : Int), (m.d.1 : Int), ()), (d, e, ()), ()))) ?_).trans ((loop_step (w := (((), (), (2 : Int), ()), ((k, (2 : Int), (m.a0.1 : Int), (m.a1.1 : Int), (m.d.1 : Int), ()), (d, e, ()), ()))) ?_).trans (loop_done (r := D.int .i64 0) ?_)))
      · simp only [l02, cond_true, I0, bd_some_eq, T0, h680, clT_some, q0_bool, Bool.not_true, cond_false, W1]
      · simp only [l12, cond_true, I1, bd_some_eq, T1, h681, clT_some, q0_bool, Bool.not_true, cond_false, W2]
      · simp only [l22, cond_false]; rfl
  simp only [isKi] at hk
  cases hk1 : eqZ k 1
  · rw [hk1, Bool.false_or] at hk
    simp only [hk1, hk, hrr.1, hrr.2, Bool.not_true, Bool.not_false, cond_true, cond_false, bj_inl, c66 h hu (n + 1), inL_lab, clT_some, q0_bool, bd_some_eq]
    exact key
  · simp only [hk1, hrr.1, hrr.2, Bool.not_true, cond_false, bj_inl, c66 h hu (n + 1), inL_lab, clT_some, q0_bool, bd_some_eq]
    exact key

end

/-- ref21.one -/
theorem c79 (n : Nat) (p : Int) (ls : List Int) (hlen : ls.length < 100) : cl (n + 1) 79 [.int .i64 p, .sl true ls.length (ls.map (D.int .i64))] = some (.bool (ls.any fun x => eqZ x p)) := by
  have hL := cells_is true ls
  refine in79 _ _ hL.fz rfl ?_
  unfold S79
  refine (loop_scan (st := fun i => ((p, D.sl true ls.length (ls.map (D.int .i64)), (i : Int), ()), ())) (p := fun i => bif eqZ (ls.getD i 0) p then some (D.bool true) else none) (z := D.bool false) (n := ls.length) (fun i hi _ => ?_) (fun _ => ?_)).trans ?_
  · simp only [hL.len, ltZ_lt hi, cond_true, hL.ix hi, q4_int, bd_some_eq, getD_lt hi, inc_i64 (show i < 9223372036854775807 by omega)]
    cases eqZ ls[i] p <;> rfl
  · simp only [hL.len, ltZ_ge (Nat.le_refl _), cond_false]; rfl
  · congr 1
    rcases scan_cases (fun i => bif eqZ (ls.getD i 0) p then some (D.bool true) else none) (D.bool false) ls.length 0 with ⟨h1, h2⟩ | ⟨m, r, h1, h2, h3, h4, h5⟩
    · rw [h2]
      congr 1
      symm
      rw [← Bool.not_eq_true, List.any_eq_true]
      rintro ⟨x, hm, hx⟩
      obtain ⟨i, hi, rfl⟩ := List.getElem_of_mem hm
      have := h1 i (by omega) (by omega)
      rw [getD_lt hi, hx] at this; cases this
    · rw [h5]
      have hm : m < ls.length := by omega
      rw [getD_lt hm] at h3
      cases hx : eqZ ls[m] p <;> rw [hx] at h3
      · cases h3
      · cases h3
        congr 1
        symm
        rw [List.any_eq_true]
        exact ⟨_, List.getElem_mem hm, hx⟩

theorem c79_1 (n : Nat) (p a : Int) : cl (n + 1) 79 [.int .i64 p, .sl true 1 [.int .i64 a]] = some (.bool (eqZ a p)) := (c79 n p [a] (by simp)).trans (by simp only [List.any_cons, List.any_nil, Bool.or_false])
theorem c79_2 (n : Nat) (p a b : Int) : cl (n + 1) 79 [.int .i64 p, .sl true 2 [.int .i64 a, .int .i64 b]] = some (.bool (eqZ a p || eqZ b p)) := (c79 n p [a, b] (by simp)).trans (by simp only [List.any_cons, List.any_nil, Bool.or_false])
theorem c79_3 (n : Nat) (p a b c : Int) : cl (n + 1) 79 [.int .i64 p, .sl true 3 [.int .i64 a, .int .i64 b, .int .i64 c]] = some (.bool (eqZ a p || (eqZ b p || eqZ c p))) := (c79 n p [a, b, c] (by simp)).trans (by simp only [List.any_cons, List.any_nil, Bool.or_false])
theorem c79_5 (n : Nat) (p a b c d e : Int) : cl (n + 1) 79 [.int .i64 p, .sl true 5 [.int .i64 a, .int .i64 b, .int .i64 c, .int .i64 d, .int .i64 e]] = some (.bool (eqZ a p || (eqZ b p || (eqZ c p || (eqZ d p || eqZ e p))))) := (c79 n p [a, b, c, d, e] (by simp)).trans (by simp only [List.any_cons, List.any_nil, Bool.or_false])
theorem c80 (n : Nat) (p : Int) : cl (n + 1) 80 [.int .i64 p] = some (.bool (leZ 15 p && leZ p 32)) := by
  refine in80 _ rfl ?_
  unfold S80
  cases leZ 15 p <;> rfl

/-- What ref21 says of labels: axes, data, error, cost. -/
noncomputable def labM {T : LatT} (p : Int) (m m' : TM T) : Lab T × Lab T × Lab T × Lab T × Lab T :=
  let data := J m.d m'.d
  let axes := J (J m.a0 m.a1) (J m'.a0 m'.a1)
  bif eqZ 1 p || (eqZ 2 p || eqZ 13 p) then (m.a0, m.a1, data, data, axes)
  else bif eqZ 4 p then (bot T, bot T, axes, bot T, axes)
  else bif eqZ 5 p then (axes, m.a1, data, bot T, axes)
  else bif eqZ 7 p then (m.a1, m.a0, data, bot T, axes)
  else bif eqZ 8 p then (data, m.a1, data, data, J axes data)
  else bif eqZ 9 p then (m.a0, m.a1, data, data, axes)
  else bif eqZ 10 p || eqZ 11 p then (m.a0, m.a1, data, axes, axes)
  else bif eqZ 12 p then (m.a0, m.a1, axes, bot T, axes)
  else bif eqZ 33 p || eqZ 34 p then (J m.d (J m'.a0 m'.a1), m.a1, data, bot T, axes)
  else bif eqZ 35 p then (m.d, m.a1, data, m.d, J axes m.d)
  else bif eqZ 36 p then (m.d, m.d, data, J m.d (J m'.a0 m'.a1), J axes m.d)
  else bif eqZ 37 p then (J m.a0 m'.a0, J m.a1 m'.a1, data, axes, axes)
  else bif eqZ 38 p then (m'.a0, m'.a1, data, J (J m.a0 m.a1) m'.d, axes)
  else bif eqZ 40 p then (J m.d (J m'.a0 m'.a1), m.a1, data, axes, axes)
  else bif leZ 15 p && leZ p 32 then
    ((ext J m m').1, (ext J m m').2, data, bif eqZ 15 p || (eqZ 16 p || (eqZ 17 p || (eqZ 18 p || eqZ 19 p))) then data else bif eqZ (m.r : Int) (m'.r : Int) then (bif ltZ 0 (m.r : Int) then axes else bot T) else bot T, axes)
  else (m.a0, m.a1, data, bot T, axes)
def enc5 {T : LatT} (x : Lab T × Lab T × Lab T × Lab T × Lab T) : D := .agg (R7 0 0 (x.1.1 : Int) (x.2.1.1 : Int) (x.2.2.1.1 : Int) (x.2.2.2.1.1 : Int) (x.2.2.2.2.1 : Int))
@[simp] theorem q10_enc5 {T : LatT} (x : Lab T × Lab T × Lab T × Lab T × Lab T) : q10 (enc5 x) = some (0, 0, (x.1.1 : Int), (x.2.1.1 : Int), (x.2.2.1.1 : Int), (x.2.2.2.1.1 : Int), (x.2.2.2.2.1 : Int), ()) := rfl

section
variable {ss : List (List UInt8)} {us : List Nat} {d e : D} (h : Strs ss d) (hu : U8s us e) (hg : Good ss us)
include h hu hg

theorem c81 (n : Nat) (k k' : Int) (m m' : TM (latT hg)) : cl (n + 3) 81 [.agg [d, e], ty5 k (m.r : Int) (m.a0.1 : Int) (m.a1.1 : Int) (m.d.1 : Int), ty5 k' (m'.r : Int) (m'.a0.1 : Int) (m'.a1.1 : Int) (m'.d.1 : Int)] = some (.agg [.int .i64 ((ext J m m').1.1 : Int), .int .i64 ((ext J m m').2.1 : Int)]) := by
  refine in81 d e _ _ _ _ _ _ _ _ _ _ h.fz hu.fz rfl ?_
  unfold S81 ext
  rw [ltZ_nat, ltZ_nat]
  simp only [c77 h hu hg n, clT_some, q4_int, bd_some_eq]
  cases Nat.blt m'.r m.r
  · cases Nat.blt m.r m'.r <;> rfl
  · rfl

theorem c69 (n : Nat) (p k k' : Int) (m m' : TM (latT hg)) :
    cl (n + 4) 69 [.agg [d, e], .int .i64 p, ty5 k (m.r : Int) (m.a0.1 : Int) (m.a1.1 : Int) (m.d.1 : Int), ty5 k' (m'.r : Int) (m'.a0.1 : Int) (m'.a1.1 : Int) (m'.d.1 : Int), .int .i64 ((bot (latT hg)).1 : Int)] = some (enc5 (labM p m m')) := by
  refine in69 d e _ _ _ _ _ _ _ _ _ _ _ _ h.fz hu.fz rfl ?_
  unfold S69 labM
  have h81 := c81 h hu hg n k k' m m'
  have h78 := c78 h hu hg n k (m.r : Int) m.a0 m.a1 m.d
  have h78' := c78 h hu hg n k' (m'.r : Int) m'.a0 m'.a1 m'.d
  simp only [ty5] at h81 h78 h78'
  simp only [c77 h hu hg (n + 1), h78, h78', h81, c79_1, c79_2, c79_3, c79_5, c80, clT_some, q4_int, q0_bool, q18_ag, bd_some_eq]
  cases eqZ 1 p || (eqZ 2 p || eqZ 13 p)
  · cases eqZ 4 p
    · cases eqZ 5 p
      · cases eqZ 7 p
        · cases eqZ 8 p
          · cases eqZ 9 p
            · cases eqZ 10 p || eqZ 11 p
              · cases eqZ 12 p
                · cases eqZ 33 p || eqZ 34 p
                  · cases eqZ 35 p
                    · cases eqZ 36 p
                      · cases eqZ 37 p
                        · cases eqZ 38 p
                          · cases eqZ 40 p
                            · cases leZ 15 p && leZ p 32
                              · rfl
                              · cases eqZ 15 p || (eqZ 16 p || (eqZ 17 p || (eqZ 18 p || eqZ 19 p)))
                                · cases eqZ (m.r : Int) (m'.r : Int)
                                  · rfl
                                  · cases ltZ 0 (m.r : Int) <;> rfl
                                · rfl
                            · rfl
                          · rfl
                        · rfl
                      · rfl
                    · rfl
                  · rfl
                · rfl
              · rfl
            · rfl
          · rfl
        · rfl
      · rfl
    · rfl
  · rfl
end
end Go.Proofs.YtblbgjfkbcdlfaaGreatDoor
