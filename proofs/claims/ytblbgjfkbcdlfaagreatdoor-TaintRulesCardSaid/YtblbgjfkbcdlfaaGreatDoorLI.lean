/- What the functions of this program come to: the reference's rules (ref21.Of, ref21.Rule). -/
import Derived.Test.YtblbgjfkbcdlfaaGreatDoorLH
set_option linter.unusedVariables false
set_option linter.unusedSimpArgs false
set_option linter.unusedSectionVars false
set_option maxRecDepth 100000
namespace Go.Proofs.YtblbgjfkbcdlfaaGreatDoor
open Go Iv LatT

/-- Operands that are good types. -/
def Goods {T : LatT} (ts : List TyR) (ms : List (TM T)) (m m' : TM T) : Prop :=
  (∃ t, ts = [t] ∧ ms = [m] ∧ TyG m t ∧ m' = noTy T) ∨ (∃ t t', ts = [t, t'] ∧ ms = [m, m'] ∧ TyG m t ∧ TyG m' t')

noncomputable def cut0 {T : LatT} (rank : Int) (L : Lab T × Lab T × Lab T × Lab T × Lab T) : Lab T := bif ltZ rank 1 then bot T else L.1
noncomputable def cut1 {T : LatT} (rank : Int) (L : Lab T × Lab T × Lab T × Lab T × Lab T) : Lab T := bif ltZ rank 2 then bot T else L.2.1
noncomputable def ofD {T : LatT} (kind rank : Int) (L : Lab T × Lab T × Lab T × Lab T × Lab T) : List D :=
  R7 kind rank ((cut0 rank L).1 : Int) ((cut1 rank L).1 : Int) (L.2.2.1.1 : Int) (L.2.2.2.1.1 : Int) (L.2.2.2.2.1 : Int)
theorem R7_s0 (k r a b c d e x : Int) : setQ (R7 k r a b c d e) (2 + 0 * 1) [.int .i64 x] = R7 k r x b c d e := rfl
theorem R7_s1 (k r a b c d e x : Int) : setQ (R7 k r a b c d e) (2 + 1 * 1) [.int .i64 x] = R7 k r a x c d e := rfl
theorem R7_n0 (k r a b c d e : Int) : inR (2 + 0 * 1) 1 (R7 k r a b c d e).length = some () := rfl
theorem R7_n1 (k r a b c d e : Int) : inR (2 + 1 * 1) 1 (R7 k r a b c d e).length = some () := rfl
@[simp] theorem q10_R7 (k r a b c d e : Int) : q10 (.agg (R7 k r a b c d e)) = some (k, r, a, b, c, d, e, ()) := rfl

section
variable {ss : List (List UInt8)} {us : List Nat} {d e : D} (h : Strs ss d) (hu : U8s us e) (hg : Good ss us)
include h hu hg

theorem c39 (n : Nat) {p : Int} {ts : List TyR} {a : D} (ha : Tys ts a) {ms : List (TM (latT hg))} {m m' : TM (latT hg)} (hG : Goods ts ms m m') (hf : (FIT p (Ks ts) (Rs ts)).2.2 = 0) :
    cl (n + 5) 39 [.agg [d, e], .int .i64 p, a] = some (.agg (ofD (FIT p (Ks ts) (Rs ts)).1 (FIT p (Ks ts) (Rs ts)).2.1 (labM p m m'))) := by
  have hlen : ts.length < 100 := by rcases hG with ⟨t, rfl, _⟩ | ⟨t, t', rfl, _⟩ <;> simp
  have hp : 0 < ts.length := by rcases hG with ⟨t, rfl, _⟩ | ⟨t, t', rfl, _⟩ <;> simp
  have hrk := fit_rank (show (Rs ts).length = (Ks ts).length by simp [Ks, Rs]) hf
  refine in39 d e p a h.fz hu.fz ha.fz rfl ?_
  unfold S39
  refine loop_fold (st := fun i => ((p, a, (), (), i, i, (i : Int), ()), ((Rs (ts.take i)).map (D.int .i64), (Ks (ts.take i)).map (D.int .i64), Z7, (d, e, ()), ()))) (n := ts.length) (fun i hi => ?_) ?_
  · have l1 : (Ks (ts.take i)).length = i := by simp [Ks]; omega
    have l2 : (Rs (ts.take i)).length = i := by simp [Rs]; omega
    obtain ⟨cs, e1, e2, e3⟩ := ha.el hi
    have g1 : ∀ {ρ : Type} (K : Int → Option ρ), tkT q4 cs (i * 5 + 0) none K = K ts[i].k := fun K => by simp only [tkT, takeAt, e2, bd_some_eq, q4_int]
    have g2 : ∀ {ρ : Type} (K : Int → Option ρ), tkT q4 cs (i * 5 + 1) none K = K ts[i].r := fun K => by simp only [tkT, takeAt, e3, bd_some_eq, q4_int]
    simp only [ha.len, ltZ_lt hi, cond_true, e1, bd_some_eq, g1, g2, apG_ok (show i < 100 by omega) l1, apG_ok (show i < 100 by omega) l2, inc_i64 (show i < 9223372036854775807 by omega)]
    simp only [Ks, Rs, map_take_succ (fun t : TyR => t.k) hi, map_take_succ (fun t : TyR => t.r) hi]
  · have f1 : frSl false 0 1 ts.length ((Ks ts).map (D.int .i64)) = some (slI (Ks ts)) := by have := frSl_sl (Ks ts); rwa [show (Ks ts).length = ts.length by simp [Ks]] at this
    have f2 : frSl false 0 1 ts.length ((Rs ts).map (D.int .i64)) = some (slI (Rs ts)) := by have := frSl_sl (Rs ts); rwa [show (Rs ts).length = ts.length by simp [Rs]] at this
    have h15 := c15 (n + 2) p (show (Rs ts).length = (Ks ts).length by simp [Ks, Rs]) (show (Ks ts).length < 100 by simp [Ks]; omega)
    simp only [ha.len, ltZ_ge (Nat.le_refl _), cond_false, List.take_length, f1, f2, bd_some_eq, h15, clT_some, q5_e3, c67 h hu hg (n + 3), q4_int, ha.ix0 hp]
    have tail : ∀ (L : Lab (latT hg) × Lab (latT hg) × Lab (latT hg) × Lab (latT hg) × Lab (latT hg)), lpD.run (fun (((_, t13v24, _, t17v24, _), (b12006v24, b1v24, _)) : (Unit × Int × Unit × Int × Unit) × (List D × List D × Unit)) =>
        bif (ltZ t17v24 2) then (
        bd (idxD 2 (.int .i64 t17v24)) fun v25 =>
        bd (inR (2 + v25 * 1) 1 (List.length b12006v24)) fun _ =>
        some (.inl (((), t13v24, (), (wrapD .i64 (t17v24 + 1)), ()), ((setQ b12006v24 (2 + v25 * 1) [(.int .i64 t13v24)]), b1v24, ())))) else (
        rt (
        tkT q10 b12006v24 0 (some 7) fun (v27 : (Int × Int × Int × Int × Int × Int × Int × Unit)) =>
        bd (inR 0 7 (List.length b1v24)) fun _ =>
        bd (takeAt (setQ b1v24 0 [(.int .i64 v27.1), (.int .i64 v27.2.1), (.int .i64 v27.2.2.1), (.int .i64 v27.2.2.2.1), (.int .i64 v27.2.2.2.2.1), (.int .i64 v27.2.2.2.2.2.1), (.int .i64 v27.2.2.2.2.2.2.1)]) 0 (some 7)) fun v28 =>
        some v28))) (((), ((bot (latT hg)).1 : Int), (), (FIT p (Ks ts) (Rs ts)).2.1, ()), (R7 (FIT p (Ks ts) (Rs ts)).1 (FIT p (Ks ts) (Rs ts)).2.1 (L.1.1 : Int) (L.2.1.1 : Int) (L.2.2.1.1 : Int) (L.2.2.2.1.1 : Int) (L.2.2.2.2.1 : Int), Z7, ())) = some (.agg (ofD (FIT p (Ks ts) (Rs ts)).1 (FIT p (Ks ts) (Rs ts)).2.1 L)) := by
      intro L
      generalize (FIT p (Ks ts) (Rs ts)).1 = k
      revert hrk
      generalize (FIT p (Ks ts) (Rs ts)).2.1 = rk
      intro hrk
      have l02 : ltZ 0 (2 : Int) = true := rfl
      have l12 : ltZ 1 (2 : Int) = true := rfl
      have l22 : ltZ 2 (2 : Int) = false := rfl
      rcases isRi_cases hrk with rfl | rfl | rfl
      · refine (loop_step (w := (((), ((bot (latT hg)).1 : Int), (), (1 : Int), ()), (R7 k 0 ((bot (latT hg)).1 : Int) (L.2.1.1 : Int) (L.2.2.1.1 : Int) (L.2.2.2.1.1 : Int) (L.2.2.2.2.1 : Int), Z7, ()))) ?_).trans ((loop_step (w := (((), ((bot (latT hg)).1 : Int), (), (2 : Int), ()), (R7 k 0 ((bot (latT hg)).1 : Int) ((bot (latT hg)).1 : Int) (L.2.2.1.1 : Int) (L.2.2.2.1.1 : Int) (L.2.2.2.2.1 : Int), Z7, ()))) ?_).trans (loop_done ?_))
        · simp only [l02, cond_true, I0, bd_some_eq, R7_n0, R7_s0, W1]
        · simp only [l12, cond_true, I1, bd_some_eq, R7_n1, R7_s1, W2]
        · simp only [l22, cond_false, R7_all, IZ7, bd_some_eq, R7_put]; rfl
      · refine (loop_step (w := (((), ((bot (latT hg)).1 : Int), (), (2 : Int), ()), (R7 k 1 (L.1.1 : Int) ((bot (latT hg)).1 : Int) (L.2.2.1.1 : Int) (L.2.2.2.1.1 : Int) (L.2.2.2.2.1 : Int), Z7, ()))) ?_).trans (loop_done ?_)
        · simp only [l12, cond_true, I1, bd_some_eq, R7_n1, R7_s1, W2]
        · simp only [l22, cond_false, R7_all, IZ7, bd_some_eq, R7_put]; rfl
      · refine loop_done ?_
        simp only [l22, cond_false, R7_all, IZ7, bd_some_eq, R7_put]; rfl
    rcases hG with ⟨t, rfl, rfl, hm, rfl⟩ | ⟨t, t', rfl, rfl, hm, hm'⟩
    · have hl1 : eqZ (([t].length : Nat) : Int) 2 = false := rfl
      have h69 := c69 h hu hg n p t.k 0 m (noTy (latT hg))
      simp only [ty5] at h69
      rw [← hm.is.r, ← hm.x0, ← hm.x1, ← hm.is.x2] at h69
      have h69 : cl (n + 4) 69 [.agg [d, e], .int .i64 p, .agg [.int .i64 t.k, .int .i64 t.r, .int .i64 t.x0, .int .i64 t.x1, .int .i64 t.x2], .agg [.int .i64 0, .int .i64 0, .int .i64 ((bot (latT hg)).1 : Int), .int .i64 ((bot (latT hg)).1 : Int), .int .i64 ((bot (latT hg)).1 : Int)], .int .i64 ((bot (latT hg)).1 : Int)] = _ := h69
      simp only [hl1, cond_false, bj_inl, List.getElem_cons_zero, h69, clT_some, q10_enc5, bd_some_eq]
      exact congrArg (rt (α := _)) (tail _)
    · have hl1 : eqZ (([t, t'].length : Nat) : Int) 2 = true := rfl
      have h69 := c69 h hu hg n p t.k t'.k m m'
      simp only [ty5] at h69
      rw [← hm.is.r, ← hm.x0, ← hm.x1, ← hm.is.x2, ← hm'.is.r, ← hm'.x0, ← hm'.x1, ← hm'.is.x2] at h69
      simp only [hl1, cond_true, bj_inl, ha.ix1 (show 1 < [t, t'].length by simp), List.getElem_cons_zero, List.getElem_cons_succ, h69, clT_some, q10_enc5, bd_some_eq]
      exact congrArg (rt (α := _)) (tail _)

omit hg in
theorem c14a (n : Nat) (p : Int) {ts : List TyR} {a : D} (ha : Tys ts a) (hlen : ts.length ≤ 2) {x er : Int} (hc : CHK ss us = e2 x er) (he : eqZ er 0 = false) : cl (n + 5) 14 [.agg [d, e], .int .i64 p, a] = some (badR er) := by
  refine in14 d e p a h.fz hu.fz ha.fz rfl ?_
  unfold S14
  have hl : ltZ 2 (ts.length : Int) = false := ltZ_ge (a := 2) hlen
  simp only [ha.len, hl, cond_false, c27 n h hu, hc, clT_some, q7_e2, bd_some_eq, he, Bool.not_false, cond_true]; rfl

/-- ref21.Rule of good types. -/
theorem c14 (n : Nat) {p : Int} {ts : List TyR} {a : D} (ha : Tys ts a) (hlen : ts.length ≤ 2) (hts : ∀ t ∈ ts, ∃ m : TM (latT hg), TyG m t) {r : D} (hr : r.dp = true)
    (hrest : ((FIT p (Ks ts) (Rs ts)).2.2 ≠ 0 → r = badR (FIT p (Ks ts) (Rs ts)).2.2) ∧ ((FIT p (Ks ts) (Rs ts)).2.2 = 0 → ∃ ms m m', Goods (T := latT hg) ts ms m m' ∧ r = .tup [.agg (ofD (FIT p (Ks ts) (Rs ts)).1 (FIT p (Ks ts) (Rs ts)).2.1 (labM p m m')), .int .i64 0])) :
    cl (n + 6) 14 [.agg [d, e], .int .i64 p, a] = some r := by
  refine in14 d e p a h.fz hu.fz ha.fz hr ?_
  unfold S14
  have hl : ltZ 2 (ts.length : Int) = false := ltZ_ge (a := 2) hlen
  have hz : eqZ 0 0 = true := rfl
  simp only [ha.len, hl, cond_false, c27 (n + 1) h hu, chk_good hg, clT_some, q7_e2, bd_some_eq, hz, Bool.not_true]
  refine loop_fold (st := fun i => ((p, a, (), (), i, i, (i : Int), ()), ((Rs (ts.take i)).map (D.int .i64), (Ks (ts.take i)).map (D.int .i64), Z7, (d, e, ()), ()))) (n := ts.length) (fun i hi => ?_) ?_
  · have l1 : (Ks (ts.take i)).length = i := by simp [Ks]; omega
    have l2 : (Rs (ts.take i)).length = i := by simp [Rs]; omega
    obtain ⟨cs, e1, e2, e3⟩ := ha.el hi
    obtain ⟨m, hm⟩ := hts ts[i] (List.getElem_mem hi)
    have h38 := c38 h hu hg (n + 2) hm
    simp only [ty5] at h38
    have g1 : ∀ {ρ : Type} (K : Int → Option ρ), tkT q4 cs (i * 5 + 0) none K = K ts[i].k := fun K => by simp only [tkT, takeAt, e2, bd_some_eq, q4_int]
    have g2 : ∀ {ρ : Type} (K : Int → Option ρ), tkT q4 cs (i * 5 + 1) none K = K ts[i].r := fun K => by simp only [tkT, takeAt, e3, bd_some_eq, q4_int]
    simp only [ha.len, ltZ_lt hi, cond_true, cond_false, ha.ix hi, h38, clT_some, q4_int, hz, Bool.not_true, e1, bd_some_eq, g1, g2, apG_ok (show i < 100 by omega) l1, apG_ok (show i < 100 by omega) l2, inc_i64 (show i < 9223372036854775807 by omega)]
    simp only [Ks, Rs, map_take_succ (fun t : TyR => t.k) hi, map_take_succ (fun t : TyR => t.r) hi]
  · have f1 : frSl false 0 1 ts.length ((Ks ts).map (D.int .i64)) = some (slI (Ks ts)) := by have := frSl_sl (Ks ts); rwa [show (Ks ts).length = ts.length by simp [Ks]] at this
    have f2 : frSl false 0 1 ts.length ((Rs ts).map (D.int .i64)) = some (slI (Rs ts)) := by have := frSl_sl (Rs ts); rwa [show (Rs ts).length = ts.length by simp [Rs]] at this
    have h15 := c15 (n + 3) p (show (Rs ts).length = (Ks ts).length by simp [Ks, Rs]) (show (Ks ts).length < 100 by simp [Ks]; omega)
    simp only [ha.len, ltZ_ge (Nat.le_refl _), cond_false, List.take_length, f1, f2, bd_some_eq, h15, clT_some, q5_e3]
    by_cases hf : (FIT p (Ks ts) (Rs ts)).2.2 = 0
    · obtain ⟨ms, m, m', hG, rfl⟩ := hrest.2 hf
      simp only [hf, hz, Bool.not_true, cond_false, c39 h hu hg n ha hG hf, clT_some, ofD, q10_R7, bd_some_eq, IZ7, R7_put]; rfl
    · have he : eqZ (FIT p (Ks ts) (Rs ts)).2.2 0 = false := by rw [eqZ_eq, beq_eq_false_iff_ne]; exact hf
      rw [hrest.1 hf]
      simp only [he, Bool.not_false, cond_true, bd_some_eq, IZ7, TZ7]; rfl
end
end Go.Proofs.YtblbgjfkbcdlfaaGreatDoor
/- What the functions of this program come to: TaintRules says true. -/
set_option linter.unusedVariables false
set_option linter.unusedSimpArgs false
set_option linter.unusedSectionVars false
set_option maxRecDepth 100000
namespace Go.Proofs.YtblbgjfkbcdlfaaGreatDoor
open Go Iv LatT

theorem kind_ok {q : Nat} (h1 : 1 ≤ q) (h2 : q ≤ 40) {ks rs : List Int} (hk : ks.length = ar q) (ha : ks.all isKi = true) : isKi (kindM q ks) = true := by
  have t : (List.range 40).all (fun q => (lists (ar (q + 1)) [1, 2]).all fun ks => isKi (kindM (q + 1) ks)) = true := by kernel_rfl
  have h := List.all_eq_true.1 t (q - 1) (List.mem_range.2 (by omega))
  rw [show q - 1 + 1 = q by omega] at h
  exact List.all_eq_true.1 h ks (ks_mem hk ha)

theorem fit_parts {q : Nat} {ks rs : List Int} (hf : (FIT (q : Int) ks rs).2.2 = 0) : (FIT (q : Int) ks rs).1 = kindM q ks ∧ (FIT (q : Int) ks rs).2.1 = rankM q rs ∧ isKi (FIT (q : Int) ks rs).1 = true := by
  obtain ⟨hp1, hp2, hlen, hka, hra, hfit⟩ := fit_len hf
  rw [Int.toNat_natCast] at hlen hfit
  have hk := kind_ok (rs := rs) (show 1 ≤ q by omega) (show q ≤ 40 by omega) hlen hka
  rw [hfit] at hf ⊢
  unfold fitM at hf ⊢
  cases h1 : kindsB q ks <;> rw [h1] at hf
  · cases hf
  · cases h2 : ltZ (rankM q rs) 0 <;> rw [h2] at hf
    · exact ⟨rfl, rfl, hk⟩
    · cases hf

/-- The rule is good, and at or below the reference's. -/
theorem rule_good {T : LatT} {q : Nat} {ts : List TyR} {ms : List (TM T)} {res : Lab T × Lab T × Lab T × Lab T} {m m' : TM T} (hF : Fits q ts ms res) (hG : Goods ts ms m m') : GoodRes (rankM q (Rs ts)) res (costM (q : Int) ms res) (labM (q : Int) m m') := by
  rcases hF with ⟨t, m0, rfl, rfl, hq1, hq14, hok, rfl⟩ | ⟨t, t', m0, m0', rfl, rfl, hq15, hq40, hok, rfl⟩
  · rcases hG with ⟨t0, e1, e2, hm, rfl⟩ | ⟨t0, t1, e1, _⟩
    · obtain rfl : t = t0 := by simpa using e1
      obtain rfl : m0 = m := by simpa using e2
      rw [show Rs [t] = [(m0.r : Int)] by rw [← hm.is.r]; rfl]
      have a1 := hm.is.r2
      have a2 := hm.is.b0
      have a3 := hm.is.b1
      match q, hq1, hq14, hok with
      | 1, _, _, hok => exact g1_1 a1 a2 a3 hm.l0 hm.l1 hok
      | 2, _, _, hok => exact g1_2 a1 a2 a3 hm.l0 hm.l1 hok
      | 3, _, _, hok => exact g1_3 a1 a2 a3 hm.l0 hm.l1 hok
      | 4, _, _, hok => exact g1_4 a1 a2 a3 hm.l0 hm.l1 hok
      | 5, _, _, hok => exact g1_5 a1 a2 a3 hm.l0 hm.l1 hok
      | 6, _, _, hok => exact g1_6 a1 a2 a3 hm.l0 hm.l1 hok
      | 7, _, _, hok => exact g1_7 a1 a2 a3 hm.l0 hm.l1 hok
      | 8, _, _, hok => exact g1_8 a1 a2 a3 hm.l0 hm.l1 hok
      | 9, _, _, hok => exact g1_9 a1 a2 a3 hm.l0 hm.l1 hok
      | 10, _, _, hok => exact g1_10 a1 a2 a3 hm.l0 hm.l1 hok
      | 11, _, _, hok => exact g1_11 a1 a2 a3 hm.l0 hm.l1 hok
      | 12, _, _, hok => exact g1_12 a1 a2 a3 hm.l0 hm.l1 hok
      | 13, _, _, hok => exact g1_13 a1 a2 a3 hm.l0 hm.l1 hok
      | 14, _, _, hok => exact g1_14 a1 a2 a3 hm.l0 hm.l1 hok
      | 0, h, _, _ => omega
      | q + 15, _, h, _ => omega
    · simp at e1
  · rcases hG with ⟨t0, e1, _⟩ | ⟨t0, t1, e1, e2, hm, hm'⟩
    · simp at e1
    · obtain ⟨rfl, rfl⟩ : t = t0 ∧ t' = t1 := by simpa using e1
      obtain ⟨rfl, rfl⟩ : m0 = m ∧ m0' = m' := by simpa using e2
      rw [show Rs [t, t'] = [(m0.r : Int), (m0'.r : Int)] by rw [← hm.is.r, ← hm'.is.r]; rfl]
      have a1 := hm.is.r2
      have a2 := hm.is.b0
      have a3 := hm.is.b1
      have b1 := hm'.is.r2
      have b2 := hm'.is.b0
      have b3 := hm'.is.b1
      match q, hq15, hq40, hok with
      | 0, h, _, _ => omega
      | 1, h, _, _ => omega
      | 2, h, _, _ => omega
      | 3, h, _, _ => omega
      | 4, h, _, _ => omega
      | 5, h, _, _ => omega
      | 6, h, _, _ => omega
      | 7, h, _, _ => omega
      | 8, h, _, _ => omega
      | 9, h, _, _ => omega
      | 10, h, _, _ => omega
      | 11, h, _, _ => omega
      | 12, h, _, _ => omega
      | 13, h, _, _ => omega
      | 14, h, _, _ => omega
      | 15, _, _, hok => exact g2_15 a1 a2 a3 hm.l0 hm.l1 b1 b2 b3 hm'.l0 hm'.l1 hok
      | 16, _, _, hok => exact g2_15 a1 a2 a3 hm.l0 hm.l1 b1 b2 b3 hm'.l0 hm'.l1 hok
      | 17, _, _, hok => exact g2_15 a1 a2 a3 hm.l0 hm.l1 b1 b2 b3 hm'.l0 hm'.l1 hok
      | 18, _, _, hok => exact g2_15 a1 a2 a3 hm.l0 hm.l1 b1 b2 b3 hm'.l0 hm'.l1 hok
      | 19, _, _, hok => exact g2_15 a1 a2 a3 hm.l0 hm.l1 b1 b2 b3 hm'.l0 hm'.l1 hok
      | 20, _, _, hok => exact g2_20 a1 a2 a3 hm.l0 hm.l1 b1 b2 b3 hm'.l0 hm'.l1 hok
      | 21, _, _, hok => exact g2_20 a1 a2 a3 hm.l0 hm.l1 b1 b2 b3 hm'.l0 hm'.l1 hok
      | 22, _, _, hok => exact g2_20 a1 a2 a3 hm.l0 hm.l1 b1 b2 b3 hm'.l0 hm'.l1 hok
      | 23, _, _, hok => exact g2_20 a1 a2 a3 hm.l0 hm.l1 b1 b2 b3 hm'.l0 hm'.l1 hok
      | 24, _, _, hok => exact g2_20 a1 a2 a3 hm.l0 hm.l1 b1 b2 b3 hm'.l0 hm'.l1 hok
      | 25, _, _, hok => exact g2_20 a1 a2 a3 hm.l0 hm.l1 b1 b2 b3 hm'.l0 hm'.l1 hok
      | 26, _, _, hok => exact g2_20 a1 a2 a3 hm.l0 hm.l1 b1 b2 b3 hm'.l0 hm'.l1 hok
      | 27, _, _, hok => exact g2_20 a1 a2 a3 hm.l0 hm.l1 b1 b2 b3 hm'.l0 hm'.l1 hok
      | 28, _, _, hok => exact g2_20 a1 a2 a3 hm.l0 hm.l1 b1 b2 b3 hm'.l0 hm'.l1 hok
      | 29, _, _, hok => exact g2_20 a1 a2 a3 hm.l0 hm.l1 b1 b2 b3 hm'.l0 hm'.l1 hok
      | 30, _, _, hok => exact g2_20 a1 a2 a3 hm.l0 hm.l1 b1 b2 b3 hm'.l0 hm'.l1 hok
      | 31, _, _, hok => exact g2_20 a1 a2 a3 hm.l0 hm.l1 b1 b2 b3 hm'.l0 hm'.l1 hok
      | 32, _, _, hok => exact g2_20 a1 a2 a3 hm.l0 hm.l1 b1 b2 b3 hm'.l0 hm'.l1 hok
      | 33, _, _, hok => exact g2_33 a1 a2 a3 hm.l0 hm.l1 b1 b2 b3 hm'.l0 hm'.l1 hok
      | 34, _, _, hok => exact g2_34 a1 a2 a3 hm.l0 hm.l1 b1 b2 b3 hm'.l0 hm'.l1 hok
      | 35, _, _, hok => exact g2_35 a1 a2 a3 hm.l0 hm.l1 b1 b2 b3 hm'.l0 hm'.l1 hok
      | 36, _, _, hok => exact g2_36 a1 a2 a3 hm.l0 hm.l1 b1 b2 b3 hm'.l0 hm'.l1 hok
      | 37, _, _, hok => exact g2_37 a1 a2 a3 hm.l0 hm.l1 b1 b2 b3 hm'.l0 hm'.l1 hok
      | 38, _, _, hok => exact g2_38 a1 a2 a3 hm.l0 hm.l1 b1 b2 b3 hm'.l0 hm'.l1 hok
      | 39, _, _, hok => exact g2_39 a1 a2 a3 hm.l0 hm.l1 b1 b2 b3 hm'.l0 hm'.l1 hok
      | 40, _, _, hok => exact g2_40 a1 a2 a3 hm.l0 hm.l1 b1 b2 b3 hm'.l0 hm'.l1 hok
      | q + 41, _, h, _ => omega

section
variable {ss : List (List UInt8)} {us : List Nat} {d e : D} (h : Strs ss d) (hu : U8s us e)
include h hu

/-- Good of a good type: it is one. -/
theorem c13z (n : Nat) (hg : Good ss us) {m : TM (latT hg)} {t : TyR} (ht : TyG m t) : cl (n + 7) 13 [.agg [d, e], ty5 t.k t.r t.x0 t.x1 t.x2] = some (.int .i64 0) := by
  have hri := ht.r
  obtain ⟨k, r, x0, x1, x2⟩ := t
  obtain ⟨⟨h2, hr, hx0, hb0, hx1, hb1, hx2⟩, hk, e0, e1, l0, l1⟩ := ht
  simp only at hr hx0 hb0 hx1 hb1 hx2 hk e0 e1 hri
  subst e0 e1 hx2
  refine in13 d e _ _ _ _ _ h.fz hu.fz rfl ?_
  unfold S13
  have hz : eqZ 0 0 = true := rfl
  have hrr : ltZ r 0 = false ∧ ltZ 2 r = false := by
    have := isRi_cases hri
    rw [ltZ_eq, ltZ_eq, decide_eq_false_iff_not, decide_eq_false_iff_not]; omega
  have l02 : ltZ 0 (2 : Int) = true := rfl
  have l12 : ltZ 1 (2 : Int) = true := rfl
  have l22 : ltZ 2 (2 : Int) = false := rfl
  have l00 : ltZ 0 (0 : Int) = false := rfl
  have l01 : ltZ 0 (1 : Int) = true := rfl
  have l11 : ltZ 1 (1 : Int) = false := rfl
  have ha : m.a0.1 < us.length := by rw [hg.2.1]; exact m.a0.2
  have hb : m.a1.1 < us.length := by rw [hg.2.1]; exact m.a1.2
  have h370 := c37 (n + 5) h.fz hu ha m.d.1
  have h371 := c37 (n + 5) h.fz hu hb m.d.1
  rw [show (uM us m.a0.1).testBit m.d.1 = true from l0] at h370
  rw [show (uM us m.a1.1).testBit m.d.1 = true from l1] at h371
  have key : lpD.run (fun (((_, _, t7v17, t9v17, _), ((b1v17_0, b1v17_1, b1v17_2, b1v17_3, b1v17_4, _), (b0v17_0, b0v17_1, _), _)) : (Unit × Unit × Int × Int × Unit) × ((Int × Int × Int × Int × Int × Unit) × (D × D × Unit) × Unit)) =>
      bif (ltZ t9v17 2) then (
      bd (idxD 2 (.int .i64 t9v17)) fun v18 =>
      tkT q4 [(.int .i64 b1v17_0), (.int .i64 b1v17_1), (.int .i64 b1v17_2), (.int .i64 b1v17_3), (.int .i64 b1v17_4)] (2 + v18 * 1) none fun (v20 : Int) =>
      bif (!(eqZ v20 t7v17)) then (
      rt (
      some (.int .i64 6))) else (
      some (.inl (((), (), t7v17, (wrapD .i64 (t9v17 + 1)), ()), ((b1v17_0, b1v17_1, b1v17_2, b1v17_3, b1v17_4, ()), (b0v17_0, b0v17_1, ()), ()))))) else (
      rt (
      lpD.run (fun (((_, _, t10v21, _), ((b1v21_0, b1v21_1, b1v21_2, b1v21_3, b1v21_4, _), (b0v21_0, b0v21_1, _), _)) : (Unit × Unit × Int × Unit) × ((Int × Int × Int × Int × Int × Unit) × (D × D × Unit) × Unit)) =>
      bif (ltZ t10v21 b1v21_1) then (
      bd (idxD 2 (.int .i64 t10v21)) fun v22 =>
      tkT q4 [(.int .i64 b1v21_0), (.int .i64 b1v21_1), (.int .i64 b1v21_2), (.int .i64 b1v21_3), (.int .i64 b1v21_4)] (2 + v22 * 1) none fun (v24 : Int) =>
      clT q0 (cl (n + 6) 37 [(.agg [b0v21_0, b0v21_1]), (.int .i64 v24), (.int .i64 b1v21_4)]) fun (v26 : Bool) =>
      bif (!v26) then (
      rt (
      some (.int .i64 25))) else (
      some (.inl (((), (), (wrapD .i64 (t10v21 + 1)), ()), ((b1v21_0, b1v21_1, b1v21_2, b1v21_3, b1v21_4, ()), (b0v21_0, b0v21_1, ()), ()))))) else (
      rt (
      some (.int .i64 0)))) (((), (), (0 : Int), ()), ((b1v17_0, b1v17_1, b1v17_2, b1v17_3, b1v17_4, ()), (b0v17_0, b0v17_1, ()), ()))))) (((), (), ((bot (latT hg)).1 : Int), r, ()), ((k, r, (m.a0.1 : Int), (m.a1.1 : Int), (m.d.1 : Int), ()), (d, e, ()), ())) = some (D.int .i64 0) := by
    rcases isRi_cases hri with rfl | rfl | rfl
    · have hb0 := hb0 (by omega)
      have hb1 := hb1 (by omega)
      refine (loop_step (w := (((), (), ((bot (latT hg)).1 : Int), (1 : Int), ()), ((k, (0 : Int), (m.a0.1 : Int), (m.a1.1 : Int), (m.d.1 : Int), ()), (d, e, ()), ()))) ?_).trans ((loop_step (w := (((), (), ((bot (latT hg)).1 : Int), (2 : Int), ()), ((k, (0 : Int), (m.a0.1 : Int), (m.a1.1 : Int), (m.d.1 : Int), ()), (d, e, ()), ()))) ?_).trans (loop_done ?_))
      · rw [hb0]; simp only [l02, cond_true, I0, bd_some_eq, T0, eqZ_refl, Bool.not_true, cond_false, W1]
      · rw [hb1]; simp only [l12, cond_true, I1, bd_some_eq, T1, eqZ_refl, Bool.not_true, cond_false, W2]
      · simp only [l22, cond_false]
        refine congrArg (rt (α := _)) (loop_done (r := D.int .i64 0) ?_)
        simp only [l00, cond_false]; rfl
    · have hb1 := hb1 (by omega)
      refine (loop_step (w := (((), (), ((bot (latT hg)).1 : Int), (2 : Int), ()), ((k, (1 : Int), (m.a0.1 : Int), (m.a1.1 : Int), (m.d.1 : Int), ()), (d, e, ()), ()))) ?_).trans (loop_done ?_)
      · rw [hb1]; simp only [l12, cond_true, I1, bd_some_eq, T1, eqZ_refl, Bool.not_true, cond_false, W2]
      · simp only [l22, cond_false]
        refine congrArg (rt (α := _)) ((loop_step (w := (((), (), (1 : Int), ()), ((k, (1 : Int), (m.a0.1 : Int), (m.a1.1 : Int), (m.d.1 : Int), ()), (d, e, ()), ()))) ?_).trans (loop_done (r := D.int .i64 0) ?_))
        · simp only [l01, cond_true, I0, bd_some_eq, T0, h370, clT_some, q0_bool, Bool.not_true, cond_false, W1]
        · simp only [l11, cond_false]; rfl
    · refine loop_done ?_
      simp only [l22, cond_false]
      refine congrArg (rt (α := _)) ((loop_step (w := (((), (), (1 : Int), ()), ((k, (2 : Int), (m.a0.1 : Int), (m.a1.1 : Int), (m.d.1 : Int), ()), (d, e, ()), ()))) ?_).trans ((loop_step (w := (((), (), (2 : Int), ()), ((k, (2 : Int), (m.a0.1 : Int), (m.a1.1 : Int), (m.d.1 : Int), ()), (d, e, ()), ()))) ?_).trans (loop_done (r := D.int .i64 0) ?_)))
      · simp only [l02, cond_true, I0, bd_some_eq, T0, h370, clT_some, q0_bool, Bool.not_true, cond_false, W1]
      · simp only [l12, cond_true, I1, bd_some_eq, T1, h371, clT_some, q0_bool, Bool.not_true, cond_false, W2]
      · simp only [l22, cond_false]; rfl
  have c27' := c27 (n + 2) h hu
  rw [chk_good hg] at c27'
  simp only [c27', clT_some, q7_e2, bd_some_eq, hz, Bool.not_true, cond_false, c35 h hu (n + 5), inL_lab, q0_bool, hrr.1, hrr.2]
  simp only [isKi] at hk
  cases hk1 : eqZ k 1
  · rw [hk1, Bool.false_or] at hk
    simp only [hk, Bool.not_true, Bool.not_false, cond_true, cond_false, bj_inl, c36 h hu hg n, clT_some, q7_e2, bd_some_eq]
    exact key
  · simp only [Bool.not_true, cond_false, bj_inl, c36 h hu hg n, clT_some, q7_e2, bd_some_eq]
    exact key

/-- What Good says, as a number. -/
noncomputable def g13 (n : Nat) (d e : D) (t : TyR) : Int := match cl n 13 [.agg [d, e], ty5 t.k t.r t.x0 t.x1 t.x2] with
  | some (.int _ v) => v
  | _ => 0

theorem R7_0 (k r a b c d e : Int) {ρ : Type} (K : Int → Option ρ) : tkT q4 (R7 k r a b c d e) 0 none K = K k := rfl
theorem R7_1 (k r a b c d e : Int) {ρ : Type} (K : Int → Option ρ) : tkT q4 (R7 k r a b c d e) 1 none K = K r := rfl
theorem R7_5 (k r a b c d e : Int) {ρ : Type} (K : Int → Option ρ) : tkT q4 (R7 k r a b c d e) 5 none K = K d := rfl

theorem c5 (n : Nat) (p : Int) {ts : List TyR} {a : D} (ha : Tys ts a) : cl (n + 13) 5 [.agg [d, e], .int .i64 p, a] = some (.bool true) := by
  refine in5 d e p a h.fz hu.fz ha.fz rfl ?_
  unfold S5
  have h7 : cl (n + 12) 7 [] = some (.bool true) := evK_kn kn7
  have hz : eqZ 0 0 = true := rfl
  simp only [c6 h hu (n + 10), h7, clT_some, q0_bool, bd_some_eq, ha.len]
  cases farB ss us
  · simp only [cond_false]
    cases h2 : ltZ 2 (ts.length : Int)
    · have hlen : ts.length ≤ 2 := by rw [ltZ_eq, decide_eq_false_iff_not] at h2; omega
      have hlen' : ts.length < 100 := by omega
      simp only [cond_false, bj_inl]
      have f1 : frSl false 0 1 ts.length ((Ks ts).map (D.int .i64)) = some (slI (Ks ts)) := by have := frSl_sl (Ks ts); rwa [show (Ks ts).length = ts.length by simp [Ks]] at this
      have f2 : frSl false 0 1 ts.length ((Rs ts).map (D.int .i64)) = some (slI (Rs ts)) := by have := frSl_sl (Rs ts); rwa [show (Rs ts).length = ts.length by simp [Rs]] at this
      have h15 := c15 (n + 10) p (show (Rs ts).length = (Ks ts).length by simp [Ks, Rs]) (show (Ks ts).length < 100 by simp [Ks]; omega)
      -- one round with a good type
      have round : ∀ i (hi : i < ts.length), cl (n + 12) 13 [.agg [d, e], ty5 ts[i].k ts[i].r ts[i].x0 ts[i].x1 ts[i].x2] = some (.int .i64 0) →
          ∃ cs, elF 5 a (.int .i64 (i : Int)) = some (cs, i * 5) ∧ (∀ {ρ : Type} (K : Int → Option ρ), tkT q4 cs (i * 5 + 0) none K = K ts[i].k) ∧ (∀ {ρ : Type} (K : Int → Option ρ), tkT q4 cs (i * 5 + 1) none K = K ts[i].r) := fun i hi _ => by
        obtain ⟨cs, e1, e2, e3⟩ := ha.el hi
        exact ⟨cs, e1, fun K => by simp only [tkT, takeAt, e2, bd_some_eq, q4_int], fun K => by simp only [tkT, takeAt, e3, bd_some_eq, q4_int]⟩
      rcases CHK_cases ss us with ⟨hg, _⟩ | ⟨x, er, hc, he⟩
      · have hall : ∀ t : TyR, cl (n + 12) 13 [.agg [d, e], ty5 t.k t.r t.x0 t.x1 t.x2] = some (.int .i64 (g13 (n + 12) d e t)) ∧ (g13 (n + 12) d e t = 0 → ∃ m : TM (latT hg), TyG m t) := fun t => by
          rcases c13 h hu (n + 5) hg t with ⟨er, h1, h2⟩ | ⟨h1, h2⟩
          · have : g13 (n + 12) d e t = er := by unfold g13; rw [h1]
            rw [this]; exact ⟨h1, fun hx => (h2 hx).elim⟩
          · have : g13 (n + 12) d e t = 0 := by unfold g13; rw [h1]
            rw [this]; exact ⟨h1, fun _ => h2⟩
        cases hb : ts.all fun t => eqZ (g13 (n + 12) d e t) 0
        · obtain ⟨m, hm, h1, h2⟩ := first_badT hb
          refine loop_exit (st := fun i => ((p, a, (), i, i, (i : Int), ()), ((Rs (ts.take i)).map (D.int .i64), (Ks (ts.take i)).map (D.int .i64), (d, e, ()), ()))) (m := m) (fun i hi => ?_) ?_
          · have hi' : i < ts.length := by omega
            have l1 : (Ks (ts.take i)).length = i := by simp [Ks]; omega
            have l2 : (Rs (ts.take i)).length = i := by simp [Rs]; omega
            have h13 := (hall ts[i]).1
            rw [show g13 (n + 12) d e ts[i] = 0 by have := h2 i hi; rw [eqZ_eq, beq_iff_eq] at this; exact this] at h13
            obtain ⟨cs, e1, e2, e3⟩ := round i hi' h13
            simp only [ty5] at h13
            simp only [ha.len, ltZ_lt hi', cond_true, cond_false, ha.ix hi', h13, clT_some, q4_int, hz, Bool.not_true, e1, e2, e3, bd_some_eq, apG_ok (show i < 100 by omega) l1, apG_ok (show i < 100 by omega) l2, inc_i64 (show i < 9223372036854775807 by omega)]
            simp only [Ks, Rs, map_take_succ (fun t : TyR => t.k) hi', map_take_succ (fun t : TyR => t.r) hi']
          · have h13 := (hall ts[m]).1
            simp only [ty5] at h13
            simp only [ha.len, ltZ_lt hm, cond_true, ha.ix hm, h13, clT_some, q4_int, bd_some_eq, h1, Bool.not_false, h7, q0_bool, rt_some_eq]
        · have hgood : ∀ t ∈ ts, ∃ m : TM (latT hg), TyG m t := fun t ht => (hall t).2 (by have := List.all_eq_true.1 hb t ht; rw [eqZ_eq, beq_iff_eq] at this; exact this)
          have hz13 : ∀ i (hi : i < ts.length), cl (n + 12) 13 [.agg [d, e], ty5 ts[i].k ts[i].r ts[i].x0 ts[i].x1 ts[i].x2] = some (.int .i64 0) := fun i hi => by
            obtain ⟨m, hm⟩ := hgood ts[i] (List.getElem_mem hi)
            exact c13z h hu (n + 5) hg hm
          refine loop_fold (st := fun i => ((p, a, (), i, i, (i : Int), ()), ((Rs (ts.take i)).map (D.int .i64), (Ks (ts.take i)).map (D.int .i64), (d, e, ()), ()))) (n := ts.length) (fun i hi => ?_) ?_
          · have l1 : (Ks (ts.take i)).length = i := by simp [Ks]; omega
            have l2 : (Rs (ts.take i)).length = i := by simp [Rs]; omega
            have h13 := hz13 i hi
            obtain ⟨cs, e1, e2, e3⟩ := round i hi h13
            simp only [ty5] at h13
            simp only [ha.len, ltZ_lt hi, cond_true, cond_false, ha.ix hi, h13, clT_some, q4_int, hz, Bool.not_true, e1, e2, e3, bd_some_eq, apG_ok (show i < 100 by omega) l1, apG_ok (show i < 100 by omega) l2, inc_i64 (show i < 9223372036854775807 by omega)]
            simp only [Ks, Rs, map_take_succ (fun t : TyR => t.k) hi, map_take_succ (fun t : TyR => t.r) hi]
          · have hkn : ts.all (knT ss.length) = true := by
              rw [List.all_eq_true]; intro t ht
              obtain ⟨m, hm⟩ := hgood t ht
              exact known_of hm.is
            by_cases hf : (FIT p (Ks ts) (Rs ts)).2.2 = 0
            · obtain ⟨q, ms, res, hml, rfl, hF, hty, hbig⟩ := fit_data h hu hg hf hkn
              have h8 := p8d h hu hg n ha hf hkn hF hml hty hbig
              obtain ⟨m, m', hG⟩ : ∃ m m', Goods (T := latT hg) ts ms m m' := by
                rcases hF with ⟨t, m0, rfl, rfl, _⟩ | ⟨t, t', m0, m0', rfl, rfl, _⟩
                · obtain ⟨m, hm⟩ := hgood t (by simp)
                  have := ty_uniq hm.is (hty 0 (by simp))
                  exact ⟨_, _, .inl ⟨t, rfl, rfl, by rw [← show m = m0 from this]; exact hm, rfl⟩⟩
                · obtain ⟨m, hm⟩ := hgood t (by simp)
                  obtain ⟨m', hm'⟩ := hgood t' (by simp)
                  have e1 := ty_uniq hm.is (hty 0 (by simp))
                  have e2 := ty_uniq hm'.is (hty 1 (by simp))
                  exact ⟨_, _, .inr ⟨t, t', rfl, rfl, by rw [← show m = m0 from e1]; exact hm, by rw [← show m' = m0' from e2]; exact hm'⟩⟩
              have h14 := c14 h hu hg (n + 6) (p := (q : Int)) ha hlen hgood (r := .tup [.agg (ofD (FIT (q : Int) (Ks ts) (Rs ts)).1 (FIT (q : Int) (Ks ts) (Rs ts)).2.1 (labM (q : Int) m m')), .int .i64 0]) rfl ⟨fun hx => (hx hf).elim, fun _ => ⟨ms, m, m', hG, rfl⟩⟩
              obtain ⟨g1, g2, g3⟩ := fit_parts hf
              obtain ⟨r1, r2, r3, r4, r5, r6, r7, r8, r9⟩ := rule_good hF hG
              have hrk := fit_rank (show (Rs ts).length = (Ks ts).length by simp [Ks, Rs]) hf
              rw [← g2] at r1 r2 r5 r6
              have hpos : ts.length ≠ 0 := by rcases hF with ⟨t, m0, rfl, _⟩ | ⟨t, t', m0, m0', rfl, _⟩ <;> simp
              have hl0 : eqZ (ts.length : Int) 0 = false := by rw [eqZ_eq, beq_eq_false_iff_ne]; omega
              -- the result is a good type
              have hres : TyG (T := latT hg) ⟨(FIT (q : Int) (Ks ts) (Rs ts)).2.1.toNat, res.1, res.2.1, res.2.2.1⟩ ⟨(FIT (q : Int) (Ks ts) (Rs ts)).1, (FIT (q : Int) (Ks ts) (Rs ts)).2.1, (res.1.1 : Int), (res.2.1.1 : Int), (res.2.2.1.1 : Int)⟩ := by
                have hc := isRi_cases hrk
                refine ⟨⟨by show (FIT (q : Int) (Ks ts) (Rs ts)).2.1.toNat ≤ 2; omega, by show (FIT (q : Int) (Ks ts) (Rs ts)).2.1 = ((FIT (q : Int) (Ks ts) (Rs ts)).2.1.toNat : Int); omega, fun _ => rfl, fun hx => r1 ?_, fun _ => rfl, fun hx => r2 ?_, rfl⟩, g3, rfl, rfl, r3, r4⟩
                · have hx : (FIT (q : Int) (Ks ts) (Rs ts)).2.1.toNat < 1 := hx
                  rw [ltZ_eq, decide_eq_true_eq]; omega
                · have hx : (FIT (q : Int) (Ks ts) (Rs ts)).2.1.toNat < 2 := hx
                  rw [ltZ_eq, decide_eq_true_eq]; omega
              have h13 := c13z h hu (n + 5) hg hres
              have s0 : LatT.le res.1 (cut0 (FIT (q : Int) (Ks ts) (Rs ts)).2.1 (labM (q : Int) m m')) := by
                unfold cut0
                cases hx : ltZ (FIT (q : Int) (Ks ts) (Rs ts)).2.1 1
                · exact r5 hx
                · rw [r1 hx]; exact LatT.le_refl _
              have s1 : LatT.le res.2.1 (cut1 (FIT (q : Int) (Ks ts) (Rs ts)).2.1 (labM (q : Int) m m')) := by
                unfold cut1
                cases hx : ltZ (FIT (q : Int) (Ks ts) (Rs ts)).2.1 2
                · exact r6 hx
                · rw [r2 hx]; exact LatT.le_refl _
              have h11 := c11 h hu hg (n + 4) (FIT (q : Int) (Ks ts) (Rs ts)).1 (FIT (q : Int) (Ks ts) (Rs ts)).1 (FIT (q : Int) (Ks ts) (Rs ts)).2.1 hrk s0 s1 r7
              simp only [ty5] at h13 h11
              have q1o : q1 (.tup [.agg (ofD (FIT (q : Int) (Ks ts) (Rs ts)).1 (FIT (q : Int) (Ks ts) (Rs ts)).2.1 (labM (q : Int) m m')), .int .i64 0]) = some (((FIT (q : Int) (Ks ts) (Rs ts)).1, (FIT (q : Int) (Ks ts) (Rs ts)).2.1, ((cut0 (FIT (q : Int) (Ks ts) (Rs ts)).2.1 (labM (q : Int) m m')).1 : Int), ((cut1 (FIT (q : Int) (Ks ts) (Rs ts)).2.1 (labM (q : Int) m m')).1 : Int), ((labM (q : Int) m m').2.2.1.1 : Int), ((labM (q : Int) m m').2.2.2.1.1 : Int), ((labM (q : Int) m m').2.2.2.2.1 : Int), ()), 0, ()) := rfl
              have fold7 : ∀ k r a b c d e : Int, [D.int .i64 k, .int .i64 r, .int .i64 a, .int .i64 b, .int .i64 c, .int .i64 d, .int .i64 e] = R7 k r a b c d e := fun _ _ _ _ _ _ _ => rfl
              simp only [ha.len, ltZ_ge (Nat.le_refl _), cond_false, List.take_length, h8, h14, f1, f2, h15, q5_e3, clT_some, q1_rule, q1o, bd_some_eq, hf, hl0, hz, Bool.not_true, bj_inl, cond_true, fold7, R7_0 h hu, R7_1 h hu, R7_5 h hu, R7_6, R7_ty, eqZ_refl, h13, q4_int, h11, q0_bool, c12t h hu hg (n + 5) r8, c12t h hu hg (n + 5) r9, h7]; rfl
            · have h8 := p8b h hu hg (n + 5) ha hlen' hf
              have h14 := c14 h hu hg (n + 6) (p := p) ha hlen hgood (r := badR (FIT p (Ks ts) (Rs ts)).2.2) rfl ⟨fun _ => rfl, fun hx => (hf hx).elim⟩
              have he : eqZ (FIT p (Ks ts) (Rs ts)).2.2 0 = false := by rw [eqZ_eq, beq_eq_false_iff_ne]; exact hf
              simp only [ha.len, ltZ_ge (Nat.le_refl _), cond_false, List.take_length, h8, h14, f1, f2, h15, q5_e3, clT_some, q1_bad, bd_some_eq]
              cases eqZ (ts.length : Int) 0
              · simp only [cond_false, cond_true, bj_inl, he, Bool.not_false, ha.len]
                cases eqZ (ts.length : Int) 0 <;> simp only [cond_false, cond_true, eqZ_refl, h7, clT_some, q0_bool, bd_some_eq, rt_some_eq, bj_inr]
              · simp only [cond_false, cond_true, bj_inl, he, Bool.not_false, ha.len]
                cases eqZ (ts.length : Int) 0 <;> simp only [cond_false, cond_true, eqZ_refl, h7, clT_some, q0_bool, bd_some_eq, rt_some_eq, bj_inr]
      · match ts, ha, hlen, hlen', f1, f2, h15, round with
        | [], ha, hlen, hlen', f1, f2, h15, round =>
          have h8 := p8a h hu (n + 5) p ha hc he
          have h14 := c14a h hu (n + 7) p ha hlen hc he
          have l0 : ltZ 0 (([] : List TyR).length : Int) = false := rfl
          have lz : eqZ (([] : List TyR).length : Int) 0 = true := rfl
          refine loop_done (r := D.bool true) ?_
          have f1 : frSl false 0 1 0 [] = some (slI (Ks [])) := f1
          have h15 : cl (n + 10 + 2) 15 [.int .i64 p, slI (Ks []), slI (Ks [])] = some (e3 (FIT p (Ks []) (Rs []))) := h15
          simp only [ha.len, l0, cond_false, h8, h14, f1, h15, q5_e3, clT_some, q1_bad, bd_some_eq, lz, cond_true, bj_inl, he, Bool.not_false, h7, q0_bool, rt_some_eq, bj_inr]
        | t :: r, ha, hlen, hlen', f1, f2, h15, round =>
          have h13 := c13bad h hu (n + 5) t hc he
          simp only [ty5] at h13
          refine loop_done (r := D.bool true) ?_
          have l0 : ltZ 0 ((t :: r).length : Int) = true := ltZ_lt (a := 0) (by simp)
          simp only [ha.len, l0, cond_true, ha.ix0 (show 0 < (t :: r).length by simp), List.getElem_cons_zero, h13, clT_some, q4_int, bd_some_eq, he, Bool.not_false, h7, q0_bool, rt_some_eq]
    · rfl
  · rfl
end
end Go.Proofs.YtblbgjfkbcdlfaaGreatDoor
