/- What the functions of this program come to: both rules of primitives say the same; the parts. -/
import Derived.Test.YtblbgjfkbcdlfaaGreatDoorLE
set_option linter.unusedVariables false
set_option linter.unusedSimpArgs false
set_option linter.unusedSectionVars false
set_option maxRecDepth 100000
namespace Go.Proofs.YtblbgjfkbcdlfaaGreatDoor
open Go Iv LatT

/-- A type as it is in memory. -/
structure TyR where
  k : Int
  r : Int
  x0 : Int
  x1 : Int
  x2 : Int
def TyR.row (t : TyR) : List D := [.int .i64 t.k, .int .i64 t.r, .int .i64 t.x0, .int .i64 t.x1, .int .i64 t.x2]
def Tys (ts : List TyR) (d : D) : Prop := IsSl 5 (ts.map TyR.row) d
@[simp] theorem q2_ag (k r a b c : Int) : q2 (.agg [.int .i64 k, .int .i64 r, .int .i64 a, .int .i64 b, .int .i64 c]) = some (k, r, a, b, c, ()) := rfl
theorem Tys.len {ts : List TyR} {d : D} (h : Tys ts d) {ρ : Type} (K : Nat → Option ρ) : bd (lenD false d) K = K ts.length := by
  rw [IsSl.len h, List.length_map]
theorem Tys.ix {ts : List TyR} {d : D} (h : Tys ts d) {i : Nat} (hi : i < ts.length) {ρ : Type} (K : _ → Option ρ) : ixT q2 5 d (.int .i64 (i : Int)) (some 5) K = K (ts[i].k, ts[i].r, ts[i].x0, ts[i].x1, ts[i].x2, ()) := by
  rw [ixT_row h (r := ts[i].row) (by omega) (by simp [hi]) K]
  simp only [TyR.row, q2_ag, bd_some_eq]
theorem Tys.fz {ts : List TyR} {d : D} (h : Tys ts d) : Fz d := ⟨IsSl.notAg h, sl_dps h fun r hr => by
  simp only [List.mem_map] at hr; obtain ⟨t, _, rfl⟩ := hr; rfl⟩
theorem Tys.el {ts : List TyR} {d : D} (h : Tys ts d) {i : Nat} (hi : i < ts.length) : ∃ cs, elF 5 d (.int .i64 (i : Int)) = some (cs, i * 5) ∧ cs[i * 5 + 0]? = some (.int .i64 ts[i].k) ∧ cs[i * 5 + 1]? = some (.int .i64 ts[i].r) := by
  have hr : (ts.map TyR.row)[((i : Nat) : Int).toNat]? = some ts[i].row := by simp [hi]
  refine ⟨_, elF_at h (by omega) hr, ?_, ?_⟩
  · have h1 := (flatten_at h.1 hr).1
    rw [Int.toNat_natCast] at h1
    have : ((((ts.map TyR.row).flatten.drop (i * 5)).take 5))[0]? = some (.int .i64 ts[i].k) := by rw [h1]; rfl
    rw [List.getElem?_take] at this
    simpa using this
  · have h1 := (flatten_at h.1 hr).1
    rw [Int.toNat_natCast] at h1
    have : ((((ts.map TyR.row).flatten.drop (i * 5)).take 5))[1]? = some (.int .i64 ts[i].r) := by rw [h1]; rfl
    rw [List.getElem?_take] at this
    simpa using this

def inL (n : Nat) (x : Int) : Bool := leZ 0 x && ltZ x (n : Int)
/-- Are all labels of a type labels? -/
def knownB (n : Nat) (r x0 x1 x2 : Int) : Bool := (eqZ r 0 || (inL n x0 && (eqZ r 1 || inL n x1))) && inL n x2
theorem inL_iff {n : Nat} {x : Int} : inL n x = true ↔ 0 ≤ x ∧ x < n := by
  simp only [inL, Bool.and_eq_true, leZ_eq, ltZ_eq, decide_eq_true_eq]

section
variable {ss : List (List UInt8)} {us : List Nat} {d e : D} (h : Strs ss d) (hu : U8s us e)
include h hu

theorem c52 (n : Nat) (x : Int) : cl (n + 1) 52 [.int .i64 x, .iptr [d, e] 0] = some (.bool (inL ss.length x)) := by
  refine in52 _ _ (ptr_fz h hu) rfl ?_
  unfold S52 inL
  have k1 : ∀ {ρ : Type} (K : _ → Option ρ), tkT q19 [d, e] (0 + 0) none K = K d := fun K => by show bd (q19 d) K = _; rw [q19_fz h.fz]; rfl
  cases leZ 0 x
  · rfl
  · simp only [cond_true, ptF, bd_some_eq, k1, h.len, Bool.true_and]

theorem c21 (n : Nat) (k x0 x1 x2 : Int) {r : Int} (hr : r = 0 ∨ r = 1 ∨ r = 2) : cl (n + 2) 21 [.agg [d, e], ty5 k r x0 x1 x2] = some (.bool (knownB ss.length r x0 x1 x2)) := by
  refine in21 d e _ _ _ _ _ h.fz hu.fz rfl ?_
  unfold S21
  rcases hr with rfl | rfl | rfl
  · have e1 : bndO 2 2 (some (.int .i64 (0 : Int))) = some 0 := rfl
    have l0 : ltZ 0 ((0 : Nat) : Int) = false := rfl
    simp only [e1, bd_some_eq]
    refine loop_done ?_
    simp only [l0, cond_false, c52 h hu n, clT_some, q0_bool, bd_some_eq, rt_some_eq]; rfl
  · have e1 : bndO 2 2 (some (.int .i64 (1 : Int))) = some 1 := rfl
    have l0 : ltZ 0 ((1 : Nat) : Int) = true := rfl
    have l1 : ltZ 1 ((1 : Nat) : Int) = false := rfl
    have i0 : idxD 1 (.int .i64 (0 : Int)) = some 0 := rfl
    simp only [e1, bd_some_eq]
    cases h0 : inL ss.length x0
    · refine loop_done ?_
      simp only [l0, i0, cond_true, T0, c52 h hu n, clT_some, q0_bool, bd_some_eq, h0, Bool.not_false, rt_some_eq, knownB]; rfl
    · refine (loop_step (w := (((), ((), (), ()), (1, 2), ((1 : Nat) : Int), (1 : Int), ()), ((k, (1 : Int), x0, x1, x2, ()), (d, e, ()), ()))) ?_).trans (loop_done ?_)
      · simp only [l0, i0, cond_true, T0, c52 h hu n, clT_some, q0_bool, bd_some_eq, h0, Bool.not_true, cond_false, W1]
      · simp only [l1, cond_false, c52 h hu n, clT_some, q0_bool, bd_some_eq, rt_some_eq, knownB, h0]; rfl
  · have e1 : bndO 2 2 (some (.int .i64 (2 : Int))) = some 2 := rfl
    have l0 : ltZ 0 ((2 : Nat) : Int) = true := rfl
    have l1 : ltZ 1 ((2 : Nat) : Int) = true := rfl
    have l2 : ltZ 2 ((2 : Nat) : Int) = false := rfl
    simp only [e1, bd_some_eq]
    cases h0 : inL ss.length x0
    · refine loop_done ?_
      simp only [l0, I0, cond_true, T0, c52 h hu n, clT_some, q0_bool, bd_some_eq, h0, Bool.not_false, rt_some_eq, knownB]; rfl
    · refine (loop_step (w := (((), ((), (), ()), (2, 2), ((2 : Nat) : Int), (1 : Int), ()), ((k, (2 : Int), x0, x1, x2, ()), (d, e, ()), ()))) ?_).trans ?_
      · simp only [l0, I0, cond_true, T0, c52 h hu n, clT_some, q0_bool, bd_some_eq, h0, Bool.not_true, cond_false, W1]
      · cases h1 : inL ss.length x1
        · refine loop_done ?_
          simp only [l1, I1, cond_true, T1, c52 h hu n, clT_some, q0_bool, bd_some_eq, h1, h0, Bool.not_false, rt_some_eq, knownB]; rfl
        · refine (loop_step (w := (((), ((), (), ()), (2, 2), ((2 : Nat) : Int), (2 : Int), ()), ((k, (2 : Int), x0, x1, x2, ()), (d, e, ()), ()))) ?_).trans (loop_done ?_)
          · simp only [l1, I1, cond_true, T1, c52 h hu n, clT_some, q0_bool, bd_some_eq, h1, Bool.not_true, cond_false, W2]
          · simp only [l2, cond_false, c52 h hu n, clT_some, q0_bool, bd_some_eq, rt_some_eq, knownB, h0, h1]; rfl

theorem c28 (n : Nat) (k x0 x1 x2 : Int) {r : Int} (hr : r = 0 ∨ r = 1 ∨ r = 2) : cl (n + 1) 28 [.agg [d, e], ty5 k r x0 x1 x2] = some (.bool (knownB ss.length r x0 x1 x2)) := by
  refine in28 d e _ _ _ _ _ h.fz hu.fz rfl ?_
  unfold S28
  have hd : ∀ x, ltZ x 0 = true → inL ss.length x = false := fun x hx => by
    rw [← Bool.not_eq_true, inL_iff]; rw [ltZ_eq, decide_eq_true_eq] at hx; omega
  have hd2 : ∀ x, ltZ x 0 = false → leZ (ss.length : Int) x = !(inL ss.length x) := fun x hx => by
    rw [Bool.eq_iff_iff, Bool.not_eq_true', ← Bool.not_eq_true, inL_iff, leZ_eq, decide_eq_true_eq]; rw [ltZ_eq, decide_eq_false_iff_not] at hx; omega
  have hlast : ∀ {α : Type}, (rt (α := α) (bif leZ 0 x2 then bd (lenD false d) fun v8 => some (D.bool (ltZ x2 (v8 : Int))) else some (D.bool false))) = some (.inr (.bool (inL ss.length x2))) := fun {α} => by
    unfold inL
    cases leZ 0 x2
    · rfl
    · simp only [cond_true, h.len, Bool.true_and]; rfl
  have l00 : ltZ 0 (0 : Int) = false := rfl
  have l01 : ltZ 0 (1 : Int) = true := rfl
  have l02 : ltZ 0 (2 : Int) = true := rfl
  have l11 : ltZ 1 (1 : Int) = false := rfl
  have l12 : ltZ 1 (2 : Int) = true := rfl
  have l22 : ltZ 2 (2 : Int) = false := rfl
  have one : ∀ {α : Type} (x : Int) (z : α), inL ss.length x = true → (bif ltZ x 0 then rt (some (D.bool false)) else bif leZ (ss.length : Int) x then rt (some (D.bool false)) else some (Sum.inl z)) = some (.inl z) := fun x z hx => by
    cases hl : ltZ x 0
    · rw [hd2 x hl, hx]; rfl
    · rw [hd x hl] at hx; cases hx
  have bad : ∀ {α : Type} (x : Int) (z : α), inL ss.length x = false → (bif ltZ x 0 then rt (some (D.bool false)) else bif leZ (ss.length : Int) x then rt (some (D.bool false)) else some (Sum.inl z)) = some (.inr (.bool false)) := fun x z hx => by
    cases hl : ltZ x 0
    · rw [hd2 x hl, hx]; rfl
    · rfl
  rcases hr with rfl | rfl | rfl
  · refine loop_done ?_
    simp only [l00, cond_false]
    exact hlast
  · cases h0 : inL ss.length x0
    · refine loop_done ?_
      simp only [l01, I0, cond_true, T0, bd_some_eq, h.len, bad x0 _ h0, knownB, h0]; rfl
    · refine (loop_step (w := (((), (), (1 : Int), ()), ((k, (1 : Int), x0, x1, x2, ()), (d, e, ()), ()))) ?_).trans (loop_done ?_)
      · simp only [l01, I0, cond_true, T0, bd_some_eq, h.len, one x0 _ h0, W1]
      · simp only [l11, cond_false, knownB, h0]
        exact hlast
  · cases h0 : inL ss.length x0
    · refine loop_done ?_
      simp only [l02, I0, cond_true, T0, bd_some_eq, h.len, bad x0 _ h0, knownB, h0]; rfl
    · refine (loop_step (w := (((), (), (1 : Int), ()), ((k, (2 : Int), x0, x1, x2, ()), (d, e, ()), ()))) ?_).trans ?_
      · simp only [l02, I0, cond_true, T0, bd_some_eq, h.len, one x0 _ h0, W1]
      · cases h1 : inL ss.length x1
        · refine loop_done ?_
          simp only [l12, I1, cond_true, T1, bd_some_eq, h.len, bad x1 _ h1, knownB, h0, h1]; rfl
        · refine (loop_step (w := (((), (), (2 : Int), ()), ((k, (2 : Int), x0, x1, x2, ()), (d, e, ()), ()))) ?_).trans (loop_done ?_)
          · simp only [l12, I1, cond_true, T1, bd_some_eq, h.len, one x1 _ h1, W2]
          · simp only [l22, cond_false, knownB, h0, h1]
            exact hlast

theorem c22 (n : Nat) (hg : Good ss us) : cl (n + 9) 22 [.agg [d, e]] = some (.agg [d, e, .int .i64 ((bot (latT hg)).1 : Int)]) := by
  refine in22 d e h.fz hu.fz (by simp only [D.dp, D.dps, h.dp, hu.dp, Bool.and_self]) ?_
  unfold S22
  simp only [c53 h hu hg n, clT_some, q7_e2, bd_some_eq]
end

/-- A type whose labels are labels is one of the model. -/
theorem ty_of {ss : List (List UInt8)} {us : List Nat} (hg : Good ss us) {r x0 x1 x2 : Int} (hr : r = 0 ∨ r = 1 ∨ r = 2) (hk : knownB ss.length r x0 x1 x2 = true) : ∃ m : TM (latT hg), IsTy m r x0 x1 x2 ∧ (m.r : Int) = r := by
  unfold knownB at hk
  simp only [Bool.and_eq_true] at hk
  have h2 := inL_iff.1 hk.2
  have l2 : x2.toNat < (latT hg).n := by show x2.toNat < ss.length; omega
  rcases hr with rfl | rfl | rfl
  · exact ⟨⟨0, bot _, bot _, ⟨x2.toNat, l2⟩⟩, ⟨by show 0 ≤ 2; omega, rfl, fun h => by simp at h, fun _ => rfl, fun h => by simp at h, fun _ => rfl, by simp; omega⟩, rfl⟩
  · have h0 : inL ss.length x0 = true := by have := hk.1; simpa [eqZ] using this
    have h0 := inL_iff.1 h0
    have l0 : x0.toNat < (latT hg).n := by show x0.toNat < ss.length; omega
    exact ⟨⟨1, ⟨x0.toNat, l0⟩, bot _, ⟨x2.toNat, l2⟩⟩, ⟨by show 1 ≤ 2; omega, rfl, fun _ => by simp; omega, fun h => by simp at h, fun h => by simp at h, fun _ => rfl, by simp; omega⟩, rfl⟩
  · have h01 : inL ss.length x0 = true ∧ inL ss.length x1 = true := by have := hk.1; simpa [eqZ] using this
    have h0 := inL_iff.1 h01.1
    have h1 := inL_iff.1 h01.2
    have l0 : x0.toNat < (latT hg).n := by show x0.toNat < ss.length; omega
    have l1 : x1.toNat < (latT hg).n := by show x1.toNat < ss.length; omega
    exact ⟨⟨2, ⟨x0.toNat, l0⟩, ⟨x1.toNat, l1⟩, ⟨x2.toNat, l2⟩⟩, ⟨by show 2 ≤ 2; omega, rfl, fun _ => by simp; omega, fun h => by simp at h, fun _ => by simp; omega, fun h => by simp at h, by simp; omega⟩, rfl⟩
end Go.Proofs.YtblbgjfkbcdlfaaGreatDoor
/- What the functions of this program come to: both rules of primitives say the same. -/
set_option linter.unusedVariables false
set_option linter.unusedSimpArgs false
set_option linter.unusedSectionVars false
set_option maxRecDepth 100000
namespace Go.Proofs.YtblbgjfkbcdlfaaGreatDoor
open Go Iv LatT

def Z7 : List D := [(.int .i64 0), (.int .i64 0), (.int .i64 0), (.int .i64 0), (.int .i64 0), (.int .i64 0), (.int .i64 0)]
def badR (e : Int) : D := .tup [.agg Z7, .int .i64 e]
@[simp] theorem q5_e3 (t : Int × Int × Int) : q5 (e3 t) = some (t.1, t.2.1, t.2.2, ()) := rfl

theorem room_ok {i : Nat} (h : i < 100) : room (i + 1) 8 = true := by
  unfold room
  simp; omega
theorem apG_ok {i : Nat} (h : i < 100) {l : List Int} (hl : l.length = i) : apG true (i * 1) (l.map (D.int .i64)).length (i + 1) 8 = some () := by
  simp only [apG, Nat.mul_one, List.length_map, hl, Nat.beq_refl, room_ok h, Bool.and_self, cond_true]
theorem frSl_sl (l : List Int) : frSl false 0 1 l.length (l.map (D.int .i64)) = some (slI l) := by
  simp only [frSl, List.length_map]
  rw [Nat.ble_eq_true_of_le (by omega)]
  simp only [List.drop_zero, Nat.mul_one, cond_true, slI]
  rw [List.take_of_length_le (by simp)]

def Ks (ts : List TyR) : List Int := ts.map (·.k)
def Rs (ts : List TyR) : List Int := ts.map (·.r)

theorem map_take_succ {α : Type} (f : α → Int) {ts : List α} {i : Nat} (hi : i < ts.length) : ((ts.take i).map f).map (D.int .i64) ++ [D.int .i64 (f ts[i])] = ((ts.take (i + 1)).map f).map (D.int .i64) := by
  rw [List.take_succ_eq_append_getElem hi, List.map_append, List.map_append]; rfl

section
variable {ss : List (List UInt8)} {us : List Nat} {d e : D} (h : Strs ss d) (hu : U8s us e)
include h hu

/-- taint.Prim: the lattice is none. -/
theorem p8a (n : Nat) (p : Int) {ts : List TyR} {a : D} (ha : Tys ts a) {x er : Int} (hc : CHK ss us = e2 x er) (he : eqZ er 0 = false) : cl (n + 7) 8 [.agg [d, e], .int .i64 p, a] = some (badR er) := by
  refine in8 d e p a h.fz hu.fz ha.fz rfl ?_
  unfold S8
  simp only [c19 n h hu, hc, clT_some, q7_e2, bd_some_eq, he, Bool.not_false, cond_true]; rfl
end

def knT (n : Nat) (t : TyR) : Bool := knownB n t.r t.x0 t.x1 t.x2
theorem first_badT {α : Type} {p : α → Bool} : ∀ {l : List α}, l.all p = false → ∃ m, ∃ h : m < l.length, p l[m] = false ∧ ∀ j (hj : j < m), p (l[j]'(by omega)) = true
  | [], h => by simp at h
  | a :: l, h => by
    cases ha : p a
    · exact ⟨0, by simp, ha, fun j hj => by omega⟩
    · simp only [List.all_cons, ha, Bool.true_and] at h
      obtain ⟨m, hm, h1, h2⟩ := first_badT h
      refine ⟨m + 1, by simp; omega, by simpa using h1, fun j hj => ?_⟩
      cases j with
      | zero => simpa using ha
      | succ j => simpa using h2 j (by omega)

theorem fit_len {p : Int} {ks rs : List Int} (h : (FIT p ks rs).2.2 = 0) : 1 ≤ p ∧ p ≤ 40 ∧ ks.length = ar p.toNat ∧ ks.all isKi = true ∧ rs.all isRi = true ∧ FIT p ks rs = fitM p.toNat ks rs := by
  unfold FIT at h ⊢
  cases h1 : (ltZ p 1 || ltZ 40 p) <;> rw [h1] at h
  · cases h2 : Nat.beq ks.length (ar p.toNat) <;> rw [h2] at h
    · cases h
    · cases h3 : ks.all isKi <;> rw [h3] at h
      · cases h
      · cases h4 : rs.all isRi <;> rw [h4] at h
        · cases h5 : kindsB p.toNat ks <;> rw [h5] at h <;> cases h
        · rw [ltZ_eq, ltZ_eq, Bool.or_eq_false_iff, decide_eq_false_iff_not, decide_eq_false_iff_not] at h1
          exact ⟨by omega, by omega, Nat.eq_of_beq_eq_true h2, rfl, rfl, rfl⟩
  · cases h

theorem isRi_cases {r : Int} (h : isRi r = true) : r = 0 ∨ r = 1 ∨ r = 2 := by
  simpa only [isRi, Bool.or_eq_true, eqZ_eq, beq_iff_eq] using h

theorem IZ7 : inR 0 7 Z7.length = some () := rfl
theorem TZ7 : takeAt (setQ Z7 0 [(.int .i64 0), (.int .i64 0), (.int .i64 0), (.int .i64 0), (.int .i64 0), (.int .i64 0), (.int .i64 0)]) 0 (some 7) = some (.agg Z7) := rfl
def R7 (k r a b c d e : Int) : List D := [.int .i64 k, .int .i64 r, .int .i64 a, .int .i64 b, .int .i64 c, .int .i64 d, .int .i64 e]
theorem R7_6 (k r a b c d e : Int) {ρ : Type} (K : Int → Option ρ) : tkT q4 (R7 k r a b c d e) 6 none K = K e := rfl
theorem R7_set (k r a b c d e x : Int) : setQ (R7 k r a b c d e) 6 [.int .i64 x] = R7 k r a b c d x := rfl
theorem R7_len (k r a b c d e : Int) : inR 6 1 (R7 k r a b c d e).length = some () := rfl
theorem R7_ty (k r a b c d e : Int) {ρ : Type} (K : _ → Option ρ) : tkT q2 (R7 k r a b c d e) 0 (some 5) K = K (k, r, a, b, c, ()) := rfl
theorem R7_all (k r a b c d e : Int) {ρ : Type} (K : _ → Option ρ) : tkT q10 (R7 k r a b c d e) 0 (some 7) K = K (k, r, a, b, c, d, e, ()) := rfl
theorem R7_put (k r a b c d e : Int) : takeAt (setQ Z7 0 [.int .i64 k, .int .i64 r, .int .i64 a, .int .i64 b, .int .i64 c, .int .i64 d, .int .i64 e]) 0 (some 7) = some (.agg (R7 k r a b c d e)) := rfl

section
variable {ss : List (List UInt8)} {us : List Nat} {d e : D} (h : Strs ss d) (hu : U8s us e) (hg : Good ss us)
include h hu hg

theorem q8_ag (b : Int) : q8 (.agg [d, e, .int .i64 b]) = some (d, e, b, ()) := gd_agg (gds_cons (gd_fz h.fz.1) (gds_cons (gd_fz hu.fz.1) (gds_cons rfl gds_nil)))

theorem p8b (n : Nat) {p : Int} {ts : List TyR} {a : D} (ha : Tys ts a) (hlen : ts.length < 100) (hf : (FIT p (Ks ts) (Rs ts)).2.2 ≠ 0) : cl (n + 7) 8 [.agg [d, e], .int .i64 p, a] = some (badR (FIT p (Ks ts) (Rs ts)).2.2) := by
  refine in8 d e p a h.fz hu.fz ha.fz rfl ?_
  unfold S8
  have hz : eqZ 0 0 = true := rfl
  simp only [c19 n h hu, chk_good hg, clT_some, q7_e2, bd_some_eq, hz, Bool.not_true, cond_false, ha.len]
  refine loop_fold (st := fun i => ((p, a, (), (), i, i, a, (ts.length : Int), (i : Int), ()), ((Rs (ts.take i)).map (D.int .i64), (Ks (ts.take i)).map (D.int .i64), Z7, (d, e, ()), ()))) (n := ts.length) (fun i hi => ?_) ?_
  · have l1 : (Ks (ts.take i)).length = i := by simp [Ks]; omega
    have l2 : (Rs (ts.take i)).length = i := by simp [Rs]; omega
    simp only [ltZ_lt hi, cond_true, ha.ix hi, apG_ok (show i < 100 by omega) l1, apG_ok (show i < 100 by omega) l2, bd_some_eq, inc_i64 (show i < 9223372036854775807 by omega)]
    simp only [Ks, Rs, map_take_succ (fun t : TyR => t.k) hi, map_take_succ (fun t : TyR => t.r) hi]
  · have f1 : frSl false 0 1 ts.length ((Ks ts).map (D.int .i64)) = some (slI (Ks ts)) := by have := frSl_sl (Ks ts); rwa [show (Ks ts).length = ts.length by simp [Ks]] at this
    have f2 : frSl false 0 1 ts.length ((Rs ts).map (D.int .i64)) = some (slI (Rs ts)) := by have := frSl_sl (Rs ts); rwa [show (Rs ts).length = ts.length by simp [Rs]] at this
    have he : eqZ (FIT p (Ks ts) (Rs ts)).2.2 0 = false := by rw [eqZ_eq, beq_eq_false_iff_ne]; exact hf
    simp only [ltZ_ge (Nat.le_refl _), cond_false, List.take_length, f1, f2, bd_some_eq, c20 (n + 3) p (show (Rs ts).length = (Ks ts).length by simp [Ks, Rs]) (show (Ks ts).length < 100 by simp [Ks]; omega), clT_some, q5_e3, he, Bool.not_false, cond_true, IZ7, TZ7]; rfl

/-- Up to the second loop of taint.Prim. -/
theorem p8c (n : Nat) {p : Int} {ts : List TyR} {a : D} (ha : Tys ts a) (hlen : ts.length < 100) (hf : (FIT p (Ks ts) (Rs ts)).2.2 = 0) (hk : ts.all (knT ss.length) = false) : cl (n + 7) 8 [.agg [d, e], .int .i64 p, a] = some (badR 7) := by
  refine in8 d e p a h.fz hu.fz ha.fz rfl ?_
  unfold S8
  have hz : eqZ 0 0 = true := rfl
  simp only [c19 n h hu, chk_good hg, clT_some, q7_e2, bd_some_eq, hz, Bool.not_true, cond_false, ha.len]
  refine loop_fold (st := fun i => ((p, a, (), (), i, i, a, (ts.length : Int), (i : Int), ()), ((Rs (ts.take i)).map (D.int .i64), (Ks (ts.take i)).map (D.int .i64), Z7, (d, e, ()), ()))) (n := ts.length) (fun i hi => ?_) ?_
  · have l1 : (Ks (ts.take i)).length = i := by simp [Ks]; omega
    have l2 : (Rs (ts.take i)).length = i := by simp [Rs]; omega
    simp only [ltZ_lt hi, cond_true, ha.ix hi, apG_ok (show i < 100 by omega) l1, apG_ok (show i < 100 by omega) l2, bd_some_eq, inc_i64 (show i < 9223372036854775807 by omega)]
    simp only [Ks, Rs, map_take_succ (fun t : TyR => t.k) hi, map_take_succ (fun t : TyR => t.r) hi]
  · have f1 : frSl false 0 1 ts.length ((Ks ts).map (D.int .i64)) = some (slI (Ks ts)) := by have := frSl_sl (Ks ts); rwa [show (Ks ts).length = ts.length by simp [Ks]] at this
    have f2 : frSl false 0 1 ts.length ((Rs ts).map (D.int .i64)) = some (slI (Rs ts)) := by have := frSl_sl (Rs ts); rwa [show (Rs ts).length = ts.length by simp [Rs]] at this
    have hr := (fit_len hf).2.2.2.2.1
    have hri : ∀ i (hi : i < ts.length), ts[i].r = 0 ∨ ts[i].r = 1 ∨ ts[i].r = 2 := fun i hi => isRi_cases (List.all_eq_true.1 hr _ (by simp only [Rs, List.mem_map]; exact ⟨ts[i], List.getElem_mem hi, rfl⟩))
    simp only [ltZ_ge (Nat.le_refl _), cond_false, List.take_length, f1, f2, bd_some_eq, c20 (n + 3) p (show (Rs ts).length = (Ks ts).length by simp [Ks, Rs]) (show (Ks ts).length < 100 by simp [Ks]; omega), clT_some, q5_e3, hf, hz, Bool.not_true, ha.len]
    obtain ⟨m, hm, h1, h2⟩ := first_badT hk
    refine congrArg (rt (α := _)) (loop_exit (st := fun i => ((p, a, (), (), (FIT p (Ks ts) (Rs ts)).1, (FIT p (Ks ts) (Rs ts)).2.1, a, (ts.length : Int), (i : Int), ()), (Z7, (d, e, ()), ()))) (r := badR 7) (m := m) (fun i hi => ?_) ?_)
    · have hi' : i < ts.length := by omega
      have h21 := c21 h hu (n + 4) ts[i].k ts[i].x0 ts[i].x1 ts[i].x2 (hri i hi')
      rw [show knownB ss.length ts[i].r ts[i].x0 ts[i].x1 ts[i].x2 = true from h2 i hi] at h21
      simp only [ty5] at h21
      simp only [ltZ_lt hi', cond_true, ha.ix hi', h21, clT_some, q0_bool, bd_some_eq, Bool.not_true, cond_false, inc_i64 (show i < 9223372036854775807 by omega)]
    · have h21 := c21 h hu (n + 4) ts[m].k ts[m].x0 ts[m].x1 ts[m].x2 (hri m hm)
      rw [show knownB ss.length ts[m].r ts[m].x0 ts[m].x1 ts[m].x2 = false from h1] at h21
      simp only [ty5] at h21
      simp only [ltZ_lt hm, cond_true, ha.ix hm, h21, clT_some, q0_bool, bd_some_eq, Bool.not_false, IZ7, TZ7, rt_some_eq]; rfl
end
end Go.Proofs.YtblbgjfkbcdlfaaGreatDoor
/- What the functions of this program come to: taint.Prim where all is well. -/
set_option linter.unusedVariables false
set_option linter.unusedSimpArgs false
set_option linter.unusedSectionVars false
set_option maxRecDepth 100000
namespace Go.Proofs.YtblbgjfkbcdlfaaGreatDoor
open Go Iv LatT

theorem bj_of {α ρ : Type} {o : Option (α ⊕ ρ)} {a : α} {k : α → Option ρ} {r : Option ρ} (h1 : o = some (.inl a)) (h2 : k a = r) : bj o k = r := by rw [h1]; exact h2
def bigB (p : Int) : Bool := eqZ p 8 || (eqZ p 35 || eqZ p 36)
/-- What a rule is in memory. -/
def ruleD {T : LatT} (kind rank : Int) (res : Lab T × Lab T × Lab T × Lab T) (cost : Lab T) : D :=
  .tup [.agg (R7 kind rank (res.1.1 : Int) (res.2.1.1 : Int) (res.2.2.1.1 : Int) (res.2.2.2.1 : Int) (cost.1 : Int)), .int .i64 0]
noncomputable def costM {T : LatT} (p : Int) (ms : List (TM T)) (res : Lab T × Lab T × Lab T × Lab T) : Lab T :=
  bif bigB p then J (foldJ (bot T) (ms.map TM.lens)) (J res.1 res.2.1) else foldJ (bot T) (ms.map TM.lens)

/-- Operands that are well, with what the rule says. -/
def Fits {T : LatT} (q : Nat) (ts : List TyR) (ms : List (TM T)) (res : Lab T × Lab T × Lab T × Lab T) : Prop :=
  (∃ t m, ts = [t] ∧ ms = [m] ∧ 1 ≤ q ∧ q ≤ 14 ∧ okR1 q m.r = true ∧ res = oneM q m) ∨
  (∃ t t' m m', ts = [t, t'] ∧ ms = [m, m'] ∧ 15 ≤ q ∧ q ≤ 40 ∧ okR2 q m.r m'.r = true ∧ res = twoM q m m')

theorem Tys.ix0 {ts : List TyR} {d : D} (h : Tys ts d) (hi : 0 < ts.length) {ρ : Type} (K : _ → Option ρ) : ixT q2 5 d (.int .i64 0) (some 5) K = K (ts[0].k, ts[0].r, ts[0].x0, ts[0].x1, ts[0].x2, ()) := h.ix (i := 0) hi K
theorem Tys.ix1 {ts : List TyR} {d : D} (h : Tys ts d) (hi : 1 < ts.length) {ρ : Type} (K : _ → Option ρ) : ixT q2 5 d (.int .i64 1) (some 5) K = K (ts[1].k, ts[1].r, ts[1].x0, ts[1].x1, ts[1].x2, ()) := h.ix (i := 1) hi K

section
variable {ss : List (List UInt8)} {us : List Nat} {d e : D} (h : Strs ss d) (hu : U8s us e) (hg : Good ss us)
include h hu hg

theorem p8d (n : Nat) {q : Nat} {ts : List TyR} {a : D} (ha : Tys ts a) {ms : List (TM (latT hg))} {res : Lab (latT hg) × Lab (latT hg) × Lab (latT hg) × Lab (latT hg)}
    (hf : (FIT (q : Int) (Ks ts) (Rs ts)).2.2 = 0) (hk : ts.all (knT ss.length) = true) (hF : Fits q ts ms res) (hml : ms.length = ts.length)
    (hty : ∀ i (hi : i < ts.length), IsTy (ms[i]'(by omega)) ts[i].r ts[i].x0 ts[i].x1 ts[i].x2)
    (hbig : bigB (q : Int) = true → ∃ m : TM (latT hg), IsTy m (FIT (q : Int) (Ks ts) (Rs ts)).2.1 (res.1.1 : Int) (res.2.1.1 : Int) (res.2.2.1.1 : Int) ∧ m.lens = J res.1 res.2.1) :
    cl (n + 12) 8 [.agg [d, e], .int .i64 (q : Int), a] = some (ruleD (FIT (q : Int) (Ks ts) (Rs ts)).1 (FIT (q : Int) (Ks ts) (Rs ts)).2.1 res (costM (q : Int) ms res)) := by
  have hlen : ts.length < 100 := by rcases hF with ⟨t, m, rfl, _⟩ | ⟨t, t', m, m', rfl, _⟩ <;> simp
  refine in8 d e (q : Int) a h.fz hu.fz ha.fz rfl ?_
  unfold S8
  have hz : eqZ 0 0 = true := rfl
  simp only [c19 (n + 5) h hu, chk_good hg, clT_some, q7_e2, bd_some_eq, hz, Bool.not_true, cond_false, ha.len]
  refine loop_fold (st := fun i => (((q : Int), a, (), (), i, i, a, (ts.length : Int), (i : Int), ()), ((Rs (ts.take i)).map (D.int .i64), (Ks (ts.take i)).map (D.int .i64), Z7, (d, e, ()), ()))) (n := ts.length) (fun i hi => ?_) ?_
  · have l1 : (Ks (ts.take i)).length = i := by simp [Ks]; omega
    have l2 : (Rs (ts.take i)).length = i := by simp [Rs]; omega
    simp only [ltZ_lt hi, cond_true, ha.ix hi, apG_ok (show i < 100 by omega) l1, apG_ok (show i < 100 by omega) l2, bd_some_eq, inc_i64 (show i < 9223372036854775807 by omega)]
    simp only [Ks, Rs, map_take_succ (fun t : TyR => t.k) hi, map_take_succ (fun t : TyR => t.r) hi]
  · have f1 : frSl false 0 1 ts.length ((Ks ts).map (D.int .i64)) = some (slI (Ks ts)) := by have := frSl_sl (Ks ts); rwa [show (Ks ts).length = ts.length by simp [Ks]] at this
    have f2 : frSl false 0 1 ts.length ((Rs ts).map (D.int .i64)) = some (slI (Rs ts)) := by have := frSl_sl (Rs ts); rwa [show (Rs ts).length = ts.length by simp [Rs]] at this
    have hr := (fit_len hf).2.2.2.2.1
    have hri : ∀ i (hi : i < ts.length), ts[i].r = 0 ∨ ts[i].r = 1 ∨ ts[i].r = 2 := fun i hi => isRi_cases (List.all_eq_true.1 hr _ (by simp only [Rs, List.mem_map]; exact ⟨ts[i], List.getElem_mem hi, rfl⟩))
    simp only [ltZ_ge (Nat.le_refl _), cond_false, List.take_length, f1, f2, bd_some_eq, c20 (n + 8) (q : Int) (show (Rs ts).length = (Ks ts).length by simp [Ks, Rs]) (show (Ks ts).length < 100 by simp [Ks]; omega), clT_some, q5_e3, hf, hz, Bool.not_true, ha.len]
    refine congrArg (rt (α := _)) (loop_fold (st := fun i => (((q : Int), a, (), (), (FIT (q : Int) (Ks ts) (Rs ts)).1, (FIT (q : Int) (Ks ts) (Rs ts)).2.1, a, (ts.length : Int), (i : Int), ()), (Z7, (d, e, ()), ()))) (n := ts.length) (fun i hi => ?_) ?_)
    · have h21 := c21 h hu (n + 9) ts[i].k ts[i].x0 ts[i].x1 ts[i].x2 (hri i hi)
      rw [show knownB ss.length ts[i].r ts[i].x0 ts[i].x1 ts[i].x2 = true from List.all_eq_true.1 hk _ (List.getElem_mem hi)] at h21
      simp only [ty5] at h21
      simp only [ltZ_lt hi, cond_true, ha.ix hi, h21, clT_some, q0_bool, bd_some_eq, Bool.not_true, cond_false, inc_i64 (show i < 9223372036854775807 by omega)]
    · simp only [ltZ_ge (Nat.le_refl _), cond_false, c22 h hu (n + 2) hg, clT_some, q8_ag h hu hg, bd_some_eq]
      refine congrArg (rt (α := _)) (bj_of (r := some (ruleD (FIT (q : Int) (Ks ts) (Rs ts)).1 (FIT (q : Int) (Ks ts) (Rs ts)).2.1 res (costM (q : Int) ms res))) (a := (((q : Int), a, (), (), (), ()), (R7 (FIT (q : Int) (Ks ts) (Rs ts)).1 (FIT (q : Int) (Ks ts) (Rs ts)).2.1 (res.1.1 : Int) (res.2.1.1 : Int) (res.2.2.1.1 : Int) (res.2.2.2.1 : Int) ((bot (latT hg)).1 : Int), (d, e, ((bot (latT hg)).1 : Int), ()), Z7, (d, e, ()), ()))) ?_ ?_)
      · rcases hF with ⟨t, m, rfl, rfl, hq1, hq14, hok, rfl⟩ | ⟨t, t', m, m', rfl, rfl, hq15, hq40, hok, rfl⟩
        · have hm := hty 0 (by simp)
          have h23 := c23 h hu hg n hq1 hq14 (k := t.k) hm hok
          simp only [ty5, List.getElem_cons_zero] at h23
          have hl1 : eqZ (([t].length : Nat) : Int) 1 = true := rfl
          simp only [ha.len, hl1, cond_true, ha.ix0 (by simp), List.getElem_cons_zero, h23, clT_some, q9_enc4, bd_some_eq]; rfl
        · have hm := hty 0 (by simp)
          have hm' := hty 1 (by simp)
          have h24 := c24 h hu hg n hq15 hq40 (k := t.k) (k' := t'.k) hm hm' hok
          simp only [ty5, List.getElem_cons_zero, List.getElem_cons_succ] at h24
          have hl1 : eqZ (([t, t'].length : Nat) : Int) 1 = false := rfl
          simp only [ha.len, hl1, cond_false, ha.ix0 (by simp), ha.ix1 (by simp), List.getElem_cons_zero, List.getElem_cons_succ, h24, clT_some, q9_enc4, bd_some_eq]; rfl
      · simp only [bj_inl, ha.len]
        refine loop_fold (st := fun i => (((q : Int), (), (), (), a, (ts.length : Int), (i : Int), ()), (R7 (FIT (q : Int) (Ks ts) (Rs ts)).1 (FIT (q : Int) (Ks ts) (Rs ts)).2.1 (res.1.1 : Int) (res.2.1.1 : Int) (res.2.2.1.1 : Int) (res.2.2.2.1 : Int) ((foldJ (bot (latT hg)) ((ms.take i).map TM.lens)).1 : Int), (d, e, ((bot (latT hg)).1 : Int), ()), Z7, ()))) (n := ts.length) (fun i hi => ?_) ?_
        · have h26 := c26 h hu hg (n + 1) (k := ts[i].k) (hty i hi)
          simp only [ty5] at h26
          have hi' : i < ms.length := by omega
          simp only [ltZ_lt hi, cond_true, ha.ix hi, R7_6, h26, clT_some, q4_int, bd_some_eq, j25_2 h hu hg (n + 2), bot_J, R7_len, R7_set, inc_i64 (show i < 9223372036854775807 by omega)]
          rw [List.take_succ_eq_append_getElem hi', List.map_append, foldJ, foldJ, List.foldl_append]; rfl
        · have htk : ms.take ts.length = ms := by rw [← hml, List.take_length]
          simp only [ltZ_ge (Nat.le_refl _), cond_false, htk]
          have fin : ∀ x : Lab (latT hg), (bd (inR 0 7 (List.length Z7)) fun _ => bd (takeAt (setQ Z7 0 [(.int .i64 (FIT (q : Int) (Ks ts) (Rs ts)).1), (.int .i64 (FIT (q : Int) (Ks ts) (Rs ts)).2.1), (.int .i64 (res.1.1 : Int)), (.int .i64 (res.2.1.1 : Int)), (.int .i64 (res.2.2.1.1 : Int)), (.int .i64 (res.2.2.2.1 : Int)), (.int .i64 (x.1 : Int))]) 0 (some 7)) fun v => some (.tup [v, .int .i64 0])) = some (ruleD (FIT (q : Int) (Ks ts) (Rs ts)).1 (FIT (q : Int) (Ks ts) (Rs ts)).2.1 res x) := fun x => rfl
          have small : bigB (q : Int) = false → (bd (inR 0 7 (List.length Z7)) fun _ => bd (takeAt (setQ Z7 0 [(.int .i64 (FIT (q : Int) (Ks ts) (Rs ts)).1), (.int .i64 (FIT (q : Int) (Ks ts) (Rs ts)).2.1), (.int .i64 (res.1.1 : Int)), (.int .i64 (res.2.1.1 : Int)), (.int .i64 (res.2.2.1.1 : Int)), (.int .i64 (res.2.2.2.1 : Int)), (.int .i64 ((foldJ (bot (latT hg)) (ms.map TM.lens)).1 : Int))]) 0 (some 7)) fun v => some (.tup [v, .int .i64 0])) = some (ruleD (FIT (q : Int) (Ks ts) (Rs ts)).1 (FIT (q : Int) (Ks ts) (Rs ts)).2.1 res (costM (q : Int) ms res)) := fun hb => by
            rw [fin]; simp only [costM, hb, cond_false]
          cases hb : bigB (q : Int)
          · have hs := small hb
            simp only [bigB, Bool.or_eq_false_iff] at hb
            simp only [hb.1, hb.2.1, hb.2.2, cond_false, bj_inl, R7_all, hs]; rfl
          · obtain ⟨m, hm, hml2⟩ := hbig hb
            have h26 := c26 h hu hg (n + 1) (k := (FIT (q : Int) (Ks ts) (Rs ts)).1) hm
            simp only [ty5] at h26
            have big : (bd (inR 0 7 (List.length Z7)) fun _ => bd (takeAt (setQ Z7 0 [(.int .i64 (FIT (q : Int) (Ks ts) (Rs ts)).1), (.int .i64 (FIT (q : Int) (Ks ts) (Rs ts)).2.1), (.int .i64 (res.1.1 : Int)), (.int .i64 (res.2.1.1 : Int)), (.int .i64 (res.2.2.1.1 : Int)), (.int .i64 (res.2.2.2.1 : Int)), (.int .i64 ((J (foldJ (bot (latT hg)) (ms.map TM.lens)) m.lens).1 : Int))]) 0 (some 7)) fun v => some (.tup [v, .int .i64 0])) = some (ruleD (FIT (q : Int) (Ks ts) (Rs ts)).1 (FIT (q : Int) (Ks ts) (Rs ts)).2.1 res (costM (q : Int) ms res)) := by
              rw [fin, hml2]; simp only [costM, hb, cond_true]
            simp only [bigB] at hb
            cases h8 : eqZ (q : Int) 8
            · cases h35 : eqZ (q : Int) 35
              · have h36 : eqZ (q : Int) 36 = true := by rw [h8, h35] at hb; simpa using hb
                simp only [h8, h35, h36, cond_true, cond_false, bj_inl, R7_6, R7_ty, h26, clT_some, q4_int, bd_some_eq, j25_2 h hu hg (n + 2), bot_J, R7_len, R7_set, R7_all, big]; rfl
              · simp only [h8, h35, cond_true, cond_false, bj_inl, R7_6, R7_ty, h26, clT_some, q4_int, bd_some_eq, j25_2 h hu hg (n + 2), bot_J, R7_len, R7_set, R7_all, big]; rfl
            · simp only [h8, cond_true, cond_false, bj_inl, R7_6, R7_ty, h26, clT_some, q4_int, bd_some_eq, j25_2 h hu hg (n + 2), bot_J, R7_len, R7_set, R7_all, big]; rfl
end
end Go.Proofs.YtblbgjfkbcdlfaaGreatDoor
/- What the functions of this program come to: operands that fit. -/
set_option linter.unusedVariables false
set_option linter.unusedSimpArgs false
set_option linter.unusedSectionVars false
set_option maxRecDepth 100000
namespace Go.Proofs.YtblbgjfkbcdlfaaGreatDoor
open Go Iv LatT

theorem eqZ_refl (x : Int) : eqZ x x = true := by rw [eqZ_eq]; simp
@[simp] theorem q1_bad (e : Int) : q1 (badR e) = some ((0, 0, 0, 0, 0, 0, 0, ()), e, ()) := rfl
@[simp] theorem q1_rule {T : LatT} (k r : Int) (res : Lab T × Lab T × Lab T × Lab T) (c : Lab T) : q1 (ruleD k r res c) = some ((k, r, (res.1.1 : Int), (res.2.1.1 : Int), (res.2.2.1.1 : Int), (res.2.2.2.1 : Int), (c.1 : Int), ()), 0, ()) := rfl

/-- Is a lattice more than is looked at? -/
def farB (ss : List (List UInt8)) (us : List Nat) : Bool := ltZ 9 (ss.length : Int) || (ltZ 9 (us.length : Int) || !(allN ss.length fun i => !(ltZ 40 ((ss.getD i []).length : Int))))

section
variable {ss : List (List UInt8)} {us : List Nat} {d e : D} (h : Strs ss d) (hu : U8s us e)
include h hu

theorem c16 (n : Nat) : cl (n + 1) 16 [.agg [d, e, .nils, .nils, .nils]] = some (.bool (farB ss us)) := by
  refine in16 d e .nils .nils .nils h.fz hu.fz ⟨rfl, rfl⟩ ⟨rfl, rfl⟩ ⟨rfl, rfl⟩ rfl ?_
  unfold S16 farB
  have n0 : ∀ {ρ : Type} (K : Nat → Option ρ), bd (lenD false .nils) K = K 0 := fun K => rfl
  have l8 : ltZ 8 ((0 : Nat) : Int) = false := rfl
  have l10 : ltZ 10 ((0 : Nat) : Int) = false := rfl
  have l12 : ltZ 12 ((0 : Nat) : Int) = false := rfl
  simp only [h.len, hu.len, n0, l8, l10, l12, cond_false]
  cases h9 : ltZ 9 (ss.length : Int)
  · cases h9' : ltZ 9 (us.length : Int)
    · have hlen : ss.length ≤ 9 := by rw [ltZ_eq, decide_eq_false_iff_not] at h9; omega
      simp only [cond_false, bj_inl, Bool.false_or]
      refine (loop_scan (st := fun i => (((), (i : Int), ()), ((d, e, D.nils, D.nils, D.nils, ()), ()))) (p := fun i => bif !(ltZ 40 ((ss.getD i []).length : Int)) then none else some (D.bool true)) (z := D.bool false) (n := ss.length) (fun i hi _ => ?_) (fun _ => ?_)).trans ?_
      · simp only [h.len, ltZ_lt hi, cond_true, h.ix hi, q12_str, bd_some_eq, getD_lt hi, inc_i64 (show i < 9223372036854775807 by omega)]
        cases ltZ 40 (ss[i].length : Int) <;> rfl
      · simp only [h.len, ltZ_ge (Nat.le_refl _), cond_false]
        refine congrArg (rt (α := _)) (loop_done (r := D.bool false) ?_)
        have l00 : ltZ 0 ((0 : Nat) : Int) = false := rfl
        simp only [n0, l00, cond_false]
        refine congrArg (rt (α := _)) (loop_done (r := D.bool false) ?_)
        simp only [n0, l00, cond_false]; rfl
      · rw [scan_all]
        cases allN ss.length fun i => !(ltZ 40 ((ss.getD i []).length : Int)) <;> rfl
    · rfl
  · rfl

theorem c6 (n : Nat) : cl (n + 2) 6 [.agg [d, e]] = some (.bool (farB ss us)) := by
  refine in6 d e h.fz hu.fz rfl ?_
  unfold S6
  simp only [c16 h hu n, clT_some, q0_bool, bd_some_eq]

/-- Where the operands fit, they are types of the model, and both rules are the rule. -/
theorem fit_data (hg : Good ss us) {p : Int} {ts : List TyR} (hf : (FIT p (Ks ts) (Rs ts)).2.2 = 0) (hk : ts.all (knT ss.length) = true) :
    ∃ (q : Nat) (ms : List (TM (latT hg))) (res : Lab (latT hg) × Lab (latT hg) × Lab (latT hg) × Lab (latT hg)) (hml : ms.length = ts.length), p = (q : Int) ∧ Fits q ts ms res ∧
      (∀ i (hi : i < ts.length), IsTy (ms[i]'(by omega)) ts[i].r ts[i].x0 ts[i].x1 ts[i].x2) ∧
      (bigB (q : Int) = true → ∃ m : TM (latT hg), IsTy m (FIT (q : Int) (Ks ts) (Rs ts)).2.1 (res.1.1 : Int) (res.2.1.1 : Int) (res.2.2.1.1 : Int) ∧ m.lens = J res.1 res.2.1) := by
  obtain ⟨hp1, hp2, hlen, hka, hra, hfit⟩ := fit_len hf
  obtain ⟨q, rfl⟩ : ∃ q : Nat, p = q := ⟨p.toNat, by omega⟩
  rw [Int.toNat_natCast] at hlen hfit
  have hq1 : 1 ≤ q := by omega
  have hq2 : q ≤ 40 := by omega
  have hmk : ∀ t ∈ ts, ∃ m : TM (latT hg), IsTy m t.r t.x0 t.x1 t.x2 ∧ (m.r : Int) = t.r := fun t ht =>
    ty_of hg (isRi_cases (List.all_eq_true.1 hra _ (by simp only [Rs, List.mem_map]; exact ⟨t, ht, rfl⟩))) (List.all_eq_true.1 hk t ht)
  have hrank : ltZ (rankM q (Rs ts)) 0 = false ∧ (FIT (q : Int) (Ks ts) (Rs ts)).2.1 = rankM q (Rs ts) := by
    rw [hfit] at hf ⊢
    unfold fitM at hf ⊢
    cases h1 : kindsB q (Ks ts) <;> rw [h1] at hf
    · cases hf
    · cases h2 : ltZ (rankM q (Rs ts)) 0 <;> rw [h2] at hf
      · exact ⟨rfl, rfl⟩
      · cases hf
  have hlen' : ts.length = ar q := by simpa [Ks] using hlen
  unfold ar at hlen'
  cases h14 : Nat.ble q 14 <;> rw [h14] at hlen'
  · have hq15 : 15 ≤ q := by
      have : ¬ q ≤ 14 := fun hx => by rw [Nat.ble_eq_true_of_le hx] at h14; cases h14
      omega
    obtain ⟨t, t', rfl⟩ : ∃ t t', ts = [t, t'] := by
      match ts, hlen' with
      | [t, t'], _ => exact ⟨t, t', rfl⟩
    obtain ⟨m, hm, hmr⟩ := hmk t (by simp)
    obtain ⟨m', hm', hmr'⟩ := hmk t' (by simp)
    refine ⟨q, [m, m'], twoM q m m', rfl, rfl, .inr ⟨t, t', m, m', rfl, rfl, hq15, hq2, ?_, rfl⟩, ?_, ?_⟩
    · unfold okR2
      rw [hmr, hmr', show ltZ (rankM q [t.r, t'.r]) 0 = false from hrank.1]; rfl
    · intro i hi
      match i, hi with
      | 0, _ => exact hm
      | 1, _ => exact hm'
    · intro hb
      rw [hrank.2]
      have hrk := hrank.1
      have : q = 35 ∨ q = 36 := by
        simp only [bigB, Bool.or_eq_true, eqZ_eq, beq_iff_eq] at hb; omega
      rcases this with rfl | rfl
      · have hr1 : rankM 35 (Rs [t, t']) = 1 := by
          have e : rankM 35 (Rs [t, t']) = bif eqZ t.r 0 && eqZ t'.r 0 then 1 else -1 := rfl
          rw [e] at hrk ⊢
          cases hx : (eqZ t.r 0 && eqZ t'.r 0) <;> rw [hx] at hrk
          · cases hrk
          · rfl
        rw [hr1]
        exact ⟨⟨1, m.d, bot _, J m.d m'.d⟩, ⟨by show 1 ≤ 2; omega, rfl, fun _ => rfl, fun hx => by simp at hx, fun hx => by simp at hx, fun _ => rfl, rfl⟩, rfl⟩
      · have hr1 : rankM 36 (Rs [t, t']) = 2 := by
          have e : rankM 36 (Rs [t, t']) = bif eqZ t.r 1 && eqZ t'.r 1 then 2 else -1 := rfl
          rw [e] at hrk ⊢
          cases hx : (eqZ t.r 1 && eqZ t'.r 1) <;> rw [hx] at hrk
          · cases hrk
          · rfl
        rw [hr1]
        exact ⟨⟨2, J m.d m.a0, J m.d m.a0, J (J m.lens m'.lens) (J m.d m'.d)⟩, ⟨by show 2 ≤ 2; omega, rfl, fun _ => rfl, fun hx => by simp at hx, fun _ => rfl, fun hx => by simp at hx, rfl⟩, rfl⟩
  · have hq14 : q ≤ 14 := Nat.le_of_ble_eq_true h14
    obtain ⟨t, rfl⟩ : ∃ t, ts = [t] := by
      match ts, hlen' with
      | [t], _ => exact ⟨t, rfl⟩
    obtain ⟨m, hm, hmr⟩ := hmk t (by simp)
    refine ⟨q, [m], oneM q m, rfl, rfl, .inl ⟨t, m, rfl, rfl, hq1, hq14, ?_, rfl⟩, ?_, ?_⟩
    · unfold okR1
      rw [hmr, show ltZ (rankM q [t.r]) 0 = false from hrank.1]; rfl
    · intro i hi
      match i, hi with
      | 0, _ => exact hm
    · intro hb
      rw [hrank.2]
      have hrk := hrank.1
      have : q = 8 := by
        simp only [bigB, Bool.or_eq_true, eqZ_eq, beq_iff_eq] at hb; omega
      subst this
      have hr1 : rankM 8 (Rs [t]) = 1 := by
        have e : rankM 8 (Rs [t]) = bif eqZ t.r 0 then 1 else -1 := rfl
        rw [e] at hrk ⊢
        cases hx : eqZ t.r 0 <;> rw [hx] at hrk
        · cases hrk
        · rfl
      rw [hr1]
      exact ⟨⟨1, m.d, bot _, m.d⟩, ⟨by show 1 ≤ 2; omega, rfl, fun _ => rfl, fun hx => by simp at hx, fun hx => by simp at hx, fun _ => rfl, rfl⟩, rfl⟩

end
end Go.Proofs.YtblbgjfkbcdlfaaGreatDoor
/- Rules rise with the labels of operands: plain laws. Conditions: none. -/
set_option linter.unusedVariables false
set_option linter.unusedSimpArgs false
set_option linter.unusedSectionVars false
set_option maxRecDepth 100000
namespace Go.Proofs.YtblbgjfkbcdlfaaGreatDoor
open Go Iv LatT

section
variable {T : LatT}
def TM.le (m m' : TM T) : Prop := m'.r = m.r ∧ LatT.le m.a0 m'.a0 ∧ LatT.le m.a1 m'.a1 ∧ LatT.le m.d m'.d
def le4 (x y : Lab T × Lab T × Lab T × Lab T) : Prop := LatT.le x.1 y.1 ∧ LatT.le x.2.1 y.2.1 ∧ LatT.le x.2.2.1 y.2.2.1 ∧ LatT.le x.2.2.2 y.2.2.2
theorem TM.le_refl (m : TM T) : TM.le m m := ⟨rfl, LatT.le_refl _, LatT.le_refl _, LatT.le_refl _⟩
theorem lens_mono {m m' : TM T} (h : TM.le m m') : LatT.le m.lens m'.lens := J_mono h.2.1 h.2.2.1
theorem lastM_mono {m m' : TM T} (h : TM.le m m') : LatT.le (lastM m) (lastM m') := by
  unfold lastM; rw [h.1]
  cases Nat.blt m.r 2
  · exact h.2.2.1
  · exact h.2.1
theorem foldM_mono {m m' : TM T} (h : TM.le m m') : LatT.le (foldM m) (foldM m') := by
  unfold foldM; rw [h.1]
  cases Nat.blt m.r 2
  · exact h.2.1
  · exact LatT.le_refl _
theorem oneM_mono {m m' : TM T} (h : TM.le m m') (p : Nat) : le4 (oneM p m) (oneM p m') := by
  have hl := lens_mono h
  have ha := J_mono hl h.2.2.2
  have hs := J_mono h.2.2.2 (lastM_mono h)
  have hf := foldM_mono h
  have hb := LatT.le_refl (bot T)
  unfold oneM
  split <;> first | exact ⟨h.2.1, h.2.2.1, h.2.2.2, ha⟩ | exact ⟨hb, hb, hl, hb⟩ | exact ⟨hl, hb, h.2.2.2, hb⟩ | exact ⟨h.2.2.1, h.2.1, h.2.2.2, hb⟩ | exact ⟨h.2.2.2, hb, h.2.2.2, h.2.2.2⟩ | exact ⟨hf, hb, hs, ha⟩ | exact ⟨hf, hb, hs, hl⟩ | exact ⟨hf, hb, hl, hb⟩ | exact ⟨h.2.1, h.2.2.1, ha, ha⟩ | exact ⟨h.2.1, h.2.2.1, hs, hb⟩ | exact ⟨h.2.1, h.2.2.1, h.2.2.2, hb⟩
theorem ext_mono {m n m' n' : TM T} (h : TM.le m m') (h' : TM.le n n') : LatT.le (ext J m n).1 (ext J m' n').1 ∧ LatT.le (ext J m n).2 (ext J m' n').2 := by
  unfold ext; rw [h.1, h'.1]
  cases Nat.blt n.r m.r
  · cases Nat.blt m.r n.r
    · exact ⟨J_mono h.2.1 h'.2.1, J_mono h.2.2.1 h'.2.2.1⟩
    · exact ⟨h'.2.1, h'.2.2.1⟩
  · exact ⟨h.2.1, h.2.2.1⟩
theorem twoM_mono {m n m' n' : TM T} (h : TM.le m m') (h' : TM.le n n') (p : Nat) : le4 (twoM p m n) (twoM p m' n') := by
  have ha := J_mono (lens_mono h) (lens_mono h')
  have hd := J_mono h.2.2.2 h'.2.2.2
  have hall := J_mono ha hd
  have hb := LatT.le_refl (bot T)
  have hx := ext_mono h h'
  unfold twoM
  split
  · exact ⟨J_mono h.2.2.2 h'.2.1, hb, hall, hb⟩
  · exact ⟨J_mono h.2.2.2 h'.2.1, hb, hall, hb⟩
  · exact ⟨h.2.2.2, hb, hd, h.2.2.2⟩
  · exact ⟨J_mono h.2.2.2 h.2.1, J_mono h.2.2.2 h.2.1, hall, J_mono (J_mono h.2.2.2 h.2.1) h'.2.1⟩
  · exact ⟨hx.1, hx.2, hall, ha⟩
  · exact ⟨h'.2.1, h'.2.2.1, hall, J_mono h'.2.2.2 ha⟩
  · exact ⟨h.2.1, h.2.2.1, hall, hb⟩
  · exact ⟨J_mono ha h.2.2.2, hb, hall, ha⟩
  · exact ⟨hx.1, hx.2, hd, hall⟩
  · exact ⟨hx.1, hx.2, hd, hall⟩
  · exact ⟨hx.1, hx.2, hd, hall⟩
  · exact ⟨hx.1, hx.2, hd, hall⟩
  · exact ⟨hx.1, hx.2, hd, hall⟩
  refine ⟨hx.1, hx.2, hd, ?_⟩
  simp only [h.1, h'.1]
  cases eqZ (m.r : Int) (n.r : Int)
  · exact hb
  · cases ltZ 0 (m.r : Int)
    · exact hb
    · exact ha
end
end Go.Proofs.YtblbgjfkbcdlfaaGreatDoor
/- What the functions of this program come to: TaintRises says true. -/
set_option linter.unusedVariables false
set_option linter.unusedSimpArgs false
set_option linter.unusedSectionVars false
set_option maxRecDepth 100000
namespace Go.Proofs.YtblbgjfkbcdlfaaGreatDoor
open Go Iv LatT

theorem rank3 : (List.range 40).all (fun q => (lists (ar (q + 1)) [0, 1, 2]).all fun rs => isRi (rankM (q + 1) rs) || ltZ (rankM (q + 1) rs) 0) = true := by kernel_rfl
theorem fit_rank {p : Int} {ks rs : List Int} (hl : rs.length = ks.length) (hf : (FIT p ks rs).2.2 = 0) : isRi (FIT p ks rs).2.1 = true := by
  obtain ⟨hp1, hp2, hlen, hka, hra, hfit⟩ := fit_len hf
  obtain ⟨q, rfl⟩ : ∃ q : Nat, p = q := ⟨p.toNat, by omega⟩
  rw [Int.toNat_natCast] at hlen hfit
  have h := List.all_eq_true.1 rank3 (q - 1) (List.mem_range.2 (by omega))
  rw [show q - 1 + 1 = q by omega] at h
  have h := List.all_eq_true.1 h rs (rs_mem (by omega) hra)
  rw [hfit] at hf ⊢
  unfold fitM at hf ⊢
  cases h1 : kindsB q ks <;> rw [h1] at hf
  · cases hf
  · cases h2 : ltZ (rankM q rs) 0 <;> rw [h2] at hf
    · rw [h2, Bool.or_false] at h
      exact h
    · cases hf

theorem fits_big {T : LatT} {q : Nat} {ts : List TyR} {ms : List (TM T)} {res : Lab T × Lab T × Lab T × Lab T} (hf : (FIT (q : Int) (Ks ts) (Rs ts)).2.2 = 0) (hF : Fits q ts ms res) (hb : bigB (q : Int) = true) :
    ∃ m : TM T, IsTy m (FIT (q : Int) (Ks ts) (Rs ts)).2.1 (res.1.1 : Int) (res.2.1.1 : Int) (res.2.2.1.1 : Int) ∧ m.lens = J res.1 res.2.1 := by
  obtain ⟨hp1, hp2, hlen, hka, hra, hfit⟩ := fit_len hf
  rw [Int.toNat_natCast] at hlen hfit
  have hrank : ltZ (rankM q (Rs ts)) 0 = false ∧ (FIT (q : Int) (Ks ts) (Rs ts)).2.1 = rankM q (Rs ts) := by
    rw [hfit] at hf ⊢
    unfold fitM at hf ⊢
    cases h1 : kindsB q (Ks ts) <;> rw [h1] at hf
    · cases hf
    · cases h2 : ltZ (rankM q (Rs ts)) 0 <;> rw [h2] at hf
      · exact ⟨rfl, rfl⟩
      · cases hf
  rw [hrank.2]
  have hrk := hrank.1
  have hq : q = 8 ∨ q = 35 ∨ q = 36 := by
    simp only [bigB, Bool.or_eq_true, eqZ_eq, beq_iff_eq] at hb; omega
  rcases hF with ⟨t, m, rfl, rfl, hq1, hq14, hok, rfl⟩ | ⟨t, t', m, m', rfl, rfl, hq15, hq40, hok, rfl⟩
  · have : q = 8 := by omega
    subst this
    have hr1 : rankM 8 (Rs [t]) = 1 := by
      have e : rankM 8 (Rs [t]) = bif eqZ t.r 0 then 1 else -1 := rfl
      rw [e] at hrk ⊢
      cases hx : eqZ t.r 0 <;> rw [hx] at hrk
      · cases hrk
      · rfl
    rw [hr1]
    exact ⟨⟨1, m.d, bot _, m.d⟩, ⟨by show 1 ≤ 2; omega, rfl, fun _ => rfl, fun hx => by simp at hx, fun hx => by simp at hx, fun _ => rfl, rfl⟩, rfl⟩
  · have : q = 35 ∨ q = 36 := by omega
    rcases this with rfl | rfl
    · have hr1 : rankM 35 (Rs [t, t']) = 1 := by
        have e : rankM 35 (Rs [t, t']) = bif eqZ t.r 0 && eqZ t'.r 0 then 1 else -1 := rfl
        rw [e] at hrk ⊢
        cases hx : (eqZ t.r 0 && eqZ t'.r 0) <;> rw [hx] at hrk
        · cases hrk
        · rfl
      rw [hr1]
      exact ⟨⟨1, m.d, bot _, J m.d m'.d⟩, ⟨by show 1 ≤ 2; omega, rfl, fun _ => rfl, fun hx => by simp at hx, fun hx => by simp at hx, fun _ => rfl, rfl⟩, rfl⟩
    · have hr1 : rankM 36 (Rs [t, t']) = 2 := by
        have e : rankM 36 (Rs [t, t']) = bif eqZ t.r 1 && eqZ t'.r 1 then 2 else -1 := rfl
        rw [e] at hrk ⊢
        cases hx : (eqZ t.r 1 && eqZ t'.r 1) <;> rw [hx] at hrk
        · cases hrk
        · rfl
      rw [hr1]
      exact ⟨⟨2, J m.d m.a0, J m.d m.a0, J (J m.lens m'.lens) (J m.d m'.d)⟩, ⟨by show 2 ≤ 2; omega, rfl, fun _ => rfl, fun hx => by simp at hx, fun _ => rfl, fun hx => by simp at hx, rfl⟩, rfl⟩

theorem inL_lab {ss : List (List UInt8)} {us : List Nat} {hg : Good ss us} (a : Lab (latT hg)) : inL ss.length (a.1 : Int) = true := by
  have : a.1 < ss.length := a.2
  rw [inL_iff]; omega
theorem known_of {ss : List (List UInt8)} {us : List Nat} {hg : Good ss us} {m : TM (latT hg)} {r x0 x1 x2 : Int} (hm : IsTy m r x0 x1 x2) : knownB ss.length r x0 x1 x2 = true := by
  obtain ⟨h2, hr, hx0, _, hx1, _, hx2⟩ := hm
  unfold knownB
  rw [hx2, inL_lab, Bool.and_true]
  have : m.r = 0 ∨ m.r = 1 ∨ m.r = 2 := by omega
  rcases this with h | h | h
  · rw [hr, h]; rfl
  · rw [hx0 (by omega), inL_lab, hr, h]; rfl
  · rw [hx0 (by omega), hx1 (by omega), inL_lab, inL_lab]; simp

/-- A type whose labels are joined with a label. -/
noncomputable def raise {T : LatT} (m : TM T) (x : Lab T) : TM T := ⟨m.r, bif Nat.blt 0 m.r then J m.a0 x else m.a0, bif Nat.blt 1 m.r then J m.a1 x else m.a1, J m.d x⟩
theorem raise_le {T : LatT} (m : TM T) (x : Lab T) : TM.le m (raise m x) := by
  refine ⟨rfl, ?_, ?_, le_J _ _⟩
  · show LatT.le m.a0 (bif Nat.blt 0 m.r then J m.a0 x else m.a0)
    cases Nat.blt 0 m.r
    · exact LatT.le_refl _
    · exact le_J _ _
  · show LatT.le m.a1 (bif Nat.blt 1 m.r then J m.a1 x else m.a1)
    cases Nat.blt 1 m.r
    · exact LatT.le_refl _
    · exact le_J _ _

section
variable {ss : List (List UInt8)} {us : List Nat} {d e : D} (h : Strs ss d) (hu : U8s us e) (hg : Good ss us)
include h hu hg

theorem c12t (n : Nat) {a b : Lab (latT hg)} (hl : LatT.le a b) : cl (n + 7) 12 [.agg [d, e], .int .i64 (a.1 : Int), .int .i64 (b.1 : Int)] = some (.bool true) := by
  have := c12 h hu hg n a b
  rw [show (uM us a.1).testBit b.1 = true from hl] at this
  exact this

/-- within, of labels that are. -/
theorem c11 (n : Nat) (k k' r' : Int) {r : Int} (hr : isRi r = true) {x0 x1 x2 y0 y1 y2 : Lab (latT hg)} (h0 : LatT.le x0 y0) (h1 : LatT.le x1 y1) (h2 : LatT.le x2 y2) :
    cl (n + 8) 11 [.agg [d, e], ty5 k r (x0.1 : Int) (x1.1 : Int) (x2.1 : Int), ty5 k' r' (y0.1 : Int) (y1.1 : Int) (y2.1 : Int)] = some (.bool true) := by
  refine in11 d e _ _ _ _ _ _ _ _ _ _ h.fz hu.fz rfl ?_
  unfold S11
  have l00 : ltZ 0 (0 : Int) = false := rfl
  have l01 : ltZ 0 (1 : Int) = true := rfl
  have l02 : ltZ 0 (2 : Int) = true := rfl
  have l11 : ltZ 1 (1 : Int) = false := rfl
  have l12 : ltZ 1 (2 : Int) = true := rfl
  have l22 : ltZ 2 (2 : Int) = false := rfl
  rcases isRi_cases hr with rfl | rfl | rfl
  · refine loop_done ?_
    simp only [l00, cond_false, c12t h hu hg n h2, clT_some, q0_bool, bd_some_eq, rt_some_eq]
  · refine (loop_step (w := (((), (), (), (1 : Int), ()), ((k', r', (y0.1 : Int), (y1.1 : Int), (y2.1 : Int), ()), (k, (1 : Int), (x0.1 : Int), (x1.1 : Int), (x2.1 : Int), ()), (d, e, ()), ()))) ?_).trans (loop_done ?_)
    · simp only [l01, cond_true, I0, bd_some_eq, T0, c12t h hu hg n h0, clT_some, q0_bool, Bool.not_true, cond_false, W1]
    · simp only [l11, cond_false, c12t h hu hg n h2, clT_some, q0_bool, bd_some_eq, rt_some_eq]
  · refine (loop_step (w := (((), (), (), (1 : Int), ()), ((k', r', (y0.1 : Int), (y1.1 : Int), (y2.1 : Int), ()), (k, (2 : Int), (x0.1 : Int), (x1.1 : Int), (x2.1 : Int), ()), (d, e, ()), ()))) ?_).trans ((loop_step (w := (((), (), (), (2 : Int), ()), ((k', r', (y0.1 : Int), (y1.1 : Int), (y2.1 : Int), ()), (k, (2 : Int), (x0.1 : Int), (x1.1 : Int), (x2.1 : Int), ()), (d, e, ()), ()))) ?_).trans (loop_done ?_))
    · simp only [l02, cond_true, I0, bd_some_eq, T0, c12t h hu hg n h0, clT_some, q0_bool, Bool.not_true, cond_false, W1]
    · simp only [l12, cond_true, I1, bd_some_eq, T1, c12t h hu hg n h1, clT_some, q0_bool, Bool.not_true, cond_false, W2]
    · simp only [l22, cond_false, c12t h hu hg n h2, clT_some, q0_bool, bd_some_eq, rt_some_eq]

theorem H0 (k r a b c x : Int) {ρ : Type} (K : (Int × Int × Int × Int × Int × Unit) → Option ρ) : bd (Sh.gds [(.int .i64), (.int .i64), (.int .i64), (.int .i64), (.int .i64)] (setQ [.int .i64 k, .int .i64 r, .int .i64 a, .int .i64 b, .int .i64 c] (2 + 0 * 1) [.int .i64 x])) K = K (k, r, x, b, c, ()) := rfl
theorem H1 (k r a b c x : Int) {ρ : Type} (K : (Int × Int × Int × Int × Int × Unit) → Option ρ) : bd (Sh.gds [(.int .i64), (.int .i64), (.int .i64), (.int .i64), (.int .i64)] (setQ [.int .i64 k, .int .i64 r, .int .i64 a, .int .i64 b, .int .i64 c] (2 + 1 * 1) [.int .i64 x])) K = K (k, r, a, x, c, ()) := rfl

/-- raised -/
theorem c10 (n : Nat) (k : Int) {r x0 x1 x2 : Int} {m : TM (latT hg)} (hm : IsTy m r x0 x1 x2) (x : Lab (latT hg)) :
    ∃ y0 y1 y2 : Int, cl (n + 7) 10 [.agg [d, e], ty5 k r x0 x1 x2, .int .i64 (x.1 : Int)] = some (.tup [ty5 k r y0 y1 y2, .int .i64 0]) ∧ IsTy (raise m x) r y0 y1 y2 := by
  obtain ⟨mr, a0, a1, md⟩ := m
  have h2 := hm.r2
  obtain ⟨_, hr', hx0, hb0, hx1, hb1, rfl⟩ := hm
  simp only at h2 hr' hx0 hb0 hx1 hb1
  have l00 : ltZ 0 (0 : Int) = false := rfl
  have l01 : ltZ 0 (1 : Int) = true := rfl
  have l02 : ltZ 0 (2 : Int) = true := rfl
  have l11 : ltZ 1 (1 : Int) = false := rfl
  have l12 : ltZ 1 (2 : Int) = true := rfl
  have l22 : ltZ 2 (2 : Int) = false := rfl
  have hz : eqZ 0 0 = true := rfl
  have i20 : inR (2 + 0 * 1) 1 5 = some () := rfl
  have i21 : inR (2 + 1 * 1) 1 5 = some () := rfl
  have hc : mr = 0 ∨ mr = 1 ∨ mr = 2 := by omega
  rcases hc with rfl | rfl | rfl
  · obtain rfl : r = 0 := hr'
    obtain rfl := hb0 (by omega)
    obtain rfl := hb1 (by omega)
    refine ⟨x0, x1, ((J md x).1 : Int), in10 d e _ _ _ _ _ _ h.fz hu.fz rfl ?_, ⟨h2, rfl, fun hx => by simp [raise] at hx, fun _ => rfl, fun hx => by simp [raise] at hx, fun _ => rfl, rfl⟩⟩
    unfold S10
    refine loop_done ?_
    simp only [l00, cond_false, c33 h hu hg n, clT_some, q7_e2, bd_some_eq, rt_some_eq, bj_inr]; rfl
  · obtain rfl : r = 1 := hr'
    obtain rfl := hx0 (by omega)
    obtain rfl := hb1 (by omega)
    refine ⟨((J a0 x).1 : Int), x1, ((J md x).1 : Int), in10 d e _ _ _ _ _ _ h.fz hu.fz rfl ?_, ⟨h2, rfl, fun _ => rfl, fun hx => by simp [raise] at hx, fun hx => by simp [raise] at hx, fun _ => rfl, rfl⟩⟩
    unfold S10
    refine (loop_step (w := (((x.1 : Int), (), (), (), (1 : Int), ()), (((0 : Int), (0 : Int), (0 : Int), (0 : Int), (0 : Int), ()), (k, (1 : Int), ((J a0 x).1 : Int), x1, (md.1 : Int), ()), (d, e, ()), ()))) ?_).trans (loop_done ?_)
    · simp only [l01, l02, cond_true, cond_false, bj_inl, I0, bd_some_eq, T0, c33 h hu hg n, clT_some, q7_e2, hz, Bool.not_true, i20, H0 h hu hg, W1]
    · simp only [l11, cond_false, c33 h hu hg n, clT_some, q7_e2, bd_some_eq, rt_some_eq, bj_inr]; rfl
  · obtain rfl : r = 2 := hr'
    obtain rfl := hx0 (by omega)
    obtain rfl := hx1 (by omega)
    refine ⟨((J a0 x).1 : Int), ((J a1 x).1 : Int), ((J md x).1 : Int), in10 d e _ _ _ _ _ _ h.fz hu.fz rfl ?_, ⟨h2, rfl, fun _ => rfl, fun hx => by simp [raise] at hx, fun _ => rfl, fun hx => by simp [raise] at hx, rfl⟩⟩
    unfold S10
    refine (loop_step (w := (((x.1 : Int), (), (), (), (1 : Int), ()), (((0 : Int), (0 : Int), (0 : Int), (0 : Int), (0 : Int), ()), (k, (2 : Int), ((J a0 x).1 : Int), (a1.1 : Int), (md.1 : Int), ()), (d, e, ()), ()))) ?_).trans ((loop_step (w := (((x.1 : Int), (), (), (), (2 : Int), ()), (((0 : Int), (0 : Int), (0 : Int), (0 : Int), (0 : Int), ()), (k, (2 : Int), ((J a0 x).1 : Int), ((J a1 x).1 : Int), (md.1 : Int), ()), (d, e, ()), ()))) ?_).trans (loop_done ?_))
    · simp only [l01, l02, cond_true, cond_false, bj_inl, I0, bd_some_eq, T0, c33 h hu hg n, clT_some, q7_e2, hz, Bool.not_true, i20, H0 h hu hg, W1]
    · simp only [l12, cond_true, cond_false, bj_inl, I1, bd_some_eq, T1, c33 h hu hg n, clT_some, q7_e2, hz, Bool.not_true, i21, H1 h hu hg, W2]
    · simp only [l22, cond_false, c33 h hu hg n, clT_some, q7_e2, bd_some_eq, rt_some_eq, bj_inr]; rfl
end
end Go.Proofs.YtblbgjfkbcdlfaaGreatDoor
/- What the functions of this program come to: TaintRises says true. -/
set_option linter.unusedVariables false
set_option linter.unusedSimpArgs false
set_option linter.unusedSectionVars false
set_option maxRecDepth 100000
namespace Go.Proofs.YtblbgjfkbcdlfaaGreatDoor
open Go Iv LatT

theorem tys_sl {ts : List TyR} {a : D} (ha : Tys ts a) (hne : ts ≠ []) : ∃ ex, a = .sl ex ts.length (ts.map TyR.row).flatten := by
  rcases ha.2 with ⟨_, h⟩ | ⟨ex, h⟩
  · exact (hne (by simpa using h)).elim
  · exact ⟨ex, by rw [h, List.length_map]⟩
theorem tys_mk (ex : Bool) (ts : List TyR) : Tys ts (.sl ex ts.length (ts.map TyR.row).flatten) := ⟨fun r hr => by
  simp only [List.mem_map] at hr; obtain ⟨t, _, rfl⟩ := hr; rfl, .inr ⟨ex, by rw [List.length_map]⟩⟩

theorem costM_mono {T : LatT} {p : Int} {ms ms' : List (TM T)} {res res' : Lab T × Lab T × Lab T × Lab T} (hr : le4 res res')
    (hm : (∃ m m', ms = [m] ∧ ms' = [m'] ∧ TM.le m m') ∨ (∃ m n m' n', ms = [m, n] ∧ ms' = [m', n'] ∧ TM.le m m' ∧ TM.le n n')) : LatT.le (costM p ms res) (costM p ms' res') := by
  have hf : LatT.le (foldJ (bot T) (ms.map TM.lens)) (foldJ (bot T) (ms'.map TM.lens)) := by
    rcases hm with ⟨m, m', rfl, rfl, h⟩ | ⟨m, n, m', n', rfl, rfl, h, h'⟩
    · simp only [foldJ, List.map_cons, List.map_nil, List.foldl_cons, List.foldl_nil, bot_J]; exact lens_mono h
    · simp only [foldJ, List.map_cons, List.map_nil, List.foldl_cons, List.foldl_nil, bot_J]; exact J_mono (lens_mono h) (lens_mono h')
  unfold costM
  cases bigB p
  · exact hf
  · exact J_mono hf (J_mono hr.1 hr.2.1)

section
variable {ss : List (List UInt8)} {us : List Nat} {d e : D} (h : Strs ss d) (hu : U8s us e)
include h hu

/-- taint.Prim of operands of which one is raised. -/
theorem prim_up (n : Nat) (hg : Good ss us) {q : Nat} {ts ts' : List TyR} {a : D} (ha : Tys ts' a) {ms' : List (TM (latT hg))} {res' : Lab (latT hg) × Lab (latT hg) × Lab (latT hg) × Lab (latT hg)}
    (hK : Ks ts' = Ks ts) (hR : Rs ts' = Rs ts) (hf : (FIT (q : Int) (Ks ts) (Rs ts)).2.2 = 0) (hF : Fits q ts' ms' res') (hml : ms'.length = ts'.length)
    (hty : ∀ i (hi : i < ts'.length), IsTy (ms'[i]'(by omega)) ts'[i].r ts'[i].x0 ts'[i].x1 ts'[i].x2) :
    cl (n + 12) 8 [.agg [d, e], .int .i64 (q : Int), a] = some (ruleD (FIT (q : Int) (Ks ts) (Rs ts)).1 (FIT (q : Int) (Ks ts) (Rs ts)).2.1 res' (costM (q : Int) ms' res')) := by
  rw [← hK, ← hR] at hf ⊢
  refine p8d h hu hg n ha hf ?_ hF hml hty (fun hb => fits_big hf hF hb)
  rw [List.all_eq_true]
  intro t ht
  obtain ⟨i, hi, rfl⟩ := List.getElem_of_mem ht
  exact known_of (hty i hi)

/-- taint.Prim: an error, or a rule. -/
theorem prim_cases (n : Nat) (p : Int) {ts : List TyR} {a : D} (ha : Tys ts a) (hlen : ts.length < 100) :
    (∃ er, cl (n + 12) 8 [.agg [d, e], .int .i64 p, a] = some (badR er) ∧ er ≠ 0) ∨
    ∃ (hg : Good ss us) (q : Nat) (ms : List (TM (latT hg))) (res : Lab (latT hg) × Lab (latT hg) × Lab (latT hg) × Lab (latT hg)) (hml : ms.length = ts.length), p = (q : Int) ∧ (FIT p (Ks ts) (Rs ts)).2.2 = 0 ∧ Fits q ts ms res ∧
      (∀ i (hi : i < ts.length), IsTy (ms[i]'(by omega)) ts[i].r ts[i].x0 ts[i].x1 ts[i].x2) ∧
      cl (n + 12) 8 [.agg [d, e], .int .i64 p, a] = some (ruleD (FIT p (Ks ts) (Rs ts)).1 (FIT p (Ks ts) (Rs ts)).2.1 res (costM p ms res)) := by
  rcases CHK_cases ss us with ⟨hg, _⟩ | ⟨x, er, hc, he⟩
  · by_cases hf : (FIT p (Ks ts) (Rs ts)).2.2 = 0
    · cases hk : ts.all (knT ss.length)
      · exact .inl ⟨7, p8c h hu hg (n + 5) ha hlen hf hk, by omega⟩
      · obtain ⟨q, ms, res, hml, rfl, hF, hty, hbig⟩ := fit_data h hu hg hf hk
        exact .inr ⟨hg, q, ms, res, hml, rfl, hf, hF, hty, p8d h hu hg n ha hf hk hF hml hty hbig⟩
    · exact .inl ⟨_, p8b h hu hg (n + 5) ha hlen hf, hf⟩
  · refine .inl ⟨er, p8a h hu (n + 5) p ha hc he, fun hx => ?_⟩
    rw [hx] at he; cases he

omit h hu in
theorem q3_tup (k r a b c e : Int) : q3 (.tup [.agg [.int .i64 k, .int .i64 r, .int .i64 a, .int .i64 b, .int .i64 c], .int .i64 e]) = some ((k, r, a, b, c, ()), e, ()) := rfl

theorem c4 (n : Nat) {ts : List TyR} {a : D} (ha : Tys ts a) {x y z : Nat} (hx : x < 256) (hy : y < 256) (hz : z < 256) : cl (n + 13) 4 [.agg [d, e], a, .agg [.int .u8 (x : Int), .int .u8 (y : Int), .int .u8 (z : Int)]] = some (.bool true) := by
  refine in4 d e a _ _ _ h.fz hu.fz ha.fz rfl ?_
  unfold S4
  have h7 : cl (n + 12) 7 [] = some (.bool true) := evK_kn kn7
  have rem : ∀ (u w : Nat), 0 < w → remD (u : Int) (w : Int) = some ((u % w : Nat) : Int) := fun u w hw => by
    simp only [remD]; rw [if_neg (by omega), ← Int.ofNat_tmod]
  have wr : ∀ u : Nat, u < 256 → wrapD .i64 (u : Int) = (u : Int) := fun u hu => wrap_i64 (by omega) (by omega)
  simp only [c6 h hu (n + 10), h7, clT_some, q0_bool, bd_some_eq, ha.len, h.len]
  cases farB ss us
  · simp only [cond_false]
    rw [show eqZ (ts.length : Int) 0 = Nat.beq ts.length 0 from eqZ_nat _ 0, show ltZ 2 (ts.length : Int) = !(Nat.ble ts.length 2) from ltZ_le 2 _, show eqZ (ss.length : Int) 0 = Nat.beq ss.length 0 from eqZ_nat _ 0]
    cases h0 : Nat.beq ts.length 0
    · cases h2 : Nat.ble ts.length 2
      · rfl
      · cases hn : Nat.beq ss.length 0
        · have h0 : ts.length ≠ 0 := fun hx => by rw [hx] at h0; cases h0
          have h2 := Nat.le_of_ble_eq_true h2
          have hn : ss.length ≠ 0 := fun hx => by rw [hx] at hn; cases hn
          simp only [Bool.not_true, cond_false, bj_inl, wr x hx, wr y hy, wr z hz]
          rw [show remD (x : Int) 40 = some ((x % 40 : Nat) : Int) from rem x 40 (by omega)]
          simp only [bd_some_eq]
          rw [inc_i64 (show x % 40 < 9223372036854775807 by omega)]
          have hlen : ts.length < 100 := by omega
          rcases prim_cases h hu n ((x % 40 + 1 : Nat) : Int) ha hlen with ⟨er, h8, her⟩ | ⟨hg, q, ms, res, hml, hq, hf, hF, hms, h8⟩
          · have he : eqZ er 0 = false := by rw [eqZ_eq, beq_eq_false_iff_ne]; exact her
            simp only [h8, clT_some, q1_bad, bd_some_eq, he, Bool.not_false, cond_true, h7, q0_bool]
          · have hq : q = x % 40 + 1 := by omega
            subst hq
            have hz0 : eqZ 0 0 = true := rfl
            have hne : ts ≠ [] := fun hx => h0 (by rw [hx]; rfl)
            obtain ⟨ex, rfl⟩ := tys_sl ha hne
            have hrk := fit_rank (show (Rs ts).length = (Ks ts).length by simp [Ks, Rs]) hf
            have lz : z % ss.length < (latT hg).n := Nat.mod_lt _ (by omega)
            have hsl : slF 5 (.sl ex ts.length (ts.map TyR.row).flatten) = some ((ts.map TyR.row).flatten, ts.length) := by
              have hfl : (ts.map TyR.row).flatten.length = ts.length * 5 := by
                have := flatten_length (rows := ts.map TyR.row) (w := 5) ha.1
                rw [this, List.length_map]
              simp only [slF]
              rw [hfl, Nat.ble_eq_true_of_le (Nat.le_refl _), List.take_of_length_le (by rw [hfl]; exact Nat.le_refl _)]; rfl
            rcases hF with ⟨t, m, rfl, rfl, hq1, hq14, hok, rfl⟩ | ⟨t, t', m, m', rfl, rfl, hq15, hq40, hok, rfl⟩
            · have h1 : y % [t].length = 0 := Nat.mod_one y
              obtain ⟨y0, y1, y2, h10, hty⟩ := c10 h hu hg (n + 5) t.k (m := m) (show IsTy m t.r t.x0 t.x1 t.x2 from hms 0 (by simp)) ⟨z % ss.length, lz⟩
              simp only [ty5] at h10
              have hb : Nat.ble (0 + [t].length) 0 = false := rfl
              have hap : apM (0 + [t].length) 40 0 (0 * 5) 0 = some () := rfl
              have hid : idxD (0 + [t].length) (.int .i64 ((0 : Nat) : Int)) = some 0 := rfl
              have htk : ∀ {ρ : Type} (K : _ → Option ρ), tkT q2 ((List.drop 0 []).take (0 * 5) ++ ([t].map TyR.row).flatten) (0 + 0 * 5) (some 5) K = K (t.k, t.r, t.x0, t.x1, t.x2, ()) := fun K => rfl
              have hin : inR (0 + 0 * 5) 5 (List.length ((List.drop 0 []).take (0 * 5) ++ ([t].map TyR.row).flatten)) = some () := rfl
              have hfr : frSl false 0 5 (0 + [t].length) (setQ ((List.drop 0 []).take (0 * 5) ++ ([t].map TyR.row).flatten) (0 + 0 * 5) [(.int .i64 t.k), (.int .i64 t.r), (.int .i64 y0), (.int .i64 y1), (.int .i64 y2)]) = some (.sl false [TyR.mk t.k t.r y0 y1 y2].length ([TyR.mk t.k t.r y0 y1 y2].map TyR.row).flatten) := rfl
              have h8' := prim_up h hu n hg (ts := [t]) (tys_mk false [TyR.mk t.k t.r y0 y1 y2]) (ms' := [raise m ⟨z % ss.length, lz⟩]) (res' := oneM (x % 40 + 1) (raise m ⟨z % ss.length, lz⟩)) rfl rfl hf
                (.inl ⟨_, _, rfl, rfl, hq1, hq14, hok, rfl⟩) rfl (fun i hi => by
                  match i, hi with
                  | 0, _ => exact hty)
              have hle := raise_le m ⟨z % ss.length, lz⟩
              have hr4 := oneM_mono hle (x % 40 + 1)
              have hcm := costM_mono (p := ((x % 40 + 1 : Nat) : Int)) hr4 (.inl ⟨_, _, rfl, rfl, hle⟩)
              have h11 := c11 h hu hg (n + 4) (FIT ((x % 40 + 1 : Nat) : Int) (Ks [t]) (Rs [t])).1 (FIT ((x % 40 + 1 : Nat) : Int) (Ks [t]) (Rs [t])).1 (FIT ((x % 40 + 1 : Nat) : Int) (Ks [t]) (Rs [t])).2.1 hrk hr4.1 hr4.2.1 hr4.2.2.1
              simp only [ty5] at h11
              simp only [h8, ha.len, h.len, clT_some, q1_rule, bd_some_eq, hz0, Bool.not_true, cond_false, rem y [t].length (by simp), h1, hsl, hb, hap, hid, htk, rem z ss.length (by omega), h10, q3_tup, hin, hfr, h8', cond_true, eqZ_refl, h11, q0_bool, c12t h hu hg (n + 5) hr4.2.2.2, c12t h hu hg (n + 5) hcm, h7]
            · have h1 : y % [t, t'].length = 0 ∨ y % [t, t'].length = 1 := by show y % 2 = 0 ∨ y % 2 = 1; omega
              rcases h1 with h1 | h1
              · obtain ⟨y0, y1, y2, h10, hty⟩ := c10 h hu hg (n + 5) t.k (m := m) (show IsTy m t.r t.x0 t.x1 t.x2 from hms 0 (by simp)) ⟨z % ss.length, lz⟩
                simp only [ty5] at h10
                have hb : Nat.ble (0 + [t, t'].length) 0 = false := rfl
                have hap : apM (0 + [t, t'].length) 40 0 (0 * 5) 0 = some () := rfl
                have hid : idxD (0 + [t, t'].length) (.int .i64 ((0 : Nat) : Int)) = some 0 := rfl
                have htk : ∀ {ρ : Type} (K : _ → Option ρ), tkT q2 ((List.drop 0 []).take (0 * 5) ++ ([t, t'].map TyR.row).flatten) (0 + 0 * 5) (some 5) K = K (t.k, t.r, t.x0, t.x1, t.x2, ()) := fun K => rfl
                have hin : inR (0 + 0 * 5) 5 (List.length ((List.drop 0 []).take (0 * 5) ++ ([t, t'].map TyR.row).flatten)) = some () := rfl
                have hfr : frSl false 0 5 (0 + [t, t'].length) (setQ ((List.drop 0 []).take (0 * 5) ++ ([t, t'].map TyR.row).flatten) (0 + 0 * 5) [(.int .i64 t.k), (.int .i64 t.r), (.int .i64 y0), (.int .i64 y1), (.int .i64 y2)]) = some (.sl false [TyR.mk t.k t.r y0 y1 y2, t'].length ([TyR.mk t.k t.r y0 y1 y2, t'].map TyR.row).flatten) := rfl
                have h8' := prim_up h hu n hg (ts := [t, t']) (tys_mk false [TyR.mk t.k t.r y0 y1 y2, t']) (ms' := [raise m ⟨z % ss.length, lz⟩, m']) (res' := twoM (x % 40 + 1) (raise m ⟨z % ss.length, lz⟩) m') rfl rfl hf
                  (.inr ⟨_, _, _, _, rfl, rfl, hq15, hq40, hok, rfl⟩) rfl (fun i hi => by
                    match i, hi with
                    | 0, _ => exact hty
                    | 1, _ => exact hms 1 (by simp))
                have hr4 := twoM_mono (raise_le m ⟨z % ss.length, lz⟩) (TM.le_refl m') (x % 40 + 1)
                have hcm := costM_mono (p := ((x % 40 + 1 : Nat) : Int)) hr4 (.inr ⟨_, _, _, _, rfl, rfl, raise_le m ⟨z % ss.length, lz⟩, TM.le_refl m'⟩)
                have h11 := c11 h hu hg (n + 4) (FIT ((x % 40 + 1 : Nat) : Int) (Ks [t, t']) (Rs [t, t'])).1 (FIT ((x % 40 + 1 : Nat) : Int) (Ks [t, t']) (Rs [t, t'])).1 (FIT ((x % 40 + 1 : Nat) : Int) (Ks [t, t']) (Rs [t, t'])).2.1 hrk hr4.1 hr4.2.1 hr4.2.2.1
                simp only [ty5] at h11
                simp only [h8, ha.len, h.len, clT_some, q1_rule, bd_some_eq, hz0, Bool.not_true, cond_false, rem y [t, t'].length (by simp), h1, hsl, hb, hap, hid, htk, rem z ss.length (by omega), h10, q3_tup, hin, hfr, h8', cond_true, eqZ_refl, h11, q0_bool, c12t h hu hg (n + 5) hr4.2.2.2, c12t h hu hg (n + 5) hcm, h7]
              · obtain ⟨y0, y1, y2, h10, hty⟩ := c10 h hu hg (n + 5) t'.k (m := m') (show IsTy m' t'.r t'.x0 t'.x1 t'.x2 from hms 1 (by simp)) ⟨z % ss.length, lz⟩
                simp only [ty5] at h10
                have hb : Nat.ble (0 + [t, t'].length) 0 = false := rfl
                have hap : apM (0 + [t, t'].length) 40 0 (0 * 5) 0 = some () := rfl
                have hid : idxD (0 + [t, t'].length) (.int .i64 ((1 : Nat) : Int)) = some 1 := rfl
                have htk : ∀ {ρ : Type} (K : _ → Option ρ), tkT q2 ((List.drop 0 []).take (0 * 5) ++ ([t, t'].map TyR.row).flatten) (0 + 1 * 5) (some 5) K = K (t'.k, t'.r, t'.x0, t'.x1, t'.x2, ()) := fun K => rfl
                have hin : inR (0 + 1 * 5) 5 (List.length ((List.drop 0 []).take (0 * 5) ++ ([t, t'].map TyR.row).flatten)) = some () := rfl
                have hfr : frSl false 0 5 (0 + [t, t'].length) (setQ ((List.drop 0 []).take (0 * 5) ++ ([t, t'].map TyR.row).flatten) (0 + 1 * 5) [(.int .i64 t'.k), (.int .i64 t'.r), (.int .i64 y0), (.int .i64 y1), (.int .i64 y2)]) = some (.sl false [t, TyR.mk t'.k t'.r y0 y1 y2].length ([t, TyR.mk t'.k t'.r y0 y1 y2].map TyR.row).flatten) := rfl
                have h8' := prim_up h hu n hg (ts := [t, t']) (tys_mk false [t, TyR.mk t'.k t'.r y0 y1 y2]) (ms' := [m, raise m' ⟨z % ss.length, lz⟩]) (res' := twoM (x % 40 + 1) m (raise m' ⟨z % ss.length, lz⟩)) rfl rfl hf
                  (.inr ⟨_, _, _, _, rfl, rfl, hq15, hq40, hok, rfl⟩) rfl (fun i hi => by
                    match i, hi with
                    | 0, _ => exact hms 0 (by simp)
                    | 1, _ => exact hty)
                have hr4 := twoM_mono (TM.le_refl m) (raise_le m' ⟨z % ss.length, lz⟩) (x % 40 + 1)
                have hcm := costM_mono (p := ((x % 40 + 1 : Nat) : Int)) hr4 (.inr ⟨_, _, _, _, rfl, rfl, TM.le_refl m, raise_le m' ⟨z % ss.length, lz⟩⟩)
                have h11 := c11 h hu hg (n + 4) (FIT ((x % 40 + 1 : Nat) : Int) (Ks [t, t']) (Rs [t, t'])).1 (FIT ((x % 40 + 1 : Nat) : Int) (Ks [t, t']) (Rs [t, t'])).1 (FIT ((x % 40 + 1 : Nat) : Int) (Ks [t, t']) (Rs [t, t'])).2.1 hrk hr4.1 hr4.2.1 hr4.2.2.1
                simp only [ty5] at h11
                simp only [h8, ha.len, h.len, clT_some, q1_rule, bd_some_eq, hz0, Bool.not_true, cond_false, rem y [t, t'].length (by simp), h1, hsl, hb, hap, hid, htk, rem z ss.length (by omega), h10, q3_tup, hin, hfr, h8', cond_true, eqZ_refl, h11, q0_bool, c12t h hu hg (n + 5) hr4.2.2.2, c12t h hu hg (n + 5) hcm, h7]
        · rfl
    · rfl
  · rfl
end
end Go.Proofs.YtblbgjfkbcdlfaaGreatDoor
