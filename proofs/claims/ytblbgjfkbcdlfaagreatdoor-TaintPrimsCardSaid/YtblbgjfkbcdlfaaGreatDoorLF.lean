/- What the functions of this program come to: both rules of primitives say the same; the parts. -/
import Derived.Test.YtblbgjfkbcdlfaaGreatDoorLE
set_option linter.unusedVariables false
set_option linter.unusedSimpArgs false
set_option linter.unusedSectionVars false
set_option maxRecDepth 100000
namespace Go.Proofs.YtblbgjfkbcdlfaaGreatDoor
open Go Iv LatT

/-- A type as it is in memory. -/
structure TyR where
  k : Int
  r : Int
  x0 : Int
  x1 : Int
  x2 : Int
def TyR.row (t : TyR) : List D := [.int .i64 t.k, .int .i64 t.r, .int .i64 t.x0, .int .i64 t.x1, .int .i64 t.x2]
def Tys (ts : List TyR) (d : D) : Prop := IsSl 5 (ts.map TyR.row) d
@[simp] theorem q2_ag (k r a b c : Int) : q2 (.agg [.int .i64 k, .int .i64 r, .int .i64 a, .int .i64 b, .int .i64 c]) = some (k, r, a, b, c, ()) := rfl
theorem Tys.len {ts : List TyR} {d : D} (h : Tys ts d) {ρ : Type} (K : Nat → Option ρ) : bd (lenD false d) K = K ts.length := by
  rw [IsSl.len h, List.length_map]
theorem Tys.ix {ts : List TyR} {d : D} (h : Tys ts d) {i : Nat} (hi : i < ts.length) {ρ : Type} (K : _ → Option ρ) : ixT q2 5 d (.int .i64 (i : Int)) (some 5) K = K (ts[i].k, ts[i].r, ts[i].x0, ts[i].x1, ts[i].x2, ()) := by
  rw [ixT_row h (r := ts[i].row) (by omega) (by simp [hi]) K]
  simp only [TyR.row, q2_ag, bd_some_eq]
theorem Tys.fz {ts : List TyR} {d : D} (h : Tys ts d) : Fz d := ⟨IsSl.notAg h, sl_dps h fun r hr => by
  simp only [List.mem_map] at hr; obtain ⟨t, _, rfl⟩ := hr; rfl⟩
theorem Tys.el {ts : List TyR} {d : D} (h : Tys ts d) {i : Nat} (hi : i < ts.length) : ∃ cs, elF 5 d (.int .i64 (i : Int)) = some (cs, i * 5) ∧ cs[i * 5 + 0]? = some (.int .i64 ts[i].k) ∧ cs[i * 5 + 1]? = some (.int .i64 ts[i].r) := by
  have hr : (ts.map TyR.row)[((i : Nat) : Int).toNat]? = some ts[i].row := by simp [hi]
  refine ⟨_, elF_at h (by omega) hr, ?_, ?_⟩
  · have h1 := (flatten_at h.1 hr).1
    rw [Int.toNat_natCast] at h1
    have : ((((ts.map TyR.row).flatten.drop (i * 5)).take 5))[0]? = some (.int .i64 ts[i].k) := by rw [h1]; rfl
    rw [List.getElem?_take] at this
    simpa using this
  · have h1 := (flatten_at h.1 hr).1
    rw [Int.toNat_natCast] at h1
    have : ((((ts.map TyR.row).flatten.drop (i * 5)).take 5))[1]? = some (.int .i64 ts[i].r) := by rw [h1]; rfl
    rw [List.getElem?_take] at this
    simpa using this

def inL (n : Nat) (x : Int) : Bool := leZ 0 x && ltZ x (n : Int)
/-- Are all labels of a type labels? -/
def knownB (n : Nat) (r x0 x1 x2 : Int) : Bool := (eqZ r 0 || (inL n x0 && (eqZ r 1 || inL n x1))) && inL n x2
theorem inL_iff {n : Nat} {x : Int} : inL n x = true ↔ 0 ≤ x ∧ x < n := by
  simp only [inL, Bool.and_eq_true, leZ_eq, ltZ_eq, decide_eq_true_eq]

section
variable {ss : List (List UInt8)} {us : List Nat} {d e : D} (h : Strs ss d) (hu : U8s us e)
include h hu

theorem c52 (n : Nat) (x : Int) : cl (n + 1) 52 [.int .i64 x, .iptr [d, e] 0] = some (.bool (inL ss.length x)) := by
  refine in52 _ _ (ptr_fz h hu) rfl ?_
  unfold S52 inL
  have k1 : ∀ {ρ : Type} (K : _ → Option ρ), tkT q19 [d, e] (0 + 0) none K = K d := fun K => by show bd (q19 d) K = _; rw [q19_fz h.fz]; rfl
  cases leZ 0 x
  · rfl
  · simp only [cond_true, ptF, bd_some_eq, k1, h.len, Bool.true_and]

theorem c21 (n : Nat) (k x0 x1 x2 : Int) {r : Int} (hr : r = 0 ∨ r = 1 ∨ r = 2) : cl (n + 2) 21 [.agg [d, e], ty5 k r x0 x1 x2] = some (.bool (knownB ss.length r x0 x1 x2)) := by
  refine in21 d e _ _ _ _ _ h.fz hu.fz rfl ?_
  unfold S21
  rcases hr with rfl | rfl | rfl
  · have e1 : bndO 2 2 (some (.int .i64 (0 : Int))) = some 0 := rfl
    have l0 : ltZ 0 ((0 : Nat) : Int) = false := rfl
    simp only [e1, bd_some_eq]
    refine loop_done ?_
    simp only [l0, cond_false, c52 h hu n, clT_some, q0_bool, bd_some_eq, rt_some_eq]; rfl
  · have e1 : bndO 2 2 (some (.int .i64 (1 : Int))) = some 1 := rfl
    have l0 : ltZ 0 ((1 : Nat) : Int) = true := rfl
    have l1 : ltZ 1 ((1 : Nat) : Int) = false := rfl
    have i0 : idxD 1 (.int .i64 (0 : Int)) = some 0 := rfl
    simp only [e1, bd_some_eq]
    cases h0 : inL ss.length x0
    · refine loop_done ?_
      simp only [l0, i0, cond_true, T0, c52 h hu n, clT_some, q0_bool, bd_some_eq, h0, Bool.not_false, rt_some_eq, knownB]; rfl
    · refine (loop_step (w := (((), ((), (), ()), (1, 2), ((1 : Nat) : Int), (1 : Int), ()), ((k, (1 : Int), x0, x1, x2, ()), (d, e, ()), ()))) ?_).trans (loop_done ?_)
      · simp only [l0, i0, cond_true, T0, c52 h hu n, clT_some, q0_bool, bd_some_eq, h0, Bool.not_true, cond_false, W1]
      · simp only [l1, cond_false, c52 h hu n, clT_some, q0_bool, bd_some_eq, rt_some_eq, knownB, h0]; rfl
  · have e1 : bndO 2 2 (some (.int .i64 (2 : Int))) = some 2 := rfl
    have l0 : ltZ 0 ((2 : Nat) : Int) = true := rfl
    have l1 : ltZ 1 ((2 : Nat) : Int) = true := rfl
    have l2 : ltZ 2 ((2 : Nat) : Int) = false := rfl
    simp only [e1, bd_some_eq]
    cases h0 : inL ss.length x0
    · refine loop_done ?_
      simp only [l0, I0, cond_true, T0, c52 h hu n, clT_some, q0_bool, bd_some_eq, h0, Bool.not_false, rt_some_eq, knownB]; rfl
    · refine (loop_step (w := (((), ((), (), ()), (2, 2), ((2 : Nat) : Int), (1 : Int), ()), ((k, (2 : Int), x0, x1, x2, ()), (d, e, ()), ()))) ?_).trans ?_
      · simp only [l0, I0, cond_true, T0, c52 h hu n, clT_some, q0_bool, bd_some_eq, h0, Bool.not_true, cond_false, W1]
      · cases h1 : inL ss.length x1
        · refine loop_done ?_
          simp only [l1, I1, cond_true, T1, c52 h hu n, clT_some, q0_bool, bd_some_eq, h1, h0, Bool.not_false, rt_some_eq, knownB]; rfl
        · refine (loop_step (w := (((), ((), (), ()), (2, 2), ((2 : Nat) : Int), (2 : Int), ()), ((k, (2 : Int), x0, x1, x2, ()), (d, e, ()), ()))) ?_).trans (loop_done ?_)
          · simp only [l1, I1, cond_true, T1, c52 h hu n, clT_some, q0_bool, bd_some_eq, h1, Bool.not_true, cond_false, W2]
          · simp only [l2, cond_false, c52 h hu n, clT_some, q0_bool, bd_some_eq, rt_some_eq, knownB, h0, h1]; rfl

theorem c28 (n : Nat) (k x0 x1 x2 : Int) {r : Int} (hr : r = 0 ∨ r = 1 ∨ r = 2) : cl (n + 1) 28 [.agg [d, e], ty5 k r x0 x1 x2] = some (.bool (knownB ss.length r x0 x1 x2)) := by
  refine in28 d e _ _ _ _ _ h.fz hu.fz rfl ?_
  unfold S28
  have hd : ∀ x, ltZ x 0 = true → inL ss.length x = false := fun x hx => by
    rw [← Bool.not_eq_true, inL_iff]; rw [ltZ_eq, decide_eq_true_eq] at hx; omega
  have hd2 : ∀ x, ltZ x 0 = false → leZ (ss.length : Int) x = !(inL ss.length x) := fun x hx => by
    rw [Bool.eq_iff_iff, Bool.not_eq_true', ← Bool.not_eq_true, inL_iff, leZ_eq, decide_eq_true_eq]; rw [ltZ_eq, decide_eq_false_iff_not] at hx; omega
  have hlast : ∀ {α : Type}, (rt (α := α) (bif leZ 0 x2 then bd (lenD false d) fun v8 => some (D.bool (ltZ x2 (v8 : Int))) else some (D.bool false))) = some (.inr (.bool (inL ss.length x2))) := fun {α} => by
    unfold inL
    cases leZ 0 x2
    · rfl
    · simp only [cond_true, h.len, Bool.true_and]; rfl
  have l00 : ltZ 0 (0 : Int) = false := rfl
  have l01 : ltZ 0 (1 : Int) = true := rfl
  have l02 : ltZ 0 (2 : Int) = true := rfl
  have l11 : ltZ 1 (1 : Int) = false := rfl
  have l12 : ltZ 1 (2 : Int) = true := rfl
  have l22 : ltZ 2 (2 : Int) = false := rfl
  have one : ∀ {α : Type} (x : Int) (z : α), inL ss.length x = true → (bif ltZ x 0 then rt (some (D.bool false)) else bif leZ (ss.length : Int) x then rt (some (D.bool false)) else some (Sum.inl z)) = some (.inl z) := fun x z hx => by
    cases hl : ltZ x 0
    · rw [hd2 x hl, hx]; rfl
    · rw [hd x hl] at hx; cases hx
  have bad : ∀ {α : Type} (x : Int) (z : α), inL ss.length x = false → (bif ltZ x 0 then rt (some (D.bool false)) else bif leZ (ss.length : Int) x then rt (some (D.bool false)) else some (Sum.inl z)) = some (.inr (.bool false)) := fun x z hx => by
    cases hl : ltZ x 0
    · rw [hd2 x hl, hx]; rfl
    · rfl
  rcases hr with rfl | rfl | rfl
  · refine loop_done ?_
    simp only [l00, cond_false]
    exact hlast
  · cases h0 : inL ss.length x0
    · refine loop_done ?_
      simp only [l01, I0, cond_true, T0, bd_some_eq, h.len, bad x0 _ h0, knownB, h0]; rfl
    · refine (loop_step (w := (((), (), (1 : Int), ()), ((k, (1 : Int), x0, x1, x2, ()), (d, e, ()), ()))) ?_).trans (loop_done ?_)
      · simp only [l01, I0, cond_true, T0, bd_some_eq, h.len, one x0 _ h0, W1]
      · simp only [l11, cond_false, knownB, h0]
        exact hlast
  · cases h0 : inL ss.length x0
    · refine loop_done ?_
      simp only [l02, I0, cond_true, T0, bd_some_eq, h.len, bad x0 _ h0, knownB, h0]; rfl
    · refine (loop_step (w := (((), (), (1 : Int), ()), ((k, (2 : Int), x0, x1, x2, ()), (d, e, ()), ()))) ?_).trans ?_
      · simp only [l02, I0, cond_true, T0, bd_some_eq, h.len, one x0 _ h0, W1]
      · cases h1 : inL ss.length x1
        · refine loop_done ?_
          simp only [l12, I1, cond_true, T1, bd_some_eq, h.len, bad x1 _ h1, knownB, h0, h1]; rfl
        · refine (loop_step (w := (((), (), (2 : Int), ()), ((k, (2 : Int), x0, x1, x2, ()), (d, e, ()), ()))) ?_).trans (loop_done ?_)
          · simp only [l12, I1, cond_true, T1, bd_some_eq, h.len, one x1 _ h1, W2]
          · simp only [l22, cond_false, knownB, h0, h1]
            exact hlast

theorem c22 (n : Nat) (hg : Good ss us) : cl (n + 9) 22 [.agg [d, e]] = some (.agg [d, e, .int .i64 ((bot (latT hg)).1 : Int)]) := by
  refine in22 d e h.fz hu.fz (by simp only [D.dp, D.dps, h.dp, hu.dp, Bool.and_self]) ?_
  unfold S22
  simp only [c53 h hu hg n, clT_some, q7_e2, bd_some_eq]
end

/-- A type whose labels are labels is one of the model. -/
theorem ty_of {ss : List (List UInt8)} {us : List Nat} (hg : Good ss us) {r x0 x1 x2 : Int} (hr : r = 0 ∨ r = 1 ∨ r = 2) (hk : knownB ss.length r x0 x1 x2 = true) : ∃ m : TM (latT hg), IsTy m r x0 x1 x2 ∧ (m.r : Int) = r := by
  unfold knownB at hk
  simp only [Bool.and_eq_true] at hk
  have h2 := inL_iff.1 hk.2
  have l2 : x2.toNat < (latT hg).n := by show x2.toNat < ss.length; omega
  rcases hr with rfl | rfl | rfl
  · exact ⟨⟨0, bot _, bot _, ⟨x2.toNat, l2⟩⟩, ⟨by show 0 ≤ 2; omega, rfl, fun h => by simp at h, fun _ => rfl, fun h => by simp at h, fun _ => rfl, by simp; omega⟩, rfl⟩
  · have h0 : inL ss.length x0 = true := by have := hk.1; simpa [eqZ] using this
    have h0 := inL_iff.1 h0
    have l0 : x0.toNat < (latT hg).n := by show x0.toNat < ss.length; omega
    exact ⟨⟨1, ⟨x0.toNat, l0⟩, bot _, ⟨x2.toNat, l2⟩⟩, ⟨by show 1 ≤ 2; omega, rfl, fun _ => by simp; omega, fun h => by simp at h, fun h => by simp at h, fun _ => rfl, by simp; omega⟩, rfl⟩
  · have h01 : inL ss.length x0 = true ∧ inL ss.length x1 = true := by have := hk.1; simpa [eqZ] using this
    have h0 := inL_iff.1 h01.1
    have h1 := inL_iff.1 h01.2
    have l0 : x0.toNat < (latT hg).n := by show x0.toNat < ss.length; omega
    have l1 : x1.toNat < (latT hg).n := by show x1.toNat < ss.length; omega
    exact ⟨⟨2, ⟨x0.toNat, l0⟩, ⟨x1.toNat, l1⟩, ⟨x2.toNat, l2⟩⟩, ⟨by show 2 ≤ 2; omega, rfl, fun _ => by simp; omega, fun h => by simp at h, fun _ => by simp; omega, fun h => by simp at h, by simp; omega⟩, rfl⟩
end Go.Proofs.YtblbgjfkbcdlfaaGreatDoor
/- What the functions of this program come to: both rules of primitives say the same. -/
set_option linter.unusedVariables false
set_option linter.unusedSimpArgs false
set_option linter.unusedSectionVars false
set_option maxRecDepth 100000
namespace Go.Proofs.YtblbgjfkbcdlfaaGreatDoor
open Go Iv LatT

def Z7 : List D := [(.int .i64 0), (.int .i64 0), (.int .i64 0), (.int .i64 0), (.int .i64 0), (.int .i64 0), (.int .i64 0)]
def badR (e : Int) : D := .tup [.agg Z7, .int .i64 e]
@[simp] theorem q5_e3 (t : Int × Int × Int) : q5 (e3 t) = some (t.1, t.2.1, t.2.2, ()) := rfl

theorem room_ok {i : Nat} (h : i < 100) : room (i + 1) 8 = true := by
  unfold room
  simp; omega
theorem apG_ok {i : Nat} (h : i < 100) {l : List Int} (hl : l.length = i) : apG true (i * 1) (l.map (D.int .i64)).length (i + 1) 8 = some () := by
  simp only [apG, Nat.mul_one, List.length_map, hl, Nat.beq_refl, room_ok h, Bool.and_self, cond_true]
theorem frSl_sl (l : List Int) : frSl false 0 1 l.length (l.map (D.int .i64)) = some (slI l) := by
  simp only [frSl, List.length_map]
  rw [Nat.ble_eq_true_of_le (by omega)]
  simp only [List.drop_zero, Nat.mul_one, cond_true, slI]
  rw [List.take_of_length_le (by simp)]

def Ks (ts : List TyR) : List Int := ts.map (·.k)
def Rs (ts : List TyR) : List Int := ts.map (·.r)

theorem map_take_succ {α : Type} (f : α → Int) {ts : List α} {i : Nat} (hi : i < ts.length) : ((ts.take i).map f).map (D.int .i64) ++ [D.int .i64 (f ts[i])] = ((ts.take (i + 1)).map f).map (D.int .i64) := by
  rw [List.take_succ_eq_append_getElem hi, List.map_append, List.map_append]; rfl

section
variable {ss : List (List UInt8)} {us : List Nat} {d e : D} (h : Strs ss d) (hu : U8s us e)
include h hu

/-- taint.Prim: the lattice is none. -/
theorem p8a (n : Nat) (p : Int) {ts : List TyR} {a : D} (ha : Tys ts a) {x er : Int} (hc : CHK ss us = e2 x er) (he : eqZ er 0 = false) : cl (n + 7) 8 [.agg [d, e], .int .i64 p, a] = some (badR er) := by
  refine in8 d e p a h.fz hu.fz ha.fz rfl ?_
  unfold S8
  simp only [c19 n h hu, hc, clT_some, q7_e2, bd_some_eq, he, Bool.not_false, cond_true]; rfl
theorem p9a (n : Nat) (p : Int) {ts : List TyR} {a : D} (ha : Tys ts a) {x er : Int} (hc : CHK ss us = e2 x er) (he : eqZ er 0 = false) : cl (n + 5) 9 [.agg [d, e], .int .i64 p, a] = some (badR er) := by
  refine in9 d e p a h.fz hu.fz ha.fz rfl ?_
  unfold S9
  simp only [c27 n h hu, hc, clT_some, q7_e2, bd_some_eq, he, Bool.not_false, cond_true]; rfl

end

def knT (n : Nat) (t : TyR) : Bool := knownB n t.r t.x0 t.x1 t.x2
theorem first_badT {α : Type} {p : α → Bool} : ∀ {l : List α}, l.all p = false → ∃ m, ∃ h : m < l.length, p l[m] = false ∧ ∀ j (hj : j < m), p (l[j]'(by omega)) = true
  | [], h => by simp at h
  | a :: l, h => by
    cases ha : p a
    · exact ⟨0, by simp, ha, fun j hj => by omega⟩
    · simp only [List.all_cons, ha, Bool.true_and] at h
      obtain ⟨m, hm, h1, h2⟩ := first_badT h
      refine ⟨m + 1, by simp; omega, by simpa using h1, fun j hj => ?_⟩
      cases j with
      | zero => simpa using ha
      | succ j => simpa using h2 j (by omega)

theorem fit_len {p : Int} {ks rs : List Int} (h : (FIT p ks rs).2.2 = 0) : 1 ≤ p ∧ p ≤ 40 ∧ ks.length = ar p.toNat ∧ ks.all isKi = true ∧ rs.all isRi = true ∧ FIT p ks rs = fitM p.toNat ks rs := by
  unfold FIT at h ⊢
  cases h1 : (ltZ p 1 || ltZ 40 p) <;> rw [h1] at h
  · cases h2 : Nat.beq ks.length (ar p.toNat) <;> rw [h2] at h
    · cases h
    · cases h3 : ks.all isKi <;> rw [h3] at h
      · cases h
      · cases h4 : rs.all isRi <;> rw [h4] at h
        · cases h5 : kindsB p.toNat ks <;> rw [h5] at h <;> cases h
        · rw [ltZ_eq, ltZ_eq, Bool.or_eq_false_iff, decide_eq_false_iff_not, decide_eq_false_iff_not] at h1
          exact ⟨by omega, by omega, Nat.eq_of_beq_eq_true h2, rfl, rfl, rfl⟩
  · cases h

theorem isRi_cases {r : Int} (h : isRi r = true) : r = 0 ∨ r = 1 ∨ r = 2 := by
  simpa only [isRi, Bool.or_eq_true, eqZ_eq, beq_iff_eq] using h

theorem IZ7 : inR 0 7 Z7.length = some () := rfl
theorem TZ7 : takeAt (setQ Z7 0 [(.int .i64 0), (.int .i64 0), (.int .i64 0), (.int .i64 0), (.int .i64 0), (.int .i64 0), (.int .i64 0)]) 0 (some 7) = some (.agg Z7) := rfl
def R7 (k r a b c d e : Int) : List D := [.int .i64 k, .int .i64 r, .int .i64 a, .int .i64 b, .int .i64 c, .int .i64 d, .int .i64 e]
theorem R7_6 (k r a b c d e : Int) {ρ : Type} (K : Int → Option ρ) : tkT q4 (R7 k r a b c d e) 6 none K = K e := rfl
theorem R7_set (k r a b c d e x : Int) : setQ (R7 k r a b c d e) 6 [.int .i64 x] = R7 k r a b c d x := rfl
theorem R7_len (k r a b c d e : Int) : inR 6 1 (R7 k r a b c d e).length = some () := rfl
theorem R7_ty (k r a b c d e : Int) {ρ : Type} (K : _ → Option ρ) : tkT q2 (R7 k r a b c d e) 0 (some 5) K = K (k, r, a, b, c, ()) := rfl
theorem R7_all (k r a b c d e : Int) {ρ : Type} (K : _ → Option ρ) : tkT q10 (R7 k r a b c d e) 0 (some 7) K = K (k, r, a, b, c, d, e, ()) := rfl
theorem R7_put (k r a b c d e : Int) : takeAt (setQ Z7 0 [.int .i64 k, .int .i64 r, .int .i64 a, .int .i64 b, .int .i64 c, .int .i64 d, .int .i64 e]) 0 (some 7) = some (.agg (R7 k r a b c d e)) := rfl

section
variable {ss : List (List UInt8)} {us : List Nat} {d e : D} (h : Strs ss d) (hu : U8s us e) (hg : Good ss us)
include h hu hg

theorem q8_ag (b : Int) : q8 (.agg [d, e, .int .i64 b]) = some (d, e, b, ()) := gd_agg (gds_cons (gd_fz h.fz.1) (gds_cons (gd_fz hu.fz.1) (gds_cons rfl gds_nil)))

theorem p8b (n : Nat) {p : Int} {ts : List TyR} {a : D} (ha : Tys ts a) (hlen : ts.length < 100) (hf : (FIT p (Ks ts) (Rs ts)).2.2 ≠ 0) : cl (n + 7) 8 [.agg [d, e], .int .i64 p, a] = some (badR (FIT p (Ks ts) (Rs ts)).2.2) := by
  refine in8 d e p a h.fz hu.fz ha.fz rfl ?_
  unfold S8
  have hz : eqZ 0 0 = true := rfl
  simp only [c19 n h hu, chk_good hg, clT_some, q7_e2, bd_some_eq, hz, Bool.not_true, cond_false, ha.len]
  refine loop_fold (st := fun i => ((p, a, (), (), i, i, a, (ts.length : Int), (i : Int), ()), ((Rs (ts.take i)).map (D.int .i64), (Ks (ts.take i)).map (D.int .i64), Z7, (d, e, ()), ()))) (n := ts.length) (fun i hi => ?_) ?_
  · have l1 : (Ks (ts.take i)).length = i := by simp [Ks]; omega
    have l2 : (Rs (ts.take i)).length = i := by simp [Rs]; omega
    simp only [ltZ_lt hi, cond_true, ha.ix hi, apG_ok (show i < 100 by omega) l1, apG_ok (show i < 100 by omega) l2, bd_some_eq, inc_i64 (show i < 9223372036854775807 by omega)]
    simp only [Ks, Rs, map_take_succ (fun t : TyR => t.k) hi, map_take_succ (fun t : TyR => t.r) hi]
  · have f1 : frSl false 0 1 ts.length ((Ks ts).map (D.int .i64)) = some (slI (Ks ts)) := by have := frSl_sl (Ks ts); rwa [show (Ks ts).length = ts.length by simp [Ks]] at this
    have f2 : frSl false 0 1 ts.length ((Rs ts).map (D.int .i64)) = some (slI (Rs ts)) := by have := frSl_sl (Rs ts); rwa [show (Rs ts).length = ts.length by simp [Rs]] at this
    have he : eqZ (FIT p (Ks ts) (Rs ts)).2.2 0 = false := by rw [eqZ_eq, beq_eq_false_iff_ne]; exact hf
    simp only [ltZ_ge (Nat.le_refl _), cond_false, List.take_length, f1, f2, bd_some_eq, c20 (n + 3) p (show (Rs ts).length = (Ks ts).length by simp [Ks, Rs]) (show (Ks ts).length < 100 by simp [Ks]; omega), clT_some, q5_e3, he, Bool.not_false, cond_true, IZ7, TZ7]; rfl

/-- Up to the second loop of taint.Prim. -/
theorem p8c (n : Nat) {p : Int} {ts : List TyR} {a : D} (ha : Tys ts a) (hlen : ts.length < 100) (hf : (FIT p (Ks ts) (Rs ts)).2.2 = 0) (hk : ts.all (knT ss.length) = false) : cl (n + 7) 8 [.agg [d, e], .int .i64 p, a] = some (badR 7) := by
  refine in8 d e p a h.fz hu.fz ha.fz rfl ?_
  unfold S8
  have hz : eqZ 0 0 = true := rfl
  simp only [c19 n h hu, chk_good hg, clT_some, q7_e2, bd_some_eq, hz, Bool.not_true, cond_false, ha.len]
  refine loop_fold (st := fun i => ((p, a, (), (), i, i, a, (ts.length : Int), (i : Int), ()), ((Rs (ts.take i)).map (D.int .i64), (Ks (ts.take i)).map (D.int .i64), Z7, (d, e, ()), ()))) (n := ts.length) (fun i hi => ?_) ?_
  · have l1 : (Ks (ts.take i)).length = i := by simp [Ks]; omega
    have l2 : (Rs (ts.take i)).length = i := by simp [Rs]; omega
    simp only [ltZ_lt hi, cond_true, ha.ix hi, apG_ok (show i < 100 by omega) l1, apG_ok (show i < 100 by omega) l2, bd_some_eq, inc_i64 (show i < 9223372036854775807 by omega)]
    simp only [Ks, Rs, map_take_succ (fun t : TyR => t.k) hi, map_take_succ (fun t : TyR => t.r) hi]
  · have f1 : frSl false 0 1 ts.length ((Ks ts).map (D.int .i64)) = some (slI (Ks ts)) := by have := frSl_sl (Ks ts); rwa [show (Ks ts).length = ts.length by simp [Ks]] at this
    have f2 : frSl false 0 1 ts.length ((Rs ts).map (D.int .i64)) = some (slI (Rs ts)) := by have := frSl_sl (Rs ts); rwa [show (Rs ts).length = ts.length by simp [Rs]] at this
    have hr := (fit_len hf).2.2.2.2.1
    have hri : ∀ i (hi : i < ts.length), ts[i].r = 0 ∨ ts[i].r = 1 ∨ ts[i].r = 2 := fun i hi => isRi_cases (List.all_eq_true.1 hr _ (by simp only [Rs, List.mem_map]; exact ⟨ts[i], List.getElem_mem hi, rfl⟩))
    simp only [ltZ_ge (Nat.le_refl _), cond_false, List.take_length, f1, f2, bd_some_eq, c20 (n + 3) p (show (Rs ts).length = (Ks ts).length by simp [Ks, Rs]) (show (Ks ts).length < 100 by simp [Ks]; omega), clT_some, q5_e3, hf, hz, Bool.not_true, ha.len]
    obtain ⟨m, hm, h1, h2⟩ := first_badT hk
    refine congrArg (rt (α := _)) (loop_exit (st := fun i => ((p, a, (), (), (FIT p (Ks ts) (Rs ts)).1, (FIT p (Ks ts) (Rs ts)).2.1, a, (ts.length : Int), (i : Int), ()), (Z7, (d, e, ()), ()))) (r := badR 7) (m := m) (fun i hi => ?_) ?_)
    · have hi' : i < ts.length := by omega
      have h21 := c21 h hu (n + 4) ts[i].k ts[i].x0 ts[i].x1 ts[i].x2 (hri i hi')
      rw [show knownB ss.length ts[i].r ts[i].x0 ts[i].x1 ts[i].x2 = true from h2 i hi] at h21
      simp only [ty5] at h21
      simp only [ltZ_lt hi', cond_true, ha.ix hi', h21, clT_some, q0_bool, bd_some_eq, Bool.not_true, cond_false, inc_i64 (show i < 9223372036854775807 by omega)]
    · have h21 := c21 h hu (n + 4) ts[m].k ts[m].x0 ts[m].x1 ts[m].x2 (hri m hm)
      rw [show knownB ss.length ts[m].r ts[m].x0 ts[m].x1 ts[m].x2 = false from h1] at h21
      simp only [ty5] at h21
      simp only [ltZ_lt hm, cond_true, ha.ix hm, h21, clT_some, q0_bool, bd_some_eq, Bool.not_false, IZ7, TZ7, rt_some_eq]; rfl
end
end Go.Proofs.YtblbgjfkbcdlfaaGreatDoor
/- What the functions of this program come to: taint.Prim where all is well. -/
set_option linter.unusedVariables false
set_option linter.unusedSimpArgs false
set_option linter.unusedSectionVars false
set_option maxRecDepth 100000
namespace Go.Proofs.YtblbgjfkbcdlfaaGreatDoor
open Go Iv LatT

theorem bj_of {α ρ : Type} {o : Option (α ⊕ ρ)} {a : α} {k : α → Option ρ} {r : Option ρ} (h1 : o = some (.inl a)) (h2 : k a = r) : bj o k = r := by rw [h1]; exact h2
def bigB (p : Int) : Bool := eqZ p 8 || (eqZ p 35 || eqZ p 36)
/-- What a rule is in memory. -/
def ruleD {T : LatT} (kind rank : Int) (res : Lab T × Lab T × Lab T × Lab T) (cost : Lab T) : D :=
  .tup [.agg (R7 kind rank (res.1.1 : Int) (res.2.1.1 : Int) (res.2.2.1.1 : Int) (res.2.2.2.1 : Int) (cost.1 : Int)), .int .i64 0]
noncomputable def costM {T : LatT} (p : Int) (ms : List (TM T)) (res : Lab T × Lab T × Lab T × Lab T) : Lab T :=
  bif bigB p then J (foldJ (bot T) (ms.map TM.lens)) (J res.1 res.2.1) else foldJ (bot T) (ms.map TM.lens)

/-- Operands that are well, with what the rule says. -/
def Fits {T : LatT} (q : Nat) (ts : List TyR) (ms : List (TM T)) (res : Lab T × Lab T × Lab T × Lab T) : Prop :=
  (∃ t m, ts = [t] ∧ ms = [m] ∧ 1 ≤ q ∧ q ≤ 14 ∧ okR1 q m.r = true ∧ res = oneM q m) ∨
  (∃ t t' m m', ts = [t, t'] ∧ ms = [m, m'] ∧ 15 ≤ q ∧ q ≤ 40 ∧ okR2 q m.r m'.r = true ∧ res = twoM q m m')

theorem Tys.ix0 {ts : List TyR} {d : D} (h : Tys ts d) (hi : 0 < ts.length) {ρ : Type} (K : _ → Option ρ) : ixT q2 5 d (.int .i64 0) (some 5) K = K (ts[0].k, ts[0].r, ts[0].x0, ts[0].x1, ts[0].x2, ()) := h.ix (i := 0) hi K
theorem Tys.ix1 {ts : List TyR} {d : D} (h : Tys ts d) (hi : 1 < ts.length) {ρ : Type} (K : _ → Option ρ) : ixT q2 5 d (.int .i64 1) (some 5) K = K (ts[1].k, ts[1].r, ts[1].x0, ts[1].x1, ts[1].x2, ()) := h.ix (i := 1) hi K

section
variable {ss : List (List UInt8)} {us : List Nat} {d e : D} (h : Strs ss d) (hu : U8s us e) (hg : Good ss us)
include h hu hg

theorem p8d (n : Nat) {q : Nat} {ts : List TyR} {a : D} (ha : Tys ts a) {ms : List (TM (latT hg))} {res : Lab (latT hg) × Lab (latT hg) × Lab (latT hg) × Lab (latT hg)}
    (hf : (FIT (q : Int) (Ks ts) (Rs ts)).2.2 = 0) (hk : ts.all (knT ss.length) = true) (hF : Fits q ts ms res) (hml : ms.length = ts.length)
    (hty : ∀ i (hi : i < ts.length), IsTy (ms[i]'(by omega)) ts[i].r ts[i].x0 ts[i].x1 ts[i].x2)
    (hbig : bigB (q : Int) = true → ∃ m : TM (latT hg), IsTy m (FIT (q : Int) (Ks ts) (Rs ts)).2.1 (res.1.1 : Int) (res.2.1.1 : Int) (res.2.2.1.1 : Int) ∧ m.lens = J res.1 res.2.1) :
    cl (n + 12) 8 [.agg [d, e], .int .i64 (q : Int), a] = some (ruleD (FIT (q : Int) (Ks ts) (Rs ts)).1 (FIT (q : Int) (Ks ts) (Rs ts)).2.1 res (costM (q : Int) ms res)) := by
  have hlen : ts.length < 100 := by rcases hF with ⟨t, m, rfl, _⟩ | ⟨t, t', m, m', rfl, _⟩ <;> simp
  refine in8 d e (q : Int) a h.fz hu.fz ha.fz rfl ?_
  unfold S8
  have hz : eqZ 0 0 = true := rfl
  simp only [c19 (n + 5) h hu, chk_good hg, clT_some, q7_e2, bd_some_eq, hz, Bool.not_true, cond_false, ha.len]
  refine loop_fold (st := fun i => (((q : Int), a, (), (), i, i, a, (ts.length : Int), (i : Int), ()), ((Rs (ts.take i)).map (D.int .i64), (Ks (ts.take i)).map (D.int .i64), Z7, (d, e, ()), ()))) (n := ts.length) (fun i hi => ?_) ?_
  · have l1 : (Ks (ts.take i)).length = i := by simp [Ks]; omega
    have l2 : (Rs (ts.take i)).length = i := by simp [Rs]; omega
    simp only [ltZ_lt hi, cond_true, ha.ix hi, apG_ok (show i < 100 by omega) l1, apG_ok (show i < 100 by omega) l2, bd_some_eq, inc_i64 (show i < 9223372036854775807 by omega)]
    simp only [Ks, Rs, map_take_succ (fun t : TyR => t.k) hi, map_take_succ (fun t : TyR => t.r) hi]
  · have f1 : frSl false 0 1 ts.length ((Ks ts).map (D.int .i64)) = some (slI (Ks ts)) := by have := frSl_sl (Ks ts); rwa [show (Ks ts).length = ts.length by simp [Ks]] at this
    have f2 : frSl false 0 1 ts.length ((Rs ts).map (D.int .i64)) = some (slI (Rs ts)) := by have := frSl_sl (Rs ts); rwa [show (Rs ts).length = ts.length by simp [Rs]] at this
    have hr := (fit_len hf).2.2.2.2.1
    have hri : ∀ i (hi : i < ts.length), ts[i].r = 0 ∨ ts[i].r = 1 ∨ ts[i].r = 2 := fun i hi => isRi_cases (List.all_eq_true.1 hr _ (by simp only [Rs, List.mem_map]; exact ⟨ts[i], List.getElem_mem hi, rfl⟩))
    simp only [ltZ_ge (Nat.le_refl _), cond_false, List.take_length, f1, f2, bd_some_eq, c20 (n + 8) (q : Int) (show (Rs ts).length = (Ks ts).length by simp [Ks, Rs]) (show (Ks ts).length < 100 by simp [Ks]; omega), clT_some, q5_e3, hf, hz, Bool.not_true, ha.len]
    refine congrArg (rt (α := _)) (loop_fold (st := fun i => (((q : Int), a, (), (), (FIT (q : Int) (Ks ts) (Rs ts)).1, (FIT (q : Int) (Ks ts) (Rs ts)).2.1, a, (ts.length : Int), (i : Int), ()), (Z7, (d, e, ()), ()))) (n := ts.length) (fun i hi => ?_) ?_)
    · have h21 := c21 h hu (n + 9) ts[i].k ts[i].x0 ts[i].x1 ts[i].x2 (hri i hi)
      rw [show knownB ss.length ts[i].r ts[i].x0 ts[i].x1 ts[i].x2 = true from List.all_eq_true.1 hk _ (List.getElem_mem hi)] at h21
      simp only [ty5] at h21
      simp only [ltZ_lt hi, cond_true, ha.ix hi, h21, clT_some, q0_bool, bd_some_eq, Bool.not_true, cond_false, inc_i64 (show i < 9223372036854775807 by omega)]
    · simp only [ltZ_ge (Nat.le_refl _), cond_false, c22 h hu (n + 2) hg, clT_some, q8_ag h hu hg, bd_some_eq]
      refine congrArg (rt (α := _)) (bj_of (r := some (ruleD (FIT (q : Int) (Ks ts) (Rs ts)).1 (FIT (q : Int) (Ks ts) (Rs ts)).2.1 res (costM (q : Int) ms res))) (a := (((q : Int), a, (), (), (), ()), (R7 (FIT (q : Int) (Ks ts) (Rs ts)).1 (FIT (q : Int) (Ks ts) (Rs ts)).2.1 (res.1.1 : Int) (res.2.1.1 : Int) (res.2.2.1.1 : Int) (res.2.2.2.1 : Int) ((bot (latT hg)).1 : Int), (d, e, ((bot (latT hg)).1 : Int), ()), Z7, (d, e, ()), ()))) ?_ ?_)
      · rcases hF with ⟨t, m, rfl, rfl, hq1, hq14, hok, rfl⟩ | ⟨t, t', m, m', rfl, rfl, hq15, hq40, hok, rfl⟩
        · have hm := hty 0 (by simp)
          have h23 := c23 h hu hg n hq1 hq14 (k := t.k) hm hok
          simp only [ty5, List.getElem_cons_zero] at h23
          have hl1 : eqZ (([t].length : Nat) : Int) 1 = true := rfl
          simp only [ha.len, hl1, cond_true, ha.ix0 (by simp), List.getElem_cons_zero, h23, clT_some, q9_enc4, bd_some_eq]; rfl
        · have hm := hty 0 (by simp)
          have hm' := hty 1 (by simp)
          have h24 := c24 h hu hg n hq15 hq40 (k := t.k) (k' := t'.k) hm hm' hok
          simp only [ty5, List.getElem_cons_zero, List.getElem_cons_succ] at h24
          have hl1 : eqZ (([t, t'].length : Nat) : Int) 1 = false := rfl
          simp only [ha.len, hl1, cond_false, ha.ix0 (by simp), ha.ix1 (by simp), List.getElem_cons_zero, List.getElem_cons_succ, h24, clT_some, q9_enc4, bd_some_eq]; rfl
      · simp only [bj_inl, ha.len]
        refine loop_fold (st := fun i => (((q : Int), (), (), (), a, (ts.length : Int), (i : Int), ()), (R7 (FIT (q : Int) (Ks ts) (Rs ts)).1 (FIT (q : Int) (Ks ts) (Rs ts)).2.1 (res.1.1 : Int) (res.2.1.1 : Int) (res.2.2.1.1 : Int) (res.2.2.2.1 : Int) ((foldJ (bot (latT hg)) ((ms.take i).map TM.lens)).1 : Int), (d, e, ((bot (latT hg)).1 : Int), ()), Z7, ()))) (n := ts.length) (fun i hi => ?_) ?_
        · have h26 := c26 h hu hg (n + 1) (k := ts[i].k) (hty i hi)
          simp only [ty5] at h26
          have hi' : i < ms.length := by omega
          simp only [ltZ_lt hi, cond_true, ha.ix hi, R7_6, h26, clT_some, q4_int, bd_some_eq, j25_2 h hu hg (n + 2), bot_J, R7_len, R7_set, inc_i64 (show i < 9223372036854775807 by omega)]
          rw [List.take_succ_eq_append_getElem hi', List.map_append, foldJ, foldJ, List.foldl_append]; rfl
        · have htk : ms.take ts.length = ms := by rw [← hml, List.take_length]
          simp only [ltZ_ge (Nat.le_refl _), cond_false, htk]
          have fin : ∀ x : Lab (latT hg), (bd (inR 0 7 (List.length Z7)) fun _ => bd (takeAt (setQ Z7 0 [(.int .i64 (FIT (q : Int) (Ks ts) (Rs ts)).1), (.int .i64 (FIT (q : Int) (Ks ts) (Rs ts)).2.1), (.int .i64 (res.1.1 : Int)), (.int .i64 (res.2.1.1 : Int)), (.int .i64 (res.2.2.1.1 : Int)), (.int .i64 (res.2.2.2.1 : Int)), (.int .i64 (x.1 : Int))]) 0 (some 7)) fun v => some (.tup [v, .int .i64 0])) = some (ruleD (FIT (q : Int) (Ks ts) (Rs ts)).1 (FIT (q : Int) (Ks ts) (Rs ts)).2.1 res x) := fun x => rfl
          have small : bigB (q : Int) = false → (bd (inR 0 7 (List.length Z7)) fun _ => bd (takeAt (setQ Z7 0 [(.int .i64 (FIT (q : Int) (Ks ts) (Rs ts)).1), (.int .i64 (FIT (q : Int) (Ks ts) (Rs ts)).2.1), (.int .i64 (res.1.1 : Int)), (.int .i64 (res.2.1.1 : Int)), (.int .i64 (res.2.2.1.1 : Int)), (.int .i64 (res.2.2.2.1 : Int)), (.int .i64 ((foldJ (bot (latT hg)) (ms.map TM.lens)).1 : Int))]) 0 (some 7)) fun v => some (.tup [v, .int .i64 0])) = some (ruleD (FIT (q : Int) (Ks ts) (Rs ts)).1 (FIT (q : Int) (Ks ts) (Rs ts)).2.1 res (costM (q : Int) ms res)) := fun hb => by
            rw [fin]; simp only [costM, hb, cond_false]
          cases hb : bigB (q : Int)
          · have hs := small hb
            simp only [bigB, Bool.or_eq_false_iff] at hb
            simp only [hb.1, hb.2.1, hb.2.2, cond_false, bj_inl, R7_all, hs]; rfl
          · obtain ⟨m, hm, hml2⟩ := hbig hb
            have h26 := c26 h hu hg (n + 1) (k := (FIT (q : Int) (Ks ts) (Rs ts)).1) hm
            simp only [ty5] at h26
            have big : (bd (inR 0 7 (List.length Z7)) fun _ => bd (takeAt (setQ Z7 0 [(.int .i64 (FIT (q : Int) (Ks ts) (Rs ts)).1), (.int .i64 (FIT (q : Int) (Ks ts) (Rs ts)).2.1), (.int .i64 (res.1.1 : Int)), (.int .i64 (res.2.1.1 : Int)), (.int .i64 (res.2.2.1.1 : Int)), (.int .i64 (res.2.2.2.1 : Int)), (.int .i64 ((J (foldJ (bot (latT hg)) (ms.map TM.lens)) m.lens).1 : Int))]) 0 (some 7)) fun v => some (.tup [v, .int .i64 0])) = some (ruleD (FIT (q : Int) (Ks ts) (Rs ts)).1 (FIT (q : Int) (Ks ts) (Rs ts)).2.1 res (costM (q : Int) ms res)) := by
              rw [fin, hml2]; simp only [costM, hb, cond_true]
            simp only [bigB] at hb
            cases h8 : eqZ (q : Int) 8
            · cases h35 : eqZ (q : Int) 35
              · have h36 : eqZ (q : Int) 36 = true := by rw [h8, h35] at hb; simpa using hb
                simp only [h8, h35, h36, cond_true, cond_false, bj_inl, R7_6, R7_ty, h26, clT_some, q4_int, bd_some_eq, j25_2 h hu hg (n + 2), bot_J, R7_len, R7_set, R7_all, big]; rfl
              · simp only [h8, h35, cond_true, cond_false, bj_inl, R7_6, R7_ty, h26, clT_some, q4_int, bd_some_eq, j25_2 h hu hg (n + 2), bot_J, R7_len, R7_set, R7_all, big]; rfl
            · simp only [h8, cond_true, cond_false, bj_inl, R7_6, R7_ty, h26, clT_some, q4_int, bd_some_eq, j25_2 h hu hg (n + 2), bot_J, R7_len, R7_set, R7_all, big]; rfl
end
end Go.Proofs.YtblbgjfkbcdlfaaGreatDoor
/- What the functions of this program come to: the reference's rules of primitives. -/
set_option linter.unusedVariables false
set_option linter.unusedSimpArgs false
set_option linter.unusedSectionVars false
set_option maxRecDepth 100000
namespace Go.Proofs.YtblbgjfkbcdlfaaGreatDoor
open Go Iv LatT

section
variable {ss : List (List UInt8)} {us : List Nat} {d e : D} (h : Strs ss d) (hu : U8s us e) (hg : Good ss us)
include h hu hg

theorem t9k {cs : List D} {i : Nat} {k : Int} (hk : cs[i * 5 + 0]? = some (.int .i64 k)) {ρ : Type} (K : Int → Option ρ) : tkT q4 cs (i * 5 + 0) none K = K k := by
  simp only [tkT, takeAt, hk, bd_some_eq, q4_int]
theorem t9r {cs : List D} {i : Nat} {k : Int} (hk : cs[i * 5 + 1]? = some (.int .i64 k)) {ρ : Type} (K : Int → Option ρ) : tkT q4 cs (i * 5 + 1) none K = K k := by
  simp only [tkT, takeAt, hk, bd_some_eq, q4_int]

theorem p9b (n : Nat) {p : Int} {ts : List TyR} {a : D} (ha : Tys ts a) (hlen : ts.length < 100) (hf : (FIT p (Ks ts) (Rs ts)).2.2 ≠ 0) : cl (n + 5) 9 [.agg [d, e], .int .i64 p, a] = some (badR (FIT p (Ks ts) (Rs ts)).2.2) := by
  refine in9 d e p a h.fz hu.fz ha.fz rfl ?_
  unfold S9
  have hz : eqZ 0 0 = true := rfl
  simp only [c27 n h hu, chk_good hg, clT_some, q7_e2, bd_some_eq, hz, Bool.not_true, cond_false]
  refine loop_fold (st := fun i => ((p, a, (), (), i, i, (i : Int), ()), ((Rs (ts.take i)).map (D.int .i64), (Ks (ts.take i)).map (D.int .i64), Z7, (d, e, ()), ()))) (n := ts.length) (fun i hi => ?_) ?_
  · have l1 : (Ks (ts.take i)).length = i := by simp [Ks]; omega
    have l2 : (Rs (ts.take i)).length = i := by simp [Rs]; omega
    obtain ⟨cs, e1, e2, e3⟩ := ha.el hi
    simp only [ha.len, ltZ_lt hi, cond_true, e1, bd_some_eq, t9k h hu hg e2, t9r h hu hg e3, apG_ok (show i < 100 by omega) l1, apG_ok (show i < 100 by omega) l2, inc_i64 (show i < 9223372036854775807 by omega)]
    simp only [Ks, Rs, map_take_succ (fun t : TyR => t.k) hi, map_take_succ (fun t : TyR => t.r) hi]
  · have f1 : frSl false 0 1 ts.length ((Ks ts).map (D.int .i64)) = some (slI (Ks ts)) := by have := frSl_sl (Ks ts); rwa [show (Ks ts).length = ts.length by simp [Ks]] at this
    have f2 : frSl false 0 1 ts.length ((Rs ts).map (D.int .i64)) = some (slI (Rs ts)) := by have := frSl_sl (Rs ts); rwa [show (Rs ts).length = ts.length by simp [Rs]] at this
    have h15 := c15 (n + 2) p (show (Rs ts).length = (Ks ts).length by simp [Ks, Rs]) (show (Ks ts).length < 100 by simp [Ks]; omega)
    have he : eqZ (FIT p (Ks ts) (Rs ts)).2.2 0 = false := by rw [eqZ_eq, beq_eq_false_iff_ne]; exact hf
    simp only [ha.len, ltZ_ge (Nat.le_refl _), cond_false, List.take_length, f1, f2, bd_some_eq, h15, clT_some, q5_e3]
    refine congrArg (rt (α := _)) (loop_done (r := badR (FIT p (Ks ts) (Rs ts)).2.2) ?_)
    simp only [ha.len]
    cases ltZ 0 (ts.length : Int)
    · simp only [cond_false, he, Bool.not_false, cond_true, IZ7, TZ7, bd_some_eq, rt_some_eq, bj_inr]; rfl
    · simp only [cond_true, cond_false, he, Bool.not_false, IZ7, TZ7, bd_some_eq, rt_some_eq, bj_inr]; rfl

theorem p9c (n : Nat) {p : Int} {ts : List TyR} {a : D} (ha : Tys ts a) (hlen : ts.length < 100) (hf : (FIT p (Ks ts) (Rs ts)).2.2 = 0) (hk : ts.all (knT ss.length) = false) : cl (n + 5) 9 [.agg [d, e], .int .i64 p, a] = some (badR 7) := by
  refine in9 d e p a h.fz hu.fz ha.fz rfl ?_
  unfold S9
  have hz : eqZ 0 0 = true := rfl
  simp only [c27 n h hu, chk_good hg, clT_some, q7_e2, bd_some_eq, hz, Bool.not_true, cond_false]
  refine loop_fold (st := fun i => ((p, a, (), (), i, i, (i : Int), ()), ((Rs (ts.take i)).map (D.int .i64), (Ks (ts.take i)).map (D.int .i64), Z7, (d, e, ()), ()))) (n := ts.length) (fun i hi => ?_) ?_
  · have l1 : (Ks (ts.take i)).length = i := by simp [Ks]; omega
    have l2 : (Rs (ts.take i)).length = i := by simp [Rs]; omega
    obtain ⟨cs, e1, e2, e3⟩ := ha.el hi
    simp only [ha.len, ltZ_lt hi, cond_true, e1, bd_some_eq, t9k h hu hg e2, t9r h hu hg e3, apG_ok (show i < 100 by omega) l1, apG_ok (show i < 100 by omega) l2, inc_i64 (show i < 9223372036854775807 by omega)]
    simp only [Ks, Rs, map_take_succ (fun t : TyR => t.k) hi, map_take_succ (fun t : TyR => t.r) hi]
  · have f1 : frSl false 0 1 ts.length ((Ks ts).map (D.int .i64)) = some (slI (Ks ts)) := by have := frSl_sl (Ks ts); rwa [show (Ks ts).length = ts.length by simp [Ks]] at this
    have f2 : frSl false 0 1 ts.length ((Rs ts).map (D.int .i64)) = some (slI (Rs ts)) := by have := frSl_sl (Rs ts); rwa [show (Rs ts).length = ts.length by simp [Rs]] at this
    have h15 := c15 (n + 2) p (show (Rs ts).length = (Ks ts).length by simp [Ks, Rs]) (show (Ks ts).length < 100 by simp [Ks]; omega)
    have hr := (fit_len hf).2.2.2.2.1
    have hri : ∀ i (hi : i < ts.length), ts[i].r = 0 ∨ ts[i].r = 1 ∨ ts[i].r = 2 := fun i hi => isRi_cases (List.all_eq_true.1 hr _ (by simp only [Rs, List.mem_map]; exact ⟨ts[i], List.getElem_mem hi, rfl⟩))
    simp only [ha.len, ltZ_ge (Nat.le_refl _), cond_false, List.take_length, f1, f2, bd_some_eq, h15, clT_some, q5_e3, hf]
    obtain ⟨m, hm, h1, h2⟩ := first_badT hk
    have h7 : eqZ 7 0 = false := rfl
    refine congrArg (rt (α := _)) (loop_exit (st := fun i => ((p, a, (), (), (bif Nat.ble i m then (0 : Int) else 7), (FIT p (Ks ts) (Rs ts)).1, (FIT p (Ks ts) (Rs ts)).2.1, (i : Int), ()), (Z7, (d, e, ()), ()))) (r := badR 7) (m := m + 1) (fun i hi => ?_) ?_)
    · have hi' : i < ts.length := by omega
      have b1 : Nat.ble i m = true := Nat.ble_eq_true_of_le (by omega)
      by_cases him : i = m
      · subst him
        have b2 : Nat.ble (i + 1) i = false := by rw [← Bool.not_eq_true, Nat.ble_eq]; omega
        have h28 := c28 h hu (n + 3) ts[i].k ts[i].x0 ts[i].x1 ts[i].x2 (hri i hi')
        rw [show knownB ss.length ts[i].r ts[i].x0 ts[i].x1 ts[i].x2 = false from h1] at h28
        simp only [ty5] at h28
        simp only [b1, b2, ha.len, ltZ_lt hi', cond_true, cond_false, hz, bj_inl, ha.ix hi', h28, clT_some, q0_bool, bd_some_eq, Bool.not_false, inc_i64 (show i < 9223372036854775807 by omega)]
      · have b2 : Nat.ble (i + 1) m = true := Nat.ble_eq_true_of_le (by omega)
        have h28 := c28 h hu (n + 3) ts[i].k ts[i].x0 ts[i].x1 ts[i].x2 (hri i hi')
        rw [show knownB ss.length ts[i].r ts[i].x0 ts[i].x1 ts[i].x2 = true from h2 i (by omega)] at h28
        simp only [ty5] at h28
        simp only [b1, b2, ha.len, ltZ_lt hi', cond_true, cond_false, hz, bj_inl, ha.ix hi', h28, clT_some, q0_bool, bd_some_eq, Bool.not_true, inc_i64 (show i < 9223372036854775807 by omega)]
    · have b2 : Nat.ble (m + 1) m = false := by rw [← Bool.not_eq_true, Nat.ble_eq]; omega
      simp only [b2, ha.len, cond_false]
      cases ltZ ((m + 1 : Nat) : Int) (ts.length : Int)
      · simp only [cond_false, h7, Bool.not_false, cond_true, IZ7, TZ7, bd_some_eq, rt_some_eq, bj_inr]; rfl
      · simp only [cond_true, cond_false, h7, Bool.not_false, IZ7, TZ7, bd_some_eq, rt_some_eq, bj_inr]; rfl

theorem p9d (n : Nat) {q : Nat} {ts : List TyR} {a : D} (ha : Tys ts a) {ms : List (TM (latT hg))} {res : Lab (latT hg) × Lab (latT hg) × Lab (latT hg) × Lab (latT hg)}
    (hf : (FIT (q : Int) (Ks ts) (Rs ts)).2.2 = 0) (hk : ts.all (knT ss.length) = true) (hF : Fits q ts ms res) (hml : ms.length = ts.length)
    (hty : ∀ i (hi : i < ts.length), IsTy (ms[i]'(by omega)) ts[i].r ts[i].x0 ts[i].x1 ts[i].x2)
    (hbig : bigB (q : Int) = true → ∃ m : TM (latT hg), IsTy m (FIT (q : Int) (Ks ts) (Rs ts)).2.1 (res.1.1 : Int) (res.2.1.1 : Int) (res.2.2.1.1 : Int) ∧ m.lens = J res.1 res.2.1) :
    cl (n + 10) 9 [.agg [d, e], .int .i64 (q : Int), a] = some (ruleD (FIT (q : Int) (Ks ts) (Rs ts)).1 (FIT (q : Int) (Ks ts) (Rs ts)).2.1 res (costM (q : Int) ms res)) := by
  have hlen : ts.length < 100 := by rcases hF with ⟨t, m, rfl, _⟩ | ⟨t, t', m, m', rfl, _⟩ <;> simp
  refine in9 d e (q : Int) a h.fz hu.fz ha.fz rfl ?_
  unfold S9
  have hz : eqZ 0 0 = true := rfl
  simp only [c27 (n + 5) h hu, chk_good hg, clT_some, q7_e2, bd_some_eq, hz, Bool.not_true, cond_false]
  refine loop_fold (st := fun i => (((q : Int), a, (), (), i, i, (i : Int), ()), ((Rs (ts.take i)).map (D.int .i64), (Ks (ts.take i)).map (D.int .i64), Z7, (d, e, ()), ()))) (n := ts.length) (fun i hi => ?_) ?_
  · have l1 : (Ks (ts.take i)).length = i := by simp [Ks]; omega
    have l2 : (Rs (ts.take i)).length = i := by simp [Rs]; omega
    obtain ⟨cs, e1, e2, e3⟩ := ha.el hi
    simp only [ha.len, ltZ_lt hi, cond_true, e1, bd_some_eq, t9k h hu hg e2, t9r h hu hg e3, apG_ok (show i < 100 by omega) l1, apG_ok (show i < 100 by omega) l2, inc_i64 (show i < 9223372036854775807 by omega)]
    simp only [Ks, Rs, map_take_succ (fun t : TyR => t.k) hi, map_take_succ (fun t : TyR => t.r) hi]
  · have f1 : frSl false 0 1 ts.length ((Ks ts).map (D.int .i64)) = some (slI (Ks ts)) := by have := frSl_sl (Ks ts); rwa [show (Ks ts).length = ts.length by simp [Ks]] at this
    have f2 : frSl false 0 1 ts.length ((Rs ts).map (D.int .i64)) = some (slI (Rs ts)) := by have := frSl_sl (Rs ts); rwa [show (Rs ts).length = ts.length by simp [Rs]] at this
    have h15 := c15 (n + 7) (q : Int) (show (Rs ts).length = (Ks ts).length by simp [Ks, Rs]) (show (Ks ts).length < 100 by simp [Ks]; omega)
    have hr := (fit_len hf).2.2.2.2.1
    have hri : ∀ i (hi : i < ts.length), ts[i].r = 0 ∨ ts[i].r = 1 ∨ ts[i].r = 2 := fun i hi => isRi_cases (List.all_eq_true.1 hr _ (by simp only [Rs, List.mem_map]; exact ⟨ts[i], List.getElem_mem hi, rfl⟩))
    simp only [ha.len, ltZ_ge (Nat.le_refl _), cond_false, List.take_length, f1, f2, bd_some_eq, h15, clT_some, q5_e3, hf]
    refine congrArg (rt (α := _)) (loop_fold (st := fun i => (((q : Int), a, (), (), (0 : Int), (FIT (q : Int) (Ks ts) (Rs ts)).1, (FIT (q : Int) (Ks ts) (Rs ts)).2.1, (i : Int), ()), (Z7, (d, e, ()), ()))) (r := ruleD (FIT (q : Int) (Ks ts) (Rs ts)).1 (FIT (q : Int) (Ks ts) (Rs ts)).2.1 res (costM (q : Int) ms res)) (n := ts.length) (fun i hi => ?_) ?_)
    · have h28 := c28 h hu (n + 8) ts[i].k ts[i].x0 ts[i].x1 ts[i].x2 (hri i hi)
      rw [show knownB ss.length ts[i].r ts[i].x0 ts[i].x1 ts[i].x2 = true from List.all_eq_true.1 hk _ (List.getElem_mem hi)] at h28
      simp only [ty5] at h28
      simp only [ha.len, ltZ_lt hi, cond_true, cond_false, hz, bj_inl, ha.ix hi, h28, clT_some, q0_bool, bd_some_eq, Bool.not_true, inc_i64 (show i < 9223372036854775807 by omega)]
    · have hp : 0 < ts.length := by rcases hF with ⟨t, m, rfl, _⟩ | ⟨t, t', m, m', rfl, _⟩ <;> simp
      have h29 := c29 h hu hg (n + 1) (k := ts[0].k) (hty 0 hp)
      simp only [ty5] at h29
      simp only [ha.len, ltZ_ge (Nat.le_refl _), cond_false, hz, Bool.not_true, ha.ix0 hp, h29, clT_some, q4_int, bd_some_eq]
      have key : ∀ {A : Type} {k : A → Option D} {o : Option (A ⊕ D)} {c : A}, o = some (.inl c) → k c = some (ruleD (FIT (q : Int) (Ks ts) (Rs ts)).1 (FIT (q : Int) (Ks ts) (Rs ts)).2.1 res (costM (q : Int) ms res)) → ∀ {B C : Type} {K : B → Option (C ⊕ D)}, bj (rt (rt (bj o k))) K = some (.inr (ruleD (FIT (q : Int) (Ks ts) (Rs ts)).1 (FIT (q : Int) (Ks ts) (Rs ts)).2.1 res (costM (q : Int) ms res))) := by
        intro A k o c h1 h2 B C K
        rw [h1, bj_inl, h2]; rfl
      refine key (c := (((q : Int), (), (), (), ()), (R7 (FIT (q : Int) (Ks ts) (Rs ts)).1 (FIT (q : Int) (Ks ts) (Rs ts)).2.1 (res.1.1 : Int) (res.2.1.1 : Int) (res.2.2.1.1 : Int) (res.2.2.2.1 : Int) ((foldJ (bot (latT hg)) (ms.map TM.lens)).1 : Int), Z7, (d, e, ()), ()))) ?_ ?_
      · rcases hF with ⟨t, m, rfl, rfl, hq1, hq14, hok, rfl⟩ | ⟨t, t', m, m', rfl, rfl, hq15, hq40, hok, rfl⟩
        · have hm := hty 0 (by simp)
          have h30 := c30 h hu hg n hq1 hq14 (k := t.k) hm hok
          simp only [ty5, List.getElem_cons_zero] at h30
          have hl1 : eqZ (([t].length : Nat) : Int) 1 = true := rfl
          have hfl : foldJ (bot (latT hg)) ([m].map TM.lens) = m.lens := by simp only [foldJ, List.map_cons, List.map_nil, List.foldl_cons, List.foldl_nil, bot_J]
          rw [hfl]
          simp only [hl1, cond_true, List.getElem_cons_zero, h30, clT_some, q9_enc4, bd_some_eq]; rfl
        · have hm := hty 0 (by simp)
          have hm' := hty 1 (by simp)
          have h31 := c31 h hu hg n hq15 hq40 (k := t.k) (k' := t'.k) hm hm' hok
          have h29' := c29 h hu hg (n + 1) (k := t'.k) hm'
          simp only [ty5, List.getElem_cons_zero, List.getElem_cons_succ] at h31 h29'
          have hl1 : eqZ (([t, t'].length : Nat) : Int) 1 = false := rfl
          have hfl : foldJ (bot (latT hg)) ([m, m'].map TM.lens) = J m.lens m'.lens := by simp only [foldJ, List.map_cons, List.map_nil, List.foldl_cons, List.foldl_nil, bot_J]
          rw [hfl]
          simp only [hl1, cond_false, ha.ix1 (show 1 < [t, t'].length by simp), List.getElem_cons_zero, List.getElem_cons_succ, h31, h29', j32_2 h hu hg (n + 2), clT_some, q4_int, q9_enc4, bd_some_eq]; rfl
      · have fin : ∀ x : Lab (latT hg), (bd (inR 0 7 (List.length Z7)) fun _ => bd (takeAt (setQ Z7 0 [(.int .i64 (FIT (q : Int) (Ks ts) (Rs ts)).1), (.int .i64 (FIT (q : Int) (Ks ts) (Rs ts)).2.1), (.int .i64 (res.1.1 : Int)), (.int .i64 (res.2.1.1 : Int)), (.int .i64 (res.2.2.1.1 : Int)), (.int .i64 (res.2.2.2.1 : Int)), (.int .i64 (x.1 : Int))]) 0 (some 7)) fun v => some (.tup [v, .int .i64 0])) = some (ruleD (FIT (q : Int) (Ks ts) (Rs ts)).1 (FIT (q : Int) (Ks ts) (Rs ts)).2.1 res x) := fun x => rfl
        cases hb : bigB (q : Int)
        · have hs := fin (foldJ (bot (latT hg)) (ms.map TM.lens))
          have hc : costM (q : Int) ms res = foldJ (bot (latT hg)) (ms.map TM.lens) := by simp only [costM, hb, cond_false]
          rw [← hc] at hs
          simp only [bigB, Bool.or_eq_false_iff] at hb
          rw [← hc]
          simp only [hb.1, hb.2.1, hb.2.2, cond_false, bj_inl, R7_all, hs]
        · obtain ⟨m, hm, hml2⟩ := hbig hb
          have h29 := c29 h hu hg (n + 1) (k := (FIT (q : Int) (Ks ts) (Rs ts)).1) hm
          simp only [ty5] at h29
          have big := fin (J (foldJ (bot (latT hg)) (ms.map TM.lens)) m.lens)
          have hc : costM (q : Int) ms res = J (foldJ (bot (latT hg)) (ms.map TM.lens)) m.lens := by simp only [costM, hb, cond_true, hml2]
          rw [← hc] at big
          rw [hc] at big ⊢
          simp only [bigB] at hb
          cases h8 : eqZ (q : Int) 8
          · cases h35 : eqZ (q : Int) 35
            · have h36 : eqZ (q : Int) 36 = true := by rw [h8, h35] at hb; simpa using hb
              simp only [h8, h35, h36, cond_true, cond_false, bj_inl, R7_6, R7_ty, h29, clT_some, q4_int, bd_some_eq, j32_2 h hu hg (n + 2), R7_len, R7_set, R7_all, big]
            · simp only [h8, h35, cond_true, cond_false, bj_inl, R7_6, R7_ty, h29, clT_some, q4_int, bd_some_eq, j32_2 h hu hg (n + 2), R7_len, R7_set, R7_all, big]
          · simp only [h8, cond_true, cond_false, bj_inl, R7_6, R7_ty, h29, clT_some, q4_int, bd_some_eq, j32_2 h hu hg (n + 2), R7_len, R7_set, R7_all, big]
end
end Go.Proofs.YtblbgjfkbcdlfaaGreatDoor
/- What the functions of this program come to: TaintPrims says true. -/
set_option linter.unusedVariables false
set_option linter.unusedSimpArgs false
set_option linter.unusedSectionVars false
set_option maxRecDepth 100000
namespace Go.Proofs.YtblbgjfkbcdlfaaGreatDoor
open Go Iv LatT

theorem eqZ_refl (x : Int) : eqZ x x = true := by rw [eqZ_eq]; simp
@[simp] theorem q1_bad (e : Int) : q1 (badR e) = some ((0, 0, 0, 0, 0, 0, 0, ()), e, ()) := rfl
@[simp] theorem q1_rule {T : LatT} (k r : Int) (res : Lab T × Lab T × Lab T × Lab T) (c : Lab T) : q1 (ruleD k r res c) = some ((k, r, (res.1.1 : Int), (res.2.1.1 : Int), (res.2.2.1.1 : Int), (res.2.2.2.1 : Int), (c.1 : Int), ()), 0, ()) := rfl

/-- Is a lattice more than is looked at? -/
def farB (ss : List (List UInt8)) (us : List Nat) : Bool := ltZ 9 (ss.length : Int) || (ltZ 9 (us.length : Int) || !(allN ss.length fun i => !(ltZ 40 ((ss.getD i []).length : Int))))

section
variable {ss : List (List UInt8)} {us : List Nat} {d e : D} (h : Strs ss d) (hu : U8s us e)
include h hu

theorem c16 (n : Nat) : cl (n + 1) 16 [.agg [d, e, .nils, .nils, .nils]] = some (.bool (farB ss us)) := by
  refine in16 d e .nils .nils .nils h.fz hu.fz ⟨rfl, rfl⟩ ⟨rfl, rfl⟩ ⟨rfl, rfl⟩ rfl ?_
  unfold S16 farB
  have n0 : ∀ {ρ : Type} (K : Nat → Option ρ), bd (lenD false .nils) K = K 0 := fun K => rfl
  have l8 : ltZ 8 ((0 : Nat) : Int) = false := rfl
  have l10 : ltZ 10 ((0 : Nat) : Int) = false := rfl
  have l12 : ltZ 12 ((0 : Nat) : Int) = false := rfl
  simp only [h.len, hu.len, n0, l8, l10, l12, cond_false]
  cases h9 : ltZ 9 (ss.length : Int)
  · cases h9' : ltZ 9 (us.length : Int)
    · have hlen : ss.length ≤ 9 := by rw [ltZ_eq, decide_eq_false_iff_not] at h9; omega
      simp only [cond_false, bj_inl, Bool.false_or]
      refine (loop_scan (st := fun i => (((), (i : Int), ()), ((d, e, D.nils, D.nils, D.nils, ()), ()))) (p := fun i => bif !(ltZ 40 ((ss.getD i []).length : Int)) then none else some (D.bool true)) (z := D.bool false) (n := ss.length) (fun i hi _ => ?_) (fun _ => ?_)).trans ?_
      · simp only [h.len, ltZ_lt hi, cond_true, h.ix hi, q12_str, bd_some_eq, getD_lt hi, inc_i64 (show i < 9223372036854775807 by omega)]
        cases ltZ 40 (ss[i].length : Int) <;> rfl
      · simp only [h.len, ltZ_ge (Nat.le_refl _), cond_false]
        refine congrArg (rt (α := _)) (loop_done (r := D.bool false) ?_)
        have l00 : ltZ 0 ((0 : Nat) : Int) = false := rfl
        simp only [n0, l00, cond_false]
        refine congrArg (rt (α := _)) (loop_done (r := D.bool false) ?_)
        simp only [n0, l00, cond_false]; rfl
      · rw [scan_all]
        cases allN ss.length fun i => !(ltZ 40 ((ss.getD i []).length : Int)) <;> rfl
    · rfl
  · rfl

theorem c6 (n : Nat) : cl (n + 2) 6 [.agg [d, e]] = some (.bool (farB ss us)) := by
  refine in6 d e h.fz hu.fz rfl ?_
  unfold S6
  simp only [c16 h hu n, clT_some, q0_bool, bd_some_eq]

/-- Where the operands fit, they are types of the model, and both rules are the rule. -/
theorem fit_data (hg : Good ss us) {p : Int} {ts : List TyR} (hf : (FIT p (Ks ts) (Rs ts)).2.2 = 0) (hk : ts.all (knT ss.length) = true) :
    ∃ (q : Nat) (ms : List (TM (latT hg))) (res : Lab (latT hg) × Lab (latT hg) × Lab (latT hg) × Lab (latT hg)) (hml : ms.length = ts.length), p = (q : Int) ∧ Fits q ts ms res ∧
      (∀ i (hi : i < ts.length), IsTy (ms[i]'(by omega)) ts[i].r ts[i].x0 ts[i].x1 ts[i].x2) ∧
      (bigB (q : Int) = true → ∃ m : TM (latT hg), IsTy m (FIT (q : Int) (Ks ts) (Rs ts)).2.1 (res.1.1 : Int) (res.2.1.1 : Int) (res.2.2.1.1 : Int) ∧ m.lens = J res.1 res.2.1) := by
  obtain ⟨hp1, hp2, hlen, hka, hra, hfit⟩ := fit_len hf
  obtain ⟨q, rfl⟩ : ∃ q : Nat, p = q := ⟨p.toNat, by omega⟩
  rw [Int.toNat_natCast] at hlen hfit
  have hq1 : 1 ≤ q := by omega
  have hq2 : q ≤ 40 := by omega
  have hmk : ∀ t ∈ ts, ∃ m : TM (latT hg), IsTy m t.r t.x0 t.x1 t.x2 ∧ (m.r : Int) = t.r := fun t ht =>
    ty_of hg (isRi_cases (List.all_eq_true.1 hra _ (by simp only [Rs, List.mem_map]; exact ⟨t, ht, rfl⟩))) (List.all_eq_true.1 hk t ht)
  have hrank : ltZ (rankM q (Rs ts)) 0 = false ∧ (FIT (q : Int) (Ks ts) (Rs ts)).2.1 = rankM q (Rs ts) := by
    rw [hfit] at hf ⊢
    unfold fitM at hf ⊢
    cases h1 : kindsB q (Ks ts) <;> rw [h1] at hf
    · cases hf
    · cases h2 : ltZ (rankM q (Rs ts)) 0 <;> rw [h2] at hf
      · exact ⟨rfl, rfl⟩
      · cases hf
  have hlen' : ts.length = ar q := by simpa [Ks] using hlen
  unfold ar at hlen'
  cases h14 : Nat.ble q 14 <;> rw [h14] at hlen'
  · have hq15 : 15 ≤ q := by
      have : ¬ q ≤ 14 := fun hx => by rw [Nat.ble_eq_true_of_le hx] at h14; cases h14
      omega
    obtain ⟨t, t', rfl⟩ : ∃ t t', ts = [t, t'] := by
      match ts, hlen' with
      | [t, t'], _ => exact ⟨t, t', rfl⟩
    obtain ⟨m, hm, hmr⟩ := hmk t (by simp)
    obtain ⟨m', hm', hmr'⟩ := hmk t' (by simp)
    refine ⟨q, [m, m'], twoM q m m', rfl, rfl, .inr ⟨t, t', m, m', rfl, rfl, hq15, hq2, ?_, rfl⟩, ?_, ?_⟩
    · unfold okR2
      rw [hmr, hmr', show ltZ (rankM q [t.r, t'.r]) 0 = false from hrank.1]; rfl
    · intro i hi
      match i, hi with
      | 0, _ => exact hm
      | 1, _ => exact hm'
    · intro hb
      rw [hrank.2]
      have hrk := hrank.1
      have : q = 35 ∨ q = 36 := by
        simp only [bigB, Bool.or_eq_true, eqZ_eq, beq_iff_eq] at hb; omega
      rcases this with rfl | rfl
      · have hr1 : rankM 35 (Rs [t, t']) = 1 := by
          have e : rankM 35 (Rs [t, t']) = bif eqZ t.r 0 && eqZ t'.r 0 then 1 else -1 := rfl
          rw [e] at hrk ⊢
          cases hx : (eqZ t.r 0 && eqZ t'.r 0) <;> rw [hx] at hrk
          · cases hrk
          · rfl
        rw [hr1]
        exact ⟨⟨1, m.d, bot _, J m.d m'.d⟩, ⟨by show 1 ≤ 2; omega, rfl, fun _ => rfl, fun hx => by simp at hx, fun hx => by simp at hx, fun _ => rfl, rfl⟩, rfl⟩
      · have hr1 : rankM 36 (Rs [t, t']) = 2 := by
          have e : rankM 36 (Rs [t, t']) = bif eqZ t.r 1 && eqZ t'.r 1 then 2 else -1 := rfl
          rw [e] at hrk ⊢
          cases hx : (eqZ t.r 1 && eqZ t'.r 1) <;> rw [hx] at hrk
          · cases hrk
          · rfl
        rw [hr1]
        exact ⟨⟨2, J m.d m.a0, J m.d m.a0, J (J m.lens m'.lens) (J m.d m'.d)⟩, ⟨by show 2 ≤ 2; omega, rfl, fun _ => rfl, fun hx => by simp at hx, fun _ => rfl, fun hx => by simp at hx, rfl⟩, rfl⟩
  · have hq14 : q ≤ 14 := Nat.le_of_ble_eq_true h14
    obtain ⟨t, rfl⟩ : ∃ t, ts = [t] := by
      match ts, hlen' with
      | [t], _ => exact ⟨t, rfl⟩
    obtain ⟨m, hm, hmr⟩ := hmk t (by simp)
    refine ⟨q, [m], oneM q m, rfl, rfl, .inl ⟨t, m, rfl, rfl, hq1, hq14, ?_, rfl⟩, ?_, ?_⟩
    · unfold okR1
      rw [hmr, show ltZ (rankM q [t.r]) 0 = false from hrank.1]; rfl
    · intro i hi
      match i, hi with
      | 0, _ => exact hm
    · intro hb
      rw [hrank.2]
      have hrk := hrank.1
      have : q = 8 := by
        simp only [bigB, Bool.or_eq_true, eqZ_eq, beq_iff_eq] at hb; omega
      subst this
      have hr1 : rankM 8 (Rs [t]) = 1 := by
        have e : rankM 8 (Rs [t]) = bif eqZ t.r 0 then 1 else -1 := rfl
        rw [e] at hrk ⊢
        cases hx : eqZ t.r 0 <;> rw [hx] at hrk
        · cases hrk
        · rfl
      rw [hr1]
      exact ⟨⟨1, m.d, bot _, m.d⟩, ⟨by show 1 ≤ 2; omega, rfl, fun _ => rfl, fun hx => by simp at hx, fun hx => by simp at hx, fun _ => rfl, rfl⟩, rfl⟩

/-- Both rules: the same error, or the same rule. -/
theorem both (n : Nat) (p : Int) {ts : List TyR} {a : D} (ha : Tys ts a) (hlen : ts.length < 100) :
    (∃ er, cl (n + 12) 8 [.agg [d, e], .int .i64 p, a] = some (badR er) ∧ cl (n + 12) 9 [.agg [d, e], .int .i64 p, a] = some (badR er) ∧ er ≠ 0) ∨
    ∃ (hg : Good ss us) (q : Nat) (ms : List (TM (latT hg))) (res : Lab (latT hg) × Lab (latT hg) × Lab (latT hg) × Lab (latT hg)), p = (q : Int) ∧ (FIT p (Ks ts) (Rs ts)).2.2 = 0 ∧ ts.all (knT ss.length) = true ∧ Fits q ts ms res ∧
      cl (n + 12) 8 [.agg [d, e], .int .i64 p, a] = some (ruleD (FIT p (Ks ts) (Rs ts)).1 (FIT p (Ks ts) (Rs ts)).2.1 res (costM p ms res)) ∧
      cl (n + 12) 9 [.agg [d, e], .int .i64 p, a] = some (ruleD (FIT p (Ks ts) (Rs ts)).1 (FIT p (Ks ts) (Rs ts)).2.1 res (costM p ms res)) := by
  rcases CHK_cases ss us with ⟨hg, _⟩ | ⟨x, er, hc, he⟩
  · by_cases hf : (FIT p (Ks ts) (Rs ts)).2.2 = 0
    · cases hk : ts.all (knT ss.length)
      · exact .inl ⟨7, p8c h hu hg (n + 5) ha hlen hf hk, p9c h hu hg (n + 7) ha hlen hf hk, by omega⟩
      · obtain ⟨q, ms, res, hml, rfl, hF, hty, hbig⟩ := fit_data h hu hg hf hk
        exact .inr ⟨hg, q, ms, res, rfl, hf, rfl, hF, p8d h hu hg n ha hf hk hF hml hty hbig, p9d h hu hg (n + 2) ha hf hk hF hml hty hbig⟩
    · exact .inl ⟨_, p8b h hu hg (n + 5) ha hlen hf, p9b h hu hg (n + 7) ha hlen hf, hf⟩
  · refine .inl ⟨er, p8a h hu (n + 5) p ha hc he, p9a h hu (n + 7) p ha hc he, fun hx => ?_⟩
    rw [hx] at he; cases he

theorem c3 (n : Nat) (p : Int) {ts : List TyR} {a : D} (ha : Tys ts a) : cl (n + 13) 3 [.agg [d, e], .int .i64 p, a] = some (.bool true) := by
  refine in3 d e p a h.fz hu.fz ha.fz rfl ?_
  unfold S3
  have h7 : cl (n + 12) 7 [] = some (.bool true) := evK_kn kn7
  simp only [c6 h hu (n + 10), h7, clT_some, q0_bool, bd_some_eq, ha.len]
  cases farB ss us
  · simp only [cond_false]
    cases h4 : ltZ 4 (ts.length : Int)
    · have hlen : ts.length < 100 := by rw [ltZ_eq, decide_eq_false_iff_not] at h4; omega
      simp only [cond_false, bj_inl]
      rcases both h hu n p ha hlen with ⟨er, h8, h9, _⟩ | ⟨hg, q, ms, res, rfl, hf, hk, hF, h8, h9⟩
      · simp only [h8, h9, clT_some, q1_bad, bd_some_eq, eqZ_refl, Bool.and_self, cond_true, h7, q0_bool]
      · simp only [h8, h9, clT_some, q1_rule, bd_some_eq, eqZ_refl, Bool.and_self, cond_true, h7, q0_bool]
    · rfl
  · rfl
end
end Go.Proofs.YtblbgjfkbcdlfaaGreatDoor
