/- What the functions of this program come to: rules of primitives of two operands. -/
import Derived.Test.YtblbgjfkbcdlfaaGreatDoorLD
set_option linter.unusedVariables false
set_option linter.unusedSimpArgs false
set_option linter.unusedSectionVars false
set_option maxRecDepth 100000
namespace Go.Proofs.YtblbgjfkbcdlfaaGreatDoor
open Go Iv LatT

/-- Axes, data, error of a primitive of two operands. -/
noncomputable def twoM {T : LatT} (p : Nat) (m m' : TM T) : Lab T × Lab T × Lab T × Lab T :=
  let a := J m.lens m'.lens
  let dd := J m.d m'.d
  let all := J a dd
  match p with
  | 33 => (J m.d m'.a0, bot T, all, bot T)
  | 34 => (J m.d m'.a0, bot T, all, bot T)
  | 35 => (m.d, bot T, dd, m.d)
  | 36 => (J m.d m.a0, J m.d m.a0, all, J (J m.d m.a0) m'.a0)
  | 37 => ((ext J m m').1, (ext J m m').2, all, a)
  | 38 => (m'.a0, m'.a1, all, J m'.d a)
  | 39 => (m.a0, m.a1, all, bot T)
  | 40 => (J a m.d, bot T, all, a)
  | 15 => ((ext J m m').1, (ext J m m').2, dd, all)
  | 16 => ((ext J m m').1, (ext J m m').2, dd, all)
  | 17 => ((ext J m m').1, (ext J m m').2, dd, all)
  | 18 => ((ext J m m').1, (ext J m m').2, dd, all)
  | 19 => ((ext J m m').1, (ext J m m').2, dd, all)
  | _ => ((ext J m m').1, (ext J m m').2, dd, bif eqZ (m.r : Int) (m'.r : Int) then (bif ltZ 0 (m.r : Int) then a else bot T) else bot T)

theorem bj_run {α β ρ : Type} {f : α → Option (α ⊕ (β ⊕ ρ))} {v : α} {r : ρ} {k : β → Option ρ} (h : lpD.run f v = some (.inr r)) : bj (lpD.run f v) k = some r := by rw [h]; rfl
def okR2 (p r r' : Nat) : Bool := !(ltZ (rankM p [(r : Int), (r' : Int)]) 0)

section
variable {ss : List (List UInt8)} {us : List Nat} {d e : D} (h : Strs ss d) (hu : U8s us e) (hg : Good ss us)
include h hu hg
theorem c24_15 (n : Nat) {k r x0 x1 x2 k' r' x0' x1' x2' : Int} {m m' : TM (latT hg)} (hm : IsTy m r x0 x1 x2) (hm' : IsTy m' r' x0' x1' x2') (hr : okR2 15 m.r m'.r = true) : cl (n + 11) 24 [.agg [d, e, .int .i64 ((bot (latT hg)).1 : Int)], .int .i64 15, ty5 k r x0 x1 x2, ty5 k' r' x0' x1' x2'] = some (enc4 (twoM 15 m m')) := by
  have h26 := c26 h hu hg n (k := k) hm
  have h26' := c26 h hu hg n (k := k') hm'
  have h54 := c54 h hu (n + 9) hg (k := k) hm
  have h54' := c54 h hu (n + 9) hg (k := k') hm'
  have h56 := c56 h hu hg n (k := k) (k' := k') hm hm'
  simp only [ty5] at h26 h26' h54 h54' h56
  refine in24 d e _ _ _ _ _ _ _ _ _ _ _ _ h.fz hu.fz rfl ?_
  unfold S24
  have e3 := hm.x2
  have e4 := hm'.x2
  subst e3 e4
  simp only [h26, h26', h54, h54', h56, j25_2 h hu hg (n + 1), c55_1 h hu hg n, c55_2 h hu hg n, bot_J, show eqZ (15 : Int) 33 = false from rfl, show eqZ (15 : Int) 34 = false from rfl, show eqZ (15 : Int) 35 = false from rfl, show eqZ (15 : Int) 36 = false from rfl, show eqZ (15 : Int) 37 = false from rfl, show eqZ (15 : Int) 38 = false from rfl, show eqZ (15 : Int) 39 = false from rfl, show eqZ (15 : Int) 40 = false from rfl, show eqZ (15 : Int) 15 = true from rfl, show eqZ (15 : Int) 16 = false from rfl, show eqZ (15 : Int) 17 = false from rfl, show eqZ (15 : Int) 18 = false from rfl, show eqZ (15 : Int) 19 = false from rfl, clT_some, q4_int, q18_ag, bd_some_eq, bj_inl, bj_inr, cond_true, cond_false, rt_some_eq, T0, T1, I0, I1, I10, I21, W1, W2, R0, R1, G0, G1]
  refine enc4_congr ?_ ?_ ?_ ?_ <;> simp only [twoM] <;> ac_rfl
theorem c24_16 (n : Nat) {k r x0 x1 x2 k' r' x0' x1' x2' : Int} {m m' : TM (latT hg)} (hm : IsTy m r x0 x1 x2) (hm' : IsTy m' r' x0' x1' x2') (hr : okR2 16 m.r m'.r = true) : cl (n + 11) 24 [.agg [d, e, .int .i64 ((bot (latT hg)).1 : Int)], .int .i64 16, ty5 k r x0 x1 x2, ty5 k' r' x0' x1' x2'] = some (enc4 (twoM 16 m m')) := by
  have h26 := c26 h hu hg n (k := k) hm
  have h26' := c26 h hu hg n (k := k') hm'
  have h54 := c54 h hu (n + 9) hg (k := k) hm
  have h54' := c54 h hu (n + 9) hg (k := k') hm'
  have h56 := c56 h hu hg n (k := k) (k' := k') hm hm'
  simp only [ty5] at h26 h26' h54 h54' h56
  refine in24 d e _ _ _ _ _ _ _ _ _ _ _ _ h.fz hu.fz rfl ?_
  unfold S24
  have e3 := hm.x2
  have e4 := hm'.x2
  subst e3 e4
  simp only [h26, h26', h54, h54', h56, j25_2 h hu hg (n + 1), c55_1 h hu hg n, c55_2 h hu hg n, bot_J, show eqZ (16 : Int) 33 = false from rfl, show eqZ (16 : Int) 34 = false from rfl, show eqZ (16 : Int) 35 = false from rfl, show eqZ (16 : Int) 36 = false from rfl, show eqZ (16 : Int) 37 = false from rfl, show eqZ (16 : Int) 38 = false from rfl, show eqZ (16 : Int) 39 = false from rfl, show eqZ (16 : Int) 40 = false from rfl, show eqZ (16 : Int) 15 = false from rfl, show eqZ (16 : Int) 16 = true from rfl, show eqZ (16 : Int) 17 = false from rfl, show eqZ (16 : Int) 18 = false from rfl, show eqZ (16 : Int) 19 = false from rfl, clT_some, q4_int, q18_ag, bd_some_eq, bj_inl, bj_inr, cond_true, cond_false, rt_some_eq, T0, T1, I0, I1, I10, I21, W1, W2, R0, R1, G0, G1]
  refine enc4_congr ?_ ?_ ?_ ?_ <;> simp only [twoM] <;> ac_rfl
theorem c24_17 (n : Nat) {k r x0 x1 x2 k' r' x0' x1' x2' : Int} {m m' : TM (latT hg)} (hm : IsTy m r x0 x1 x2) (hm' : IsTy m' r' x0' x1' x2') (hr : okR2 17 m.r m'.r = true) : cl (n + 11) 24 [.agg [d, e, .int .i64 ((bot (latT hg)).1 : Int)], .int .i64 17, ty5 k r x0 x1 x2, ty5 k' r' x0' x1' x2'] = some (enc4 (twoM 17 m m')) := by
  have h26 := c26 h hu hg n (k := k) hm
  have h26' := c26 h hu hg n (k := k') hm'
  have h54 := c54 h hu (n + 9) hg (k := k) hm
  have h54' := c54 h hu (n + 9) hg (k := k') hm'
  have h56 := c56 h hu hg n (k := k) (k' := k') hm hm'
  simp only [ty5] at h26 h26' h54 h54' h56
  refine in24 d e _ _ _ _ _ _ _ _ _ _ _ _ h.fz hu.fz rfl ?_
  unfold S24
  have e3 := hm.x2
  have e4 := hm'.x2
  subst e3 e4
  simp only [h26, h26', h54, h54', h56, j25_2 h hu hg (n + 1), c55_1 h hu hg n, c55_2 h hu hg n, bot_J, show eqZ (17 : Int) 33 = false from rfl, show eqZ (17 : Int) 34 = false from rfl, show eqZ (17 : Int) 35 = false from rfl, show eqZ (17 : Int) 36 = false from rfl, show eqZ (17 : Int) 37 = false from rfl, show eqZ (17 : Int) 38 = false from rfl, show eqZ (17 : Int) 39 = false from rfl, show eqZ (17 : Int) 40 = false from rfl, show eqZ (17 : Int) 15 = false from rfl, show eqZ (17 : Int) 16 = false from rfl, show eqZ (17 : Int) 17 = true from rfl, show eqZ (17 : Int) 18 = false from rfl, show eqZ (17 : Int) 19 = false from rfl, clT_some, q4_int, q18_ag, bd_some_eq, bj_inl, bj_inr, cond_true, cond_false, rt_some_eq, T0, T1, I0, I1, I10, I21, W1, W2, R0, R1, G0, G1]
  refine enc4_congr ?_ ?_ ?_ ?_ <;> simp only [twoM] <;> ac_rfl
theorem c24_18 (n : Nat) {k r x0 x1 x2 k' r' x0' x1' x2' : Int} {m m' : TM (latT hg)} (hm : IsTy m r x0 x1 x2) (hm' : IsTy m' r' x0' x1' x2') (hr : okR2 18 m.r m'.r = true) : cl (n + 11) 24 [.agg [d, e, .int .i64 ((bot (latT hg)).1 : Int)], .int .i64 18, ty5 k r x0 x1 x2, ty5 k' r' x0' x1' x2'] = some (enc4 (twoM 18 m m')) := by
  have h26 := c26 h hu hg n (k := k) hm
  have h26' := c26 h hu hg n (k := k') hm'
  have h54 := c54 h hu (n + 9) hg (k := k) hm
  have h54' := c54 h hu (n + 9) hg (k := k') hm'
  have h56 := c56 h hu hg n (k := k) (k' := k') hm hm'
  simp only [ty5] at h26 h26' h54 h54' h56
  refine in24 d e _ _ _ _ _ _ _ _ _ _ _ _ h.fz hu.fz rfl ?_
  unfold S24
  have e3 := hm.x2
  have e4 := hm'.x2
  subst e3 e4
  simp only [h26, h26', h54, h54', h56, j25_2 h hu hg (n + 1), c55_1 h hu hg n, c55_2 h hu hg n, bot_J, show eqZ (18 : Int) 33 = false from rfl, show eqZ (18 : Int) 34 = false from rfl, show eqZ (18 : Int) 35 = false from rfl, show eqZ (18 : Int) 36 = false from rfl, show eqZ (18 : Int) 37 = false from rfl, show eqZ (18 : Int) 38 = false from rfl, show eqZ (18 : Int) 39 = false from rfl, show eqZ (18 : Int) 40 = false from rfl, show eqZ (18 : Int) 15 = false from rfl, show eqZ (18 : Int) 16 = false from rfl, show eqZ (18 : Int) 17 = false from rfl, show eqZ (18 : Int) 18 = true from rfl, show eqZ (18 : Int) 19 = false from rfl, clT_some, q4_int, q18_ag, bd_some_eq, bj_inl, bj_inr, cond_true, cond_false, rt_some_eq, T0, T1, I0, I1, I10, I21, W1, W2, R0, R1, G0, G1]
  refine enc4_congr ?_ ?_ ?_ ?_ <;> simp only [twoM] <;> ac_rfl
theorem c24_19 (n : Nat) {k r x0 x1 x2 k' r' x0' x1' x2' : Int} {m m' : TM (latT hg)} (hm : IsTy m r x0 x1 x2) (hm' : IsTy m' r' x0' x1' x2') (hr : okR2 19 m.r m'.r = true) : cl (n + 11) 24 [.agg [d, e, .int .i64 ((bot (latT hg)).1 : Int)], .int .i64 19, ty5 k r x0 x1 x2, ty5 k' r' x0' x1' x2'] = some (enc4 (twoM 19 m m')) := by
  have h26 := c26 h hu hg n (k := k) hm
  have h26' := c26 h hu hg n (k := k') hm'
  have h54 := c54 h hu (n + 9) hg (k := k) hm
  have h54' := c54 h hu (n + 9) hg (k := k') hm'
  have h56 := c56 h hu hg n (k := k) (k' := k') hm hm'
  simp only [ty5] at h26 h26' h54 h54' h56
  refine in24 d e _ _ _ _ _ _ _ _ _ _ _ _ h.fz hu.fz rfl ?_
  unfold S24
  have e3 := hm.x2
  have e4 := hm'.x2
  subst e3 e4
  simp only [h26, h26', h54, h54', h56, j25_2 h hu hg (n + 1), c55_1 h hu hg n, c55_2 h hu hg n, bot_J, show eqZ (19 : Int) 33 = false from rfl, show eqZ (19 : Int) 34 = false from rfl, show eqZ (19 : Int) 35 = false from rfl, show eqZ (19 : Int) 36 = false from rfl, show eqZ (19 : Int) 37 = false from rfl, show eqZ (19 : Int) 38 = false from rfl, show eqZ (19 : Int) 39 = false from rfl, show eqZ (19 : Int) 40 = false from rfl, show eqZ (19 : Int) 15 = false from rfl, show eqZ (19 : Int) 16 = false from rfl, show eqZ (19 : Int) 17 = false from rfl, show eqZ (19 : Int) 18 = false from rfl, show eqZ (19 : Int) 19 = true from rfl, clT_some, q4_int, q18_ag, bd_some_eq, bj_inl, bj_inr, cond_true, cond_false, rt_some_eq, T0, T1, I0, I1, I10, I21, W1, W2, R0, R1, G0, G1]
  refine enc4_congr ?_ ?_ ?_ ?_ <;> simp only [twoM] <;> ac_rfl
theorem c24_20 (n : Nat) {k r x0 x1 x2 k' r' x0' x1' x2' : Int} {m m' : TM (latT hg)} (hm : IsTy m r x0 x1 x2) (hm' : IsTy m' r' x0' x1' x2') (hr : okR2 20 m.r m'.r = true) : cl (n + 11) 24 [.agg [d, e, .int .i64 ((bot (latT hg)).1 : Int)], .int .i64 20, ty5 k r x0 x1 x2, ty5 k' r' x0' x1' x2'] = some (enc4 (twoM 20 m m')) := by
  have h26 := c26 h hu hg n (k := k) hm
  have h26' := c26 h hu hg n (k := k') hm'
  have h54 := c54 h hu (n + 9) hg (k := k) hm
  have h54' := c54 h hu (n + 9) hg (k := k') hm'
  have h56 := c56 h hu hg n (k := k) (k' := k') hm hm'
  simp only [ty5] at h26 h26' h54 h54' h56
  refine in24 d e _ _ _ _ _ _ _ _ _ _ _ _ h.fz hu.fz rfl ?_
  unfold S24
  have e1 := hm.r
  have e2 := hm'.r
  have e3 := hm.x2
  have e4 := hm'.x2
  subst e1 e2 e3 e4
  simp only [h26, h26', h54, h54', h56, j25_2 h hu hg (n + 1), c55_1 h hu hg n, c55_2 h hu hg n, bot_J, show eqZ (20 : Int) 33 = false from rfl, show eqZ (20 : Int) 34 = false from rfl, show eqZ (20 : Int) 35 = false from rfl, show eqZ (20 : Int) 36 = false from rfl, show eqZ (20 : Int) 37 = false from rfl, show eqZ (20 : Int) 38 = false from rfl, show eqZ (20 : Int) 39 = false from rfl, show eqZ (20 : Int) 40 = false from rfl, show eqZ (20 : Int) 15 = false from rfl, show eqZ (20 : Int) 16 = false from rfl, show eqZ (20 : Int) 17 = false from rfl, show eqZ (20 : Int) 18 = false from rfl, show eqZ (20 : Int) 19 = false from rfl, clT_some, q4_int, q18_ag, bd_some_eq, bj_inl, bj_inr, cond_true, cond_false, rt_some_eq, T0, T1, I0, I1, I10, I21, W1, W2, R0, R1, G0, G1]
  simp only [twoM]
  cases eqZ (m.r : Int) (m'.r : Int) <;> cases ltZ 0 (m.r : Int) <;> simp only [h26, h26', h54, h54', h56, j25_2 h hu hg (n + 1), c55_1 h hu hg n, c55_2 h hu hg n, bot_J, clT_some, q4_int, q18_ag, bd_some_eq, bj_inl, bj_inr, cond_true, cond_false, rt_some_eq, T0, T1, I0, I1, I10, I21, W1, W2, R0, R1, G0, G1] <;> rfl
theorem c24_21 (n : Nat) {k r x0 x1 x2 k' r' x0' x1' x2' : Int} {m m' : TM (latT hg)} (hm : IsTy m r x0 x1 x2) (hm' : IsTy m' r' x0' x1' x2') (hr : okR2 21 m.r m'.r = true) : cl (n + 11) 24 [.agg [d, e, .int .i64 ((bot (latT hg)).1 : Int)], .int .i64 21, ty5 k r x0 x1 x2, ty5 k' r' x0' x1' x2'] = some (enc4 (twoM 21 m m')) := by
  have h26 := c26 h hu hg n (k := k) hm
  have h26' := c26 h hu hg n (k := k') hm'
  have h54 := c54 h hu (n + 9) hg (k := k) hm
  have h54' := c54 h hu (n + 9) hg (k := k') hm'
  have h56 := c56 h hu hg n (k := k) (k' := k') hm hm'
  simp only [ty5] at h26 h26' h54 h54' h56
  refine in24 d e _ _ _ _ _ _ _ _ _ _ _ _ h.fz hu.fz rfl ?_
  unfold S24
  have e1 := hm.r
  have e2 := hm'.r
  have e3 := hm.x2
  have e4 := hm'.x2
  subst e1 e2 e3 e4
  simp only [h26, h26', h54, h54', h56, j25_2 h hu hg (n + 1), c55_1 h hu hg n, c55_2 h hu hg n, bot_J, show eqZ (21 : Int) 33 = false from rfl, show eqZ (21 : Int) 34 = false from rfl, show eqZ (21 : Int) 35 = false from rfl, show eqZ (21 : Int) 36 = false from rfl, show eqZ (21 : Int) 37 = false from rfl, show eqZ (21 : Int) 38 = false from rfl, show eqZ (21 : Int) 39 = false from rfl, show eqZ (21 : Int) 40 = false from rfl, show eqZ (21 : Int) 15 = false from rfl, show eqZ (21 : Int) 16 = false from rfl, show eqZ (21 : Int) 17 = false from rfl, show eqZ (21 : Int) 18 = false from rfl, show eqZ (21 : Int) 19 = false from rfl, clT_some, q4_int, q18_ag, bd_some_eq, bj_inl, bj_inr, cond_true, cond_false, rt_some_eq, T0, T1, I0, I1, I10, I21, W1, W2, R0, R1, G0, G1]
  simp only [twoM]
  cases eqZ (m.r : Int) (m'.r : Int) <;> cases ltZ 0 (m.r : Int) <;> simp only [h26, h26', h54, h54', h56, j25_2 h hu hg (n + 1), c55_1 h hu hg n, c55_2 h hu hg n, bot_J, clT_some, q4_int, q18_ag, bd_some_eq, bj_inl, bj_inr, cond_true, cond_false, rt_some_eq, T0, T1, I0, I1, I10, I21, W1, W2, R0, R1, G0, G1] <;> rfl
theorem c24_22 (n : Nat) {k r x0 x1 x2 k' r' x0' x1' x2' : Int} {m m' : TM (latT hg)} (hm : IsTy m r x0 x1 x2) (hm' : IsTy m' r' x0' x1' x2') (hr : okR2 22 m.r m'.r = true) : cl (n + 11) 24 [.agg [d, e, .int .i64 ((bot (latT hg)).1 : Int)], .int .i64 22, ty5 k r x0 x1 x2, ty5 k' r' x0' x1' x2'] = some (enc4 (twoM 22 m m')) := by
  have h26 := c26 h hu hg n (k := k) hm
  have h26' := c26 h hu hg n (k := k') hm'
  have h54 := c54 h hu (n + 9) hg (k := k) hm
  have h54' := c54 h hu (n + 9) hg (k := k') hm'
  have h56 := c56 h hu hg n (k := k) (k' := k') hm hm'
  simp only [ty5] at h26 h26' h54 h54' h56
  refine in24 d e _ _ _ _ _ _ _ _ _ _ _ _ h.fz hu.fz rfl ?_
  unfold S24
  have e1 := hm.r
  have e2 := hm'.r
  have e3 := hm.x2
  have e4 := hm'.x2
  subst e1 e2 e3 e4
  simp only [h26, h26', h54, h54', h56, j25_2 h hu hg (n + 1), c55_1 h hu hg n, c55_2 h hu hg n, bot_J, show eqZ (22 : Int) 33 = false from rfl, show eqZ (22 : Int) 34 = false from rfl, show eqZ (22 : Int) 35 = false from rfl, show eqZ (22 : Int) 36 = false from rfl, show eqZ (22 : Int) 37 = false from rfl, show eqZ (22 : Int) 38 = false from rfl, show eqZ (22 : Int) 39 = false from rfl, show eqZ (22 : Int) 40 = false from rfl, show eqZ (22 : Int) 15 = false from rfl, show eqZ (22 : Int) 16 = false from rfl, show eqZ (22 : Int) 17 = false from rfl, show eqZ (22 : Int) 18 = false from rfl, show eqZ (22 : Int) 19 = false from rfl, clT_some, q4_int, q18_ag, bd_some_eq, bj_inl, bj_inr, cond_true, cond_false, rt_some_eq, T0, T1, I0, I1, I10, I21, W1, W2, R0, R1, G0, G1]
  simp only [twoM]
  cases eqZ (m.r : Int) (m'.r : Int) <;> cases ltZ 0 (m.r : Int) <;> simp only [h26, h26', h54, h54', h56, j25_2 h hu hg (n + 1), c55_1 h hu hg n, c55_2 h hu hg n, bot_J, clT_some, q4_int, q18_ag, bd_some_eq, bj_inl, bj_inr, cond_true, cond_false, rt_some_eq, T0, T1, I0, I1, I10, I21, W1, W2, R0, R1, G0, G1] <;> rfl
theorem c24_23 (n : Nat) {k r x0 x1 x2 k' r' x0' x1' x2' : Int} {m m' : TM (latT hg)} (hm : IsTy m r x0 x1 x2) (hm' : IsTy m' r' x0' x1' x2') (hr : okR2 23 m.r m'.r = true) : cl (n + 11) 24 [.agg [d, e, .int .i64 ((bot (latT hg)).1 : Int)], .int .i64 23, ty5 k r x0 x1 x2, ty5 k' r' x0' x1' x2'] = some (enc4 (twoM 23 m m')) := by
  have h26 := c26 h hu hg n (k := k) hm
  have h26' := c26 h hu hg n (k := k') hm'
  have h54 := c54 h hu (n + 9) hg (k := k) hm
  have h54' := c54 h hu (n + 9) hg (k := k') hm'
  have h56 := c56 h hu hg n (k := k) (k' := k') hm hm'
  simp only [ty5] at h26 h26' h54 h54' h56
  refine in24 d e _ _ _ _ _ _ _ _ _ _ _ _ h.fz hu.fz rfl ?_
  unfold S24
  have e1 := hm.r
  have e2 := hm'.r
  have e3 := hm.x2
  have e4 := hm'.x2
  subst e1 e2 e3 e4
  simp only [h26, h26', h54, h54', h56, j25_2 h hu hg (n + 1), c55_1 h hu hg n, c55_2 h hu hg n, bot_J, show eqZ (23 : Int) 33 = false from rfl, show eqZ (23 : Int) 34 = false from rfl, show eqZ (23 : Int) 35 = false from rfl, show eqZ (23 : Int) 36 = false from rfl, show eqZ (23 : Int) 37 = false from rfl, show eqZ (23 : Int) 38 = false from rfl, show eqZ (23 : Int) 39 = false from rfl, show eqZ (23 : Int) 40 = false from rfl, show eqZ (23 : Int) 15 = false from rfl, show eqZ (23 : Int) 16 = false from rfl, show eqZ (23 : Int) 17 = false from rfl, show eqZ (23 : Int) 18 = false from rfl, show eqZ (23 : Int) 19 = false from rfl, clT_some, q4_int, q18_ag, bd_some_eq, bj_inl, bj_inr, cond_true, cond_false, rt_some_eq, T0, T1, I0, I1, I10, I21, W1, W2, R0, R1, G0, G1]
  simp only [twoM]
  cases eqZ (m.r : Int) (m'.r : Int) <;> cases ltZ 0 (m.r : Int) <;> simp only [h26, h26', h54, h54', h56, j25_2 h hu hg (n + 1), c55_1 h hu hg n, c55_2 h hu hg n, bot_J, clT_some, q4_int, q18_ag, bd_some_eq, bj_inl, bj_inr, cond_true, cond_false, rt_some_eq, T0, T1, I0, I1, I10, I21, W1, W2, R0, R1, G0, G1] <;> rfl
theorem c24_24 (n : Nat) {k r x0 x1 x2 k' r' x0' x1' x2' : Int} {m m' : TM (latT hg)} (hm : IsTy m r x0 x1 x2) (hm' : IsTy m' r' x0' x1' x2') (hr : okR2 24 m.r m'.r = true) : cl (n + 11) 24 [.agg [d, e, .int .i64 ((bot (latT hg)).1 : Int)], .int .i64 24, ty5 k r x0 x1 x2, ty5 k' r' x0' x1' x2'] = some (enc4 (twoM 24 m m')) := by
  have h26 := c26 h hu hg n (k := k) hm
  have h26' := c26 h hu hg n (k := k') hm'
  have h54 := c54 h hu (n + 9) hg (k := k) hm
  have h54' := c54 h hu (n + 9) hg (k := k') hm'
  have h56 := c56 h hu hg n (k := k) (k' := k') hm hm'
  simp only [ty5] at h26 h26' h54 h54' h56
  refine in24 d e _ _ _ _ _ _ _ _ _ _ _ _ h.fz hu.fz rfl ?_
  unfold S24
  have e1 := hm.r
  have e2 := hm'.r
  have e3 := hm.x2
  have e4 := hm'.x2
  subst e1 e2 e3 e4
  simp only [h26, h26', h54, h54', h56, j25_2 h hu hg (n + 1), c55_1 h hu hg n, c55_2 h hu hg n, bot_J, show eqZ (24 : Int) 33 = false from rfl, show eqZ (24 : Int) 34 = false from rfl, show eqZ (24 : Int) 35 = false from rfl, show eqZ (24 : Int) 36 = false from rfl, show eqZ (24 : Int) 37 = false from rfl, show eqZ (24 : Int) 38 = false from rfl, show eqZ (24 : Int) 39 = false from rfl, show eqZ (24 : Int) 40 = false from rfl, show eqZ (24 : Int) 15 = false from rfl, show eqZ (24 : Int) 16 = false from rfl, show eqZ (24 : Int) 17 = false from rfl, show eqZ (24 : Int) 18 = false from rfl, show eqZ (24 : Int) 19 = false from rfl, clT_some, q4_int, q18_ag, bd_some_eq, bj_inl, bj_inr, cond_true, cond_false, rt_some_eq, T0, T1, I0, I1, I10, I21, W1, W2, R0, R1, G0, G1]
  simp only [twoM]
  cases eqZ (m.r : Int) (m'.r : Int) <;> cases ltZ 0 (m.r : Int) <;> simp only [h26, h26', h54, h54', h56, j25_2 h hu hg (n + 1), c55_1 h hu hg n, c55_2 h hu hg n, bot_J, clT_some, q4_int, q18_ag, bd_some_eq, bj_inl, bj_inr, cond_true, cond_false, rt_some_eq, T0, T1, I0, I1, I10, I21, W1, W2, R0, R1, G0, G1] <;> rfl
theorem c24_25 (n : Nat) {k r x0 x1 x2 k' r' x0' x1' x2' : Int} {m m' : TM (latT hg)} (hm : IsTy m r x0 x1 x2) (hm' : IsTy m' r' x0' x1' x2') (hr : okR2 25 m.r m'.r = true) : cl (n + 11) 24 [.agg [d, e, .int .i64 ((bot (latT hg)).1 : Int)], .int .i64 25, ty5 k r x0 x1 x2, ty5 k' r' x0' x1' x2'] = some (enc4 (twoM 25 m m')) := by
  have h26 := c26 h hu hg n (k := k) hm
  have h26' := c26 h hu hg n (k := k') hm'
  have h54 := c54 h hu (n + 9) hg (k := k) hm
  have h54' := c54 h hu (n + 9) hg (k := k') hm'
  have h56 := c56 h hu hg n (k := k) (k' := k') hm hm'
  simp only [ty5] at h26 h26' h54 h54' h56
  refine in24 d e _ _ _ _ _ _ _ _ _ _ _ _ h.fz hu.fz rfl ?_
  unfold S24
  have e1 := hm.r
  have e2 := hm'.r
  have e3 := hm.x2
  have e4 := hm'.x2
  subst e1 e2 e3 e4
  simp only [h26, h26', h54, h54', h56, j25_2 h hu hg (n + 1), c55_1 h hu hg n, c55_2 h hu hg n, bot_J, show eqZ (25 : Int) 33 = false from rfl, show eqZ (25 : Int) 34 = false from rfl, show eqZ (25 : Int) 35 = false from rfl, show eqZ (25 : Int) 36 = false from rfl, show eqZ (25 : Int) 37 = false from rfl, show eqZ (25 : Int) 38 = false from rfl, show eqZ (25 : Int) 39 = false from rfl, show eqZ (25 : Int) 40 = false from rfl, show eqZ (25 : Int) 15 = false from rfl, show eqZ (25 : Int) 16 = false from rfl, show eqZ (25 : Int) 17 = false from rfl, show eqZ (25 : Int) 18 = false from rfl, show eqZ (25 : Int) 19 = false from rfl, clT_some, q4_int, q18_ag, bd_some_eq, bj_inl, bj_inr, cond_true, cond_false, rt_some_eq, T0, T1, I0, I1, I10, I21, W1, W2, R0, R1, G0, G1]
  simp only [twoM]
  cases eqZ (m.r : Int) (m'.r : Int) <;> cases ltZ 0 (m.r : Int) <;> simp only [h26, h26', h54, h54', h56, j25_2 h hu hg (n + 1), c55_1 h hu hg n, c55_2 h hu hg n, bot_J, clT_some, q4_int, q18_ag, bd_some_eq, bj_inl, bj_inr, cond_true, cond_false, rt_some_eq, T0, T1, I0, I1, I10, I21, W1, W2, R0, R1, G0, G1] <;> rfl
theorem c24_26 (n : Nat) {k r x0 x1 x2 k' r' x0' x1' x2' : Int} {m m' : TM (latT hg)} (hm : IsTy m r x0 x1 x2) (hm' : IsTy m' r' x0' x1' x2') (hr : okR2 26 m.r m'.r = true) : cl (n + 11) 24 [.agg [d, e, .int .i64 ((bot (latT hg)).1 : Int)], .int .i64 26, ty5 k r x0 x1 x2, ty5 k' r' x0' x1' x2'] = some (enc4 (twoM 26 m m')) := by
  have h26 := c26 h hu hg n (k := k) hm
  have h26' := c26 h hu hg n (k := k') hm'
  have h54 := c54 h hu (n + 9) hg (k := k) hm
  have h54' := c54 h hu (n + 9) hg (k := k') hm'
  have h56 := c56 h hu hg n (k := k) (k' := k') hm hm'
  simp only [ty5] at h26 h26' h54 h54' h56
  refine in24 d e _ _ _ _ _ _ _ _ _ _ _ _ h.fz hu.fz rfl ?_
  unfold S24
  have e1 := hm.r
  have e2 := hm'.r
  have e3 := hm.x2
  have e4 := hm'.x2
  subst e1 e2 e3 e4
  simp only [h26, h26', h54, h54', h56, j25_2 h hu hg (n + 1), c55_1 h hu hg n, c55_2 h hu hg n, bot_J, show eqZ (26 : Int) 33 = false from rfl, show eqZ (26 : Int) 34 = false from rfl, show eqZ (26 : Int) 35 = false from rfl, show eqZ (26 : Int) 36 = false from rfl, show eqZ (26 : Int) 37 = false from rfl, show eqZ (26 : Int) 38 = false from rfl, show eqZ (26 : Int) 39 = false from rfl, show eqZ (26 : Int) 40 = false from rfl, show eqZ (26 : Int) 15 = false from rfl, show eqZ (26 : Int) 16 = false from rfl, show eqZ (26 : Int) 17 = false from rfl, show eqZ (26 : Int) 18 = false from rfl, show eqZ (26 : Int) 19 = false from rfl, clT_some, q4_int, q18_ag, bd_some_eq, bj_inl, bj_inr, cond_true, cond_false, rt_some_eq, T0, T1, I0, I1, I10, I21, W1, W2, R0, R1, G0, G1]
  simp only [twoM]
  cases eqZ (m.r : Int) (m'.r : Int) <;> cases ltZ 0 (m.r : Int) <;> simp only [h26, h26', h54, h54', h56, j25_2 h hu hg (n + 1), c55_1 h hu hg n, c55_2 h hu hg n, bot_J, clT_some, q4_int, q18_ag, bd_some_eq, bj_inl, bj_inr, cond_true, cond_false, rt_some_eq, T0, T1, I0, I1, I10, I21, W1, W2, R0, R1, G0, G1] <;> rfl
theorem c24_27 (n : Nat) {k r x0 x1 x2 k' r' x0' x1' x2' : Int} {m m' : TM (latT hg)} (hm : IsTy m r x0 x1 x2) (hm' : IsTy m' r' x0' x1' x2') (hr : okR2 27 m.r m'.r = true) : cl (n + 11) 24 [.agg [d, e, .int .i64 ((bot (latT hg)).1 : Int)], .int .i64 27, ty5 k r x0 x1 x2, ty5 k' r' x0' x1' x2'] = some (enc4 (twoM 27 m m')) := by
  have h26 := c26 h hu hg n (k := k) hm
  have h26' := c26 h hu hg n (k := k') hm'
  have h54 := c54 h hu (n + 9) hg (k := k) hm
  have h54' := c54 h hu (n + 9) hg (k := k') hm'
  have h56 := c56 h hu hg n (k := k) (k' := k') hm hm'
  simp only [ty5] at h26 h26' h54 h54' h56
  refine in24 d e _ _ _ _ _ _ _ _ _ _ _ _ h.fz hu.fz rfl ?_
  unfold S24
  have e1 := hm.r
  have e2 := hm'.r
  have e3 := hm.x2
  have e4 := hm'.x2
  subst e1 e2 e3 e4
  simp only [h26, h26', h54, h54', h56, j25_2 h hu hg (n + 1), c55_1 h hu hg n, c55_2 h hu hg n, bot_J, show eqZ (27 : Int) 33 = false from rfl, show eqZ (27 : Int) 34 = false from rfl, show eqZ (27 : Int) 35 = false from rfl, show eqZ (27 : Int) 36 = false from rfl, show eqZ (27 : Int) 37 = false from rfl, show eqZ (27 : Int) 38 = false from rfl, show eqZ (27 : Int) 39 = false from rfl, show eqZ (27 : Int) 40 = false from rfl, show eqZ (27 : Int) 15 = false from rfl, show eqZ (27 : Int) 16 = false from rfl, show eqZ (27 : Int) 17 = false from rfl, show eqZ (27 : Int) 18 = false from rfl, show eqZ (27 : Int) 19 = false from rfl, clT_some, q4_int, q18_ag, bd_some_eq, bj_inl, bj_inr, cond_true, cond_false, rt_some_eq, T0, T1, I0, I1, I10, I21, W1, W2, R0, R1, G0, G1]
  simp only [twoM]
  cases eqZ (m.r : Int) (m'.r : Int) <;> cases ltZ 0 (m.r : Int) <;> simp only [h26, h26', h54, h54', h56, j25_2 h hu hg (n + 1), c55_1 h hu hg n, c55_2 h hu hg n, bot_J, clT_some, q4_int, q18_ag, bd_some_eq, bj_inl, bj_inr, cond_true, cond_false, rt_some_eq, T0, T1, I0, I1, I10, I21, W1, W2, R0, R1, G0, G1] <;> rfl
theorem c24_28 (n : Nat) {k r x0 x1 x2 k' r' x0' x1' x2' : Int} {m m' : TM (latT hg)} (hm : IsTy m r x0 x1 x2) (hm' : IsTy m' r' x0' x1' x2') (hr : okR2 28 m.r m'.r = true) : cl (n + 11) 24 [.agg [d, e, .int .i64 ((bot (latT hg)).1 : Int)], .int .i64 28, ty5 k r x0 x1 x2, ty5 k' r' x0' x1' x2'] = some (enc4 (twoM 28 m m')) := by
  have h26 := c26 h hu hg n (k := k) hm
  have h26' := c26 h hu hg n (k := k') hm'
  have h54 := c54 h hu (n + 9) hg (k := k) hm
  have h54' := c54 h hu (n + 9) hg (k := k') hm'
  have h56 := c56 h hu hg n (k := k) (k' := k') hm hm'
  simp only [ty5] at h26 h26' h54 h54' h56
  refine in24 d e _ _ _ _ _ _ _ _ _ _ _ _ h.fz hu.fz rfl ?_
  unfold S24
  have e1 := hm.r
  have e2 := hm'.r
  have e3 := hm.x2
  have e4 := hm'.x2
  subst e1 e2 e3 e4
  simp only [h26, h26', h54, h54', h56, j25_2 h hu hg (n + 1), c55_1 h hu hg n, c55_2 h hu hg n, bot_J, show eqZ (28 : Int) 33 = false from rfl, show eqZ (28 : Int) 34 = false from rfl, show eqZ (28 : Int) 35 = false from rfl, show eqZ (28 : Int) 36 = false from rfl, show eqZ (28 : Int) 37 = false from rfl, show eqZ (28 : Int) 38 = false from rfl, show eqZ (28 : Int) 39 = false from rfl, show eqZ (28 : Int) 40 = false from rfl, show eqZ (28 : Int) 15 = false from rfl, show eqZ (28 : Int) 16 = false from rfl, show eqZ (28 : Int) 17 = false from rfl, show eqZ (28 : Int) 18 = false from rfl, show eqZ (28 : Int) 19 = false from rfl, clT_some, q4_int, q18_ag, bd_some_eq, bj_inl, bj_inr, cond_true, cond_false, rt_some_eq, T0, T1, I0, I1, I10, I21, W1, W2, R0, R1, G0, G1]
  simp only [twoM]
  cases eqZ (m.r : Int) (m'.r : Int) <;> cases ltZ 0 (m.r : Int) <;> simp only [h26, h26', h54, h54', h56, j25_2 h hu hg (n + 1), c55_1 h hu hg n, c55_2 h hu hg n, bot_J, clT_some, q4_int, q18_ag, bd_some_eq, bj_inl, bj_inr, cond_true, cond_false, rt_some_eq, T0, T1, I0, I1, I10, I21, W1, W2, R0, R1, G0, G1] <;> rfl
theorem c24_29 (n : Nat) {k r x0 x1 x2 k' r' x0' x1' x2' : Int} {m m' : TM (latT hg)} (hm : IsTy m r x0 x1 x2) (hm' : IsTy m' r' x0' x1' x2') (hr : okR2 29 m.r m'.r = true) : cl (n + 11) 24 [.agg [d, e, .int .i64 ((bot (latT hg)).1 : Int)], .int .i64 29, ty5 k r x0 x1 x2, ty5 k' r' x0' x1' x2'] = some (enc4 (twoM 29 m m')) := by
  have h26 := c26 h hu hg n (k := k) hm
  have h26' := c26 h hu hg n (k := k') hm'
  have h54 := c54 h hu (n + 9) hg (k := k) hm
  have h54' := c54 h hu (n + 9) hg (k := k') hm'
  have h56 := c56 h hu hg n (k := k) (k' := k') hm hm'
  simp only [ty5] at h26 h26' h54 h54' h56
  refine in24 d e _ _ _ _ _ _ _ _ _ _ _ _ h.fz hu.fz rfl ?_
  unfold S24
  have e1 := hm.r
  have e2 := hm'.r
  have e3 := hm.x2
  have e4 := hm'.x2
  subst e1 e2 e3 e4
  simp only [h26, h26', h54, h54', h56, j25_2 h hu hg (n + 1), c55_1 h hu hg n, c55_2 h hu hg n, bot_J, show eqZ (29 : Int) 33 = false from rfl, show eqZ (29 : Int) 34 = false from rfl, show eqZ (29 : Int) 35 = false from rfl, show eqZ (29 : Int) 36 = false from rfl, show eqZ (29 : Int) 37 = false from rfl, show eqZ (29 : Int) 38 = false from rfl, show eqZ (29 : Int) 39 = false from rfl, show eqZ (29 : Int) 40 = false from rfl, show eqZ (29 : Int) 15 = false from rfl, show eqZ (29 : Int) 16 = false from rfl, show eqZ (29 : Int) 17 = false from rfl, show eqZ (29 : Int) 18 = false from rfl, show eqZ (29 : Int) 19 = false from rfl, clT_some, q4_int, q18_ag, bd_some_eq, bj_inl, bj_inr, cond_true, cond_false, rt_some_eq, T0, T1, I0, I1, I10, I21, W1, W2, R0, R1, G0, G1]
  simp only [twoM]
  cases eqZ (m.r : Int) (m'.r : Int) <;> cases ltZ 0 (m.r : Int) <;> simp only [h26, h26', h54, h54', h56, j25_2 h hu hg (n + 1), c55_1 h hu hg n, c55_2 h hu hg n, bot_J, clT_some, q4_int, q18_ag, bd_some_eq, bj_inl, bj_inr, cond_true, cond_false, rt_some_eq, T0, T1, I0, I1, I10, I21, W1, W2, R0, R1, G0, G1] <;> rfl
theorem c24_30 (n : Nat) {k r x0 x1 x2 k' r' x0' x1' x2' : Int} {m m' : TM (latT hg)} (hm : IsTy m r x0 x1 x2) (hm' : IsTy m' r' x0' x1' x2') (hr : okR2 30 m.r m'.r = true) : cl (n + 11) 24 [.agg [d, e, .int .i64 ((bot (latT hg)).1 : Int)], .int .i64 30, ty5 k r x0 x1 x2, ty5 k' r' x0' x1' x2'] = some (enc4 (twoM 30 m m')) := by
  have h26 := c26 h hu hg n (k := k) hm
  have h26' := c26 h hu hg n (k := k') hm'
  have h54 := c54 h hu (n + 9) hg (k := k) hm
  have h54' := c54 h hu (n + 9) hg (k := k') hm'
  have h56 := c56 h hu hg n (k := k) (k' := k') hm hm'
  simp only [ty5] at h26 h26' h54 h54' h56
  refine in24 d e _ _ _ _ _ _ _ _ _ _ _ _ h.fz hu.fz rfl ?_
  unfold S24
  have e1 := hm.r
  have e2 := hm'.r
  have e3 := hm.x2
  have e4 := hm'.x2
  subst e1 e2 e3 e4
  simp only [h26, h26', h54, h54', h56, j25_2 h hu hg (n + 1), c55_1 h hu hg n, c55_2 h hu hg n, bot_J, show eqZ (30 : Int) 33 = false from rfl, show eqZ (30 : Int) 34 = false from rfl, show eqZ (30 : Int) 35 = false from rfl, show eqZ (30 : Int) 36 = false from rfl, show eqZ (30 : Int) 37 = false from rfl, show eqZ (30 : Int) 38 = false from rfl, show eqZ (30 : Int) 39 = false from rfl, show eqZ (30 : Int) 40 = false from rfl, show eqZ (30 : Int) 15 = false from rfl, show eqZ (30 : Int) 16 = false from rfl, show eqZ (30 : Int) 17 = false from rfl, show eqZ (30 : Int) 18 = false from rfl, show eqZ (30 : Int) 19 = false from rfl, clT_some, q4_int, q18_ag, bd_some_eq, bj_inl, bj_inr, cond_true, cond_false, rt_some_eq, T0, T1, I0, I1, I10, I21, W1, W2, R0, R1, G0, G1]
  simp only [twoM]
  cases eqZ (m.r : Int) (m'.r : Int) <;> cases ltZ 0 (m.r : Int) <;> simp only [h26, h26', h54, h54', h56, j25_2 h hu hg (n + 1), c55_1 h hu hg n, c55_2 h hu hg n, bot_J, clT_some, q4_int, q18_ag, bd_some_eq, bj_inl, bj_inr, cond_true, cond_false, rt_some_eq, T0, T1, I0, I1, I10, I21, W1, W2, R0, R1, G0, G1] <;> rfl
theorem c24_31 (n : Nat) {k r x0 x1 x2 k' r' x0' x1' x2' : Int} {m m' : TM (latT hg)} (hm : IsTy m r x0 x1 x2) (hm' : IsTy m' r' x0' x1' x2') (hr : okR2 31 m.r m'.r = true) : cl (n + 11) 24 [.agg [d, e, .int .i64 ((bot (latT hg)).1 : Int)], .int .i64 31, ty5 k r x0 x1 x2, ty5 k' r' x0' x1' x2'] = some (enc4 (twoM 31 m m')) := by
  have h26 := c26 h hu hg n (k := k) hm
  have h26' := c26 h hu hg n (k := k') hm'
  have h54 := c54 h hu (n + 9) hg (k := k) hm
  have h54' := c54 h hu (n + 9) hg (k := k') hm'
  have h56 := c56 h hu hg n (k := k) (k' := k') hm hm'
  simp only [ty5] at h26 h26' h54 h54' h56
  refine in24 d e _ _ _ _ _ _ _ _ _ _ _ _ h.fz hu.fz rfl ?_
  unfold S24
  have e1 := hm.r
  have e2 := hm'.r
  have e3 := hm.x2
  have e4 := hm'.x2
  subst e1 e2 e3 e4
  simp only [h26, h26', h54, h54', h56, j25_2 h hu hg (n + 1), c55_1 h hu hg n, c55_2 h hu hg n, bot_J, show eqZ (31 : Int) 33 = false from rfl, show eqZ (31 : Int) 34 = false from rfl, show eqZ (31 : Int) 35 = false from rfl, show eqZ (31 : Int) 36 = false from rfl, show eqZ (31 : Int) 37 = false from rfl, show eqZ (31 : Int) 38 = false from rfl, show eqZ (31 : Int) 39 = false from rfl, show eqZ (31 : Int) 40 = false from rfl, show eqZ (31 : Int) 15 = false from rfl, show eqZ (31 : Int) 16 = false from rfl, show eqZ (31 : Int) 17 = false from rfl, show eqZ (31 : Int) 18 = false from rfl, show eqZ (31 : Int) 19 = false from rfl, clT_some, q4_int, q18_ag, bd_some_eq, bj_inl, bj_inr, cond_true, cond_false, rt_some_eq, T0, T1, I0, I1, I10, I21, W1, W2, R0, R1, G0, G1]
  simp only [twoM]
  cases eqZ (m.r : Int) (m'.r : Int) <;> cases ltZ 0 (m.r : Int) <;> simp only [h26, h26', h54, h54', h56, j25_2 h hu hg (n + 1), c55_1 h hu hg n, c55_2 h hu hg n, bot_J, clT_some, q4_int, q18_ag, bd_some_eq, bj_inl, bj_inr, cond_true, cond_false, rt_some_eq, T0, T1, I0, I1, I10, I21, W1, W2, R0, R1, G0, G1] <;> rfl
theorem c24_32 (n : Nat) {k r x0 x1 x2 k' r' x0' x1' x2' : Int} {m m' : TM (latT hg)} (hm : IsTy m r x0 x1 x2) (hm' : IsTy m' r' x0' x1' x2') (hr : okR2 32 m.r m'.r = true) : cl (n + 11) 24 [.agg [d, e, .int .i64 ((bot (latT hg)).1 : Int)], .int .i64 32, ty5 k r x0 x1 x2, ty5 k' r' x0' x1' x2'] = some (enc4 (twoM 32 m m')) := by
  have h26 := c26 h hu hg n (k := k) hm
  have h26' := c26 h hu hg n (k := k') hm'
  have h54 := c54 h hu (n + 9) hg (k := k) hm
  have h54' := c54 h hu (n + 9) hg (k := k') hm'
  have h56 := c56 h hu hg n (k := k) (k' := k') hm hm'
  simp only [ty5] at h26 h26' h54 h54' h56
  refine in24 d e _ _ _ _ _ _ _ _ _ _ _ _ h.fz hu.fz rfl ?_
  unfold S24
  have e1 := hm.r
  have e2 := hm'.r
  have e3 := hm.x2
  have e4 := hm'.x2
  subst e1 e2 e3 e4
  simp only [h26, h26', h54, h54', h56, j25_2 h hu hg (n + 1), c55_1 h hu hg n, c55_2 h hu hg n, bot_J, show eqZ (32 : Int) 33 = false from rfl, show eqZ (32 : Int) 34 = false from rfl, show eqZ (32 : Int) 35 = false from rfl, show eqZ (32 : Int) 36 = false from rfl, show eqZ (32 : Int) 37 = false from rfl, show eqZ (32 : Int) 38 = false from rfl, show eqZ (32 : Int) 39 = false from rfl, show eqZ (32 : Int) 40 = false from rfl, show eqZ (32 : Int) 15 = false from rfl, show eqZ (32 : Int) 16 = false from rfl, show eqZ (32 : Int) 17 = false from rfl, show eqZ (32 : Int) 18 = false from rfl, show eqZ (32 : Int) 19 = false from rfl, clT_some, q4_int, q18_ag, bd_some_eq, bj_inl, bj_inr, cond_true, cond_false, rt_some_eq, T0, T1, I0, I1, I10, I21, W1, W2, R0, R1, G0, G1]
  simp only [twoM]
  cases eqZ (m.r : Int) (m'.r : Int) <;> cases ltZ 0 (m.r : Int) <;> simp only [h26, h26', h54, h54', h56, j25_2 h hu hg (n + 1), c55_1 h hu hg n, c55_2 h hu hg n, bot_J, clT_some, q4_int, q18_ag, bd_some_eq, bj_inl, bj_inr, cond_true, cond_false, rt_some_eq, T0, T1, I0, I1, I10, I21, W1, W2, R0, R1, G0, G1] <;> rfl
theorem c24_33 (n : Nat) {k r x0 x1 x2 k' r' x0' x1' x2' : Int} {m m' : TM (latT hg)} (hm : IsTy m r x0 x1 x2) (hm' : IsTy m' r' x0' x1' x2') (hr : okR2 33 m.r m'.r = true) : cl (n + 11) 24 [.agg [d, e, .int .i64 ((bot (latT hg)).1 : Int)], .int .i64 33, ty5 k r x0 x1 x2, ty5 k' r' x0' x1' x2'] = some (enc4 (twoM 33 m m')) := by
  have h26 := c26 h hu hg n (k := k) hm
  have h26' := c26 h hu hg n (k := k') hm'
  have h54 := c54 h hu (n + 9) hg (k := k) hm
  have h54' := c54 h hu (n + 9) hg (k := k') hm'
  have h56 := c56 h hu hg n (k := k) (k' := k') hm hm'
  simp only [ty5] at h26 h26' h54 h54' h56
  have h2 := hm.r2
  have h2' := hm'.r2
  have g2 : 1 ≤ m'.r := by
    have hc : m.r = 0 ∨ m.r = 1 ∨ m.r = 2 := by omega
    have hc' : m'.r = 0 ∨ m'.r = 1 ∨ m'.r = 2 := by omega
    rcases hc with hc | hc | hc <;> rcases hc' with hc' | hc' | hc' <;> rw [hc, hc'] at hr <;> first | omega | (exact absurd hr (by decide))
  refine in24 d e _ _ _ _ _ _ _ _ _ _ _ _ h.fz hu.fz rfl ?_
  unfold S24
  have e2 := hm'.x0 g2
  subst e2
  have e3 := hm.x2
  have e4 := hm'.x2
  subst e3 e4
  simp only [h26, h26', h54, h54', h56, j25_2 h hu hg (n + 1), c55_1 h hu hg n, c55_2 h hu hg n, bot_J, show eqZ (33 : Int) 33 = true from rfl, show eqZ (33 : Int) 34 = false from rfl, show eqZ (33 : Int) 35 = false from rfl, show eqZ (33 : Int) 36 = false from rfl, show eqZ (33 : Int) 37 = false from rfl, show eqZ (33 : Int) 38 = false from rfl, show eqZ (33 : Int) 39 = false from rfl, show eqZ (33 : Int) 40 = false from rfl, show eqZ (33 : Int) 15 = false from rfl, show eqZ (33 : Int) 16 = false from rfl, show eqZ (33 : Int) 17 = false from rfl, show eqZ (33 : Int) 18 = false from rfl, show eqZ (33 : Int) 19 = false from rfl, clT_some, q4_int, q18_ag, bd_some_eq, bj_inl, bj_inr, cond_true, cond_false, rt_some_eq, T0, T1, I0, I1, I10, I21, W1, W2, R0, R1, G0, G1]
  refine enc4_congr ?_ ?_ ?_ ?_ <;> simp only [twoM] <;> ac_rfl
theorem c24_34 (n : Nat) {k r x0 x1 x2 k' r' x0' x1' x2' : Int} {m m' : TM (latT hg)} (hm : IsTy m r x0 x1 x2) (hm' : IsTy m' r' x0' x1' x2') (hr : okR2 34 m.r m'.r = true) : cl (n + 11) 24 [.agg [d, e, .int .i64 ((bot (latT hg)).1 : Int)], .int .i64 34, ty5 k r x0 x1 x2, ty5 k' r' x0' x1' x2'] = some (enc4 (twoM 34 m m')) := by
  have h26 := c26 h hu hg n (k := k) hm
  have h26' := c26 h hu hg n (k := k') hm'
  have h54 := c54 h hu (n + 9) hg (k := k) hm
  have h54' := c54 h hu (n + 9) hg (k := k') hm'
  have h56 := c56 h hu hg n (k := k) (k' := k') hm hm'
  simp only [ty5] at h26 h26' h54 h54' h56
  have h2 := hm.r2
  have h2' := hm'.r2
  have g2 : 1 ≤ m'.r := by
    have hc : m.r = 0 ∨ m.r = 1 ∨ m.r = 2 := by omega
    have hc' : m'.r = 0 ∨ m'.r = 1 ∨ m'.r = 2 := by omega
    rcases hc with hc | hc | hc <;> rcases hc' with hc' | hc' | hc' <;> rw [hc, hc'] at hr <;> first | omega | (exact absurd hr (by decide))
  refine in24 d e _ _ _ _ _ _ _ _ _ _ _ _ h.fz hu.fz rfl ?_
  unfold S24
  have e2 := hm'.x0 g2
  subst e2
  have e3 := hm.x2
  have e4 := hm'.x2
  subst e3 e4
  simp only [h26, h26', h54, h54', h56, j25_2 h hu hg (n + 1), c55_1 h hu hg n, c55_2 h hu hg n, bot_J, show eqZ (34 : Int) 33 = false from rfl, show eqZ (34 : Int) 34 = true from rfl, show eqZ (34 : Int) 35 = false from rfl, show eqZ (34 : Int) 36 = false from rfl, show eqZ (34 : Int) 37 = false from rfl, show eqZ (34 : Int) 38 = false from rfl, show eqZ (34 : Int) 39 = false from rfl, show eqZ (34 : Int) 40 = false from rfl, show eqZ (34 : Int) 15 = false from rfl, show eqZ (34 : Int) 16 = false from rfl, show eqZ (34 : Int) 17 = false from rfl, show eqZ (34 : Int) 18 = false from rfl, show eqZ (34 : Int) 19 = false from rfl, clT_some, q4_int, q18_ag, bd_some_eq, bj_inl, bj_inr, cond_true, cond_false, rt_some_eq, T0, T1, I0, I1, I10, I21, W1, W2, R0, R1, G0, G1]
  refine enc4_congr ?_ ?_ ?_ ?_ <;> simp only [twoM] <;> ac_rfl
theorem c24_35 (n : Nat) {k r x0 x1 x2 k' r' x0' x1' x2' : Int} {m m' : TM (latT hg)} (hm : IsTy m r x0 x1 x2) (hm' : IsTy m' r' x0' x1' x2') (hr : okR2 35 m.r m'.r = true) : cl (n + 11) 24 [.agg [d, e, .int .i64 ((bot (latT hg)).1 : Int)], .int .i64 35, ty5 k r x0 x1 x2, ty5 k' r' x0' x1' x2'] = some (enc4 (twoM 35 m m')) := by
  have h26 := c26 h hu hg n (k := k) hm
  have h26' := c26 h hu hg n (k := k') hm'
  have h54 := c54 h hu (n + 9) hg (k := k) hm
  have h54' := c54 h hu (n + 9) hg (k := k') hm'
  have h56 := c56 h hu hg n (k := k) (k' := k') hm hm'
  simp only [ty5] at h26 h26' h54 h54' h56
  refine in24 d e _ _ _ _ _ _ _ _ _ _ _ _ h.fz hu.fz rfl ?_
  unfold S24
  have e3 := hm.x2
  have e4 := hm'.x2
  subst e3 e4
  simp only [h26, h26', h54, h54', h56, j25_2 h hu hg (n + 1), c55_1 h hu hg n, c55_2 h hu hg n, bot_J, show eqZ (35 : Int) 33 = false from rfl, show eqZ (35 : Int) 34 = false from rfl, show eqZ (35 : Int) 35 = true from rfl, show eqZ (35 : Int) 36 = false from rfl, show eqZ (35 : Int) 37 = false from rfl, show eqZ (35 : Int) 38 = false from rfl, show eqZ (35 : Int) 39 = false from rfl, show eqZ (35 : Int) 40 = false from rfl, show eqZ (35 : Int) 15 = false from rfl, show eqZ (35 : Int) 16 = false from rfl, show eqZ (35 : Int) 17 = false from rfl, show eqZ (35 : Int) 18 = false from rfl, show eqZ (35 : Int) 19 = false from rfl, clT_some, q4_int, q18_ag, bd_some_eq, bj_inl, bj_inr, cond_true, cond_false, rt_some_eq, T0, T1, I0, I1, I10, I21, W1, W2, R0, R1, G0, G1]
  refine enc4_congr ?_ ?_ ?_ ?_ <;> simp only [twoM] <;> ac_rfl
theorem c24_36 (n : Nat) {k r x0 x1 x2 k' r' x0' x1' x2' : Int} {m m' : TM (latT hg)} (hm : IsTy m r x0 x1 x2) (hm' : IsTy m' r' x0' x1' x2') (hr : okR2 36 m.r m'.r = true) : cl (n + 11) 24 [.agg [d, e, .int .i64 ((bot (latT hg)).1 : Int)], .int .i64 36, ty5 k r x0 x1 x2, ty5 k' r' x0' x1' x2'] = some (enc4 (twoM 36 m m')) := by
  have h26 := c26 h hu hg n (k := k) hm
  have h26' := c26 h hu hg n (k := k') hm'
  have h54 := c54 h hu (n + 9) hg (k := k) hm
  have h54' := c54 h hu (n + 9) hg (k := k') hm'
  have h56 := c56 h hu hg n (k := k) (k' := k') hm hm'
  simp only [ty5] at h26 h26' h54 h54' h56
  have h2 := hm.r2
  have h2' := hm'.r2
  have g1 : 1 ≤ m.r := by
    have hc : m.r = 0 ∨ m.r = 1 ∨ m.r = 2 := by omega
    have hc' : m'.r = 0 ∨ m'.r = 1 ∨ m'.r = 2 := by omega
    rcases hc with hc | hc | hc <;> rcases hc' with hc' | hc' | hc' <;> rw [hc, hc'] at hr <;> first | omega | (exact absurd hr (by decide))
  have g2 : 1 ≤ m'.r := by
    have hc : m.r = 0 ∨ m.r = 1 ∨ m.r = 2 := by omega
    have hc' : m'.r = 0 ∨ m'.r = 1 ∨ m'.r = 2 := by omega
    rcases hc with hc | hc | hc <;> rcases hc' with hc' | hc' | hc' <;> rw [hc, hc'] at hr <;> first | omega | (exact absurd hr (by decide))
  refine in24 d e _ _ _ _ _ _ _ _ _ _ _ _ h.fz hu.fz rfl ?_
  unfold S24
  have e1 := hm.x0 g1
  subst e1
  have e2 := hm'.x0 g2
  subst e2
  have e3 := hm.x2
  have e4 := hm'.x2
  subst e3 e4
  simp only [h26, h26', h54, h54', h56, j25_2 h hu hg (n + 1), c55_1 h hu hg n, c55_2 h hu hg n, bot_J, show eqZ (36 : Int) 33 = false from rfl, show eqZ (36 : Int) 34 = false from rfl, show eqZ (36 : Int) 35 = false from rfl, show eqZ (36 : Int) 36 = true from rfl, show eqZ (36 : Int) 37 = false from rfl, show eqZ (36 : Int) 38 = false from rfl, show eqZ (36 : Int) 39 = false from rfl, show eqZ (36 : Int) 40 = false from rfl, show eqZ (36 : Int) 15 = false from rfl, show eqZ (36 : Int) 16 = false from rfl, show eqZ (36 : Int) 17 = false from rfl, show eqZ (36 : Int) 18 = false from rfl, show eqZ (36 : Int) 19 = false from rfl, clT_some, q4_int, q18_ag, bd_some_eq, bj_inl, bj_inr, cond_true, cond_false, rt_some_eq, T0, T1, I0, I1, I10, I21, W1, W2, R0, R1, G0, G1]
  refine enc4_congr ?_ ?_ ?_ ?_ <;> simp only [twoM] <;> ac_rfl
theorem c24_37 (n : Nat) {k r x0 x1 x2 k' r' x0' x1' x2' : Int} {m m' : TM (latT hg)} (hm : IsTy m r x0 x1 x2) (hm' : IsTy m' r' x0' x1' x2') (hr : okR2 37 m.r m'.r = true) : cl (n + 11) 24 [.agg [d, e, .int .i64 ((bot (latT hg)).1 : Int)], .int .i64 37, ty5 k r x0 x1 x2, ty5 k' r' x0' x1' x2'] = some (enc4 (twoM 37 m m')) := by
  have h26 := c26 h hu hg n (k := k) hm
  have h26' := c26 h hu hg n (k := k') hm'
  have h54 := c54 h hu (n + 9) hg (k := k) hm
  have h54' := c54 h hu (n + 9) hg (k := k') hm'
  have h56 := c56 h hu hg n (k := k) (k' := k') hm hm'
  simp only [ty5] at h26 h26' h54 h54' h56
  refine in24 d e _ _ _ _ _ _ _ _ _ _ _ _ h.fz hu.fz rfl ?_
  unfold S24
  have e3 := hm.x2
  have e4 := hm'.x2
  subst e3 e4
  simp only [h26, h26', h54, h54', h56, j25_2 h hu hg (n + 1), c55_1 h hu hg n, c55_2 h hu hg n, bot_J, show eqZ (37 : Int) 33 = false from rfl, show eqZ (37 : Int) 34 = false from rfl, show eqZ (37 : Int) 35 = false from rfl, show eqZ (37 : Int) 36 = false from rfl, show eqZ (37 : Int) 37 = true from rfl, show eqZ (37 : Int) 38 = false from rfl, show eqZ (37 : Int) 39 = false from rfl, show eqZ (37 : Int) 40 = false from rfl, show eqZ (37 : Int) 15 = false from rfl, show eqZ (37 : Int) 16 = false from rfl, show eqZ (37 : Int) 17 = false from rfl, show eqZ (37 : Int) 18 = false from rfl, show eqZ (37 : Int) 19 = false from rfl, clT_some, q4_int, q18_ag, bd_some_eq, bj_inl, bj_inr, cond_true, cond_false, rt_some_eq, T0, T1, I0, I1, I10, I21, W1, W2, R0, R1, G0, G1]
  refine enc4_congr ?_ ?_ ?_ ?_ <;> simp only [twoM] <;> ac_rfl
theorem c24_38 (n : Nat) {k r x0 x1 x2 k' r' x0' x1' x2' : Int} {m m' : TM (latT hg)} (hm : IsTy m r x0 x1 x2) (hm' : IsTy m' r' x0' x1' x2') (hr : okR2 38 m.r m'.r = true) : cl (n + 11) 24 [.agg [d, e, .int .i64 ((bot (latT hg)).1 : Int)], .int .i64 38, ty5 k r x0 x1 x2, ty5 k' r' x0' x1' x2'] = some (enc4 (twoM 38 m m')) := by
  have h26 := c26 h hu hg n (k := k) hm
  have h26' := c26 h hu hg n (k := k') hm'
  have h54 := c54 h hu (n + 9) hg (k := k) hm
  have h54' := c54 h hu (n + 9) hg (k := k') hm'
  have h56 := c56 h hu hg n (k := k) (k' := k') hm hm'
  simp only [ty5] at h26 h26' h54 h54' h56
  refine in24 d e _ _ _ _ _ _ _ _ _ _ _ _ h.fz hu.fz rfl ?_
  unfold S24
  have e3 := hm.x2
  have e4 := hm'.x2
  subst e3 e4
  simp only [h26, h26', h54, h54', h56, j25_2 h hu hg (n + 1), c55_1 h hu hg n, c55_2 h hu hg n, bot_J, show eqZ (38 : Int) 33 = false from rfl, show eqZ (38 : Int) 34 = false from rfl, show eqZ (38 : Int) 35 = false from rfl, show eqZ (38 : Int) 36 = false from rfl, show eqZ (38 : Int) 37 = false from rfl, show eqZ (38 : Int) 38 = true from rfl, show eqZ (38 : Int) 39 = false from rfl, show eqZ (38 : Int) 40 = false from rfl, show eqZ (38 : Int) 15 = false from rfl, show eqZ (38 : Int) 16 = false from rfl, show eqZ (38 : Int) 17 = false from rfl, show eqZ (38 : Int) 18 = false from rfl, show eqZ (38 : Int) 19 = false from rfl, clT_some, q4_int, q18_ag, bd_some_eq, bj_inl, bj_inr, cond_true, cond_false, rt_some_eq, T0, T1, I0, I1, I10, I21, W1, W2, R0, R1, G0, G1]
  refine enc4_congr ?_ ?_ ?_ ?_ <;> simp only [twoM] <;> ac_rfl
theorem c24_39 (n : Nat) {k r x0 x1 x2 k' r' x0' x1' x2' : Int} {m m' : TM (latT hg)} (hm : IsTy m r x0 x1 x2) (hm' : IsTy m' r' x0' x1' x2') (hr : okR2 39 m.r m'.r = true) : cl (n + 11) 24 [.agg [d, e, .int .i64 ((bot (latT hg)).1 : Int)], .int .i64 39, ty5 k r x0 x1 x2, ty5 k' r' x0' x1' x2'] = some (enc4 (twoM 39 m m')) := by
  have h26 := c26 h hu hg n (k := k) hm
  have h26' := c26 h hu hg n (k := k') hm'
  have h54 := c54 h hu (n + 9) hg (k := k) hm
  have h54' := c54 h hu (n + 9) hg (k := k') hm'
  have h56 := c56 h hu hg n (k := k) (k' := k') hm hm'
  simp only [ty5] at h26 h26' h54 h54' h56
  refine in24 d e _ _ _ _ _ _ _ _ _ _ _ _ h.fz hu.fz rfl ?_
  unfold S24
  have e3 := hm.x2
  have e4 := hm'.x2
  subst e3 e4
  simp only [h26, h26', h54, h54', h56, j25_2 h hu hg (n + 1), c55_1 h hu hg n, c55_2 h hu hg n, bot_J, show eqZ (39 : Int) 33 = false from rfl, show eqZ (39 : Int) 34 = false from rfl, show eqZ (39 : Int) 35 = false from rfl, show eqZ (39 : Int) 36 = false from rfl, show eqZ (39 : Int) 37 = false from rfl, show eqZ (39 : Int) 38 = false from rfl, show eqZ (39 : Int) 39 = true from rfl, show eqZ (39 : Int) 40 = false from rfl, show eqZ (39 : Int) 15 = false from rfl, show eqZ (39 : Int) 16 = false from rfl, show eqZ (39 : Int) 17 = false from rfl, show eqZ (39 : Int) 18 = false from rfl, show eqZ (39 : Int) 19 = false from rfl, clT_some, q4_int, q18_ag, bd_some_eq, bj_inl, bj_inr, cond_true, cond_false, rt_some_eq, T0, T1, I0, I1, I10, I21, W1, W2, R0, R1, G0, G1]
  refine enc4_congr ?_ ?_ ?_ ?_ <;> simp only [twoM] <;> ac_rfl
theorem c24_40 (n : Nat) {k r x0 x1 x2 k' r' x0' x1' x2' : Int} {m m' : TM (latT hg)} (hm : IsTy m r x0 x1 x2) (hm' : IsTy m' r' x0' x1' x2') (hr : okR2 40 m.r m'.r = true) : cl (n + 11) 24 [.agg [d, e, .int .i64 ((bot (latT hg)).1 : Int)], .int .i64 40, ty5 k r x0 x1 x2, ty5 k' r' x0' x1' x2'] = some (enc4 (twoM 40 m m')) := by
  have h26 := c26 h hu hg n (k := k) hm
  have h26' := c26 h hu hg n (k := k') hm'
  have h54 := c54 h hu (n + 9) hg (k := k) hm
  have h54' := c54 h hu (n + 9) hg (k := k') hm'
  have h56 := c56 h hu hg n (k := k) (k' := k') hm hm'
  simp only [ty5] at h26 h26' h54 h54' h56
  refine in24 d e _ _ _ _ _ _ _ _ _ _ _ _ h.fz hu.fz rfl ?_
  unfold S24
  have e3 := hm.x2
  have e4 := hm'.x2
  subst e3 e4
  simp only [h26, h26', h54, h54', h56, j25_2 h hu hg (n + 1), c55_1 h hu hg n, c55_2 h hu hg n, bot_J, show eqZ (40 : Int) 33 = false from rfl, show eqZ (40 : Int) 34 = false from rfl, show eqZ (40 : Int) 35 = false from rfl, show eqZ (40 : Int) 36 = false from rfl, show eqZ (40 : Int) 37 = false from rfl, show eqZ (40 : Int) 38 = false from rfl, show eqZ (40 : Int) 39 = false from rfl, show eqZ (40 : Int) 40 = true from rfl, show eqZ (40 : Int) 15 = false from rfl, show eqZ (40 : Int) 16 = false from rfl, show eqZ (40 : Int) 17 = false from rfl, show eqZ (40 : Int) 18 = false from rfl, show eqZ (40 : Int) 19 = false from rfl, clT_some, q4_int, q18_ag, bd_some_eq, bj_inl, bj_inr, cond_true, cond_false, rt_some_eq, T0, T1, I0, I1, I10, I21, W1, W2, R0, R1, G0, G1]
  refine enc4_congr ?_ ?_ ?_ ?_ <;> simp only [twoM] <;> ac_rfl
theorem c24 (n : Nat) {p : Nat} (h1 : 15 ≤ p) (h40 : p ≤ 40) {k r x0 x1 x2 k' r' x0' x1' x2' : Int} {m m' : TM (latT hg)} (hm : IsTy m r x0 x1 x2) (hm' : IsTy m' r' x0' x1' x2') (hr : okR2 p m.r m'.r = true) : cl (n + 11) 24 [.agg [d, e, .int .i64 ((bot (latT hg)).1 : Int)], .int .i64 (p : Int), ty5 k r x0 x1 x2, ty5 k' r' x0' x1' x2'] = some (enc4 (twoM p m m')) :=
  match p, h1, h40, hr with
  | 0, h1, _, _ => by omega
  | 1, h1, _, _ => by omega
  | 2, h1, _, _ => by omega
  | 3, h1, _, _ => by omega
  | 4, h1, _, _ => by omega
  | 5, h1, _, _ => by omega
  | 6, h1, _, _ => by omega
  | 7, h1, _, _ => by omega
  | 8, h1, _, _ => by omega
  | 9, h1, _, _ => by omega
  | 10, h1, _, _ => by omega
  | 11, h1, _, _ => by omega
  | 12, h1, _, _ => by omega
  | 13, h1, _, _ => by omega
  | 14, h1, _, _ => by omega
  | 15, _, _, hr => c24_15 h hu hg n hm hm' hr
  | 16, _, _, hr => c24_16 h hu hg n hm hm' hr
  | 17, _, _, hr => c24_17 h hu hg n hm hm' hr
  | 18, _, _, hr => c24_18 h hu hg n hm hm' hr
  | 19, _, _, hr => c24_19 h hu hg n hm hm' hr
  | 20, _, _, hr => c24_20 h hu hg n hm hm' hr
  | 21, _, _, hr => c24_21 h hu hg n hm hm' hr
  | 22, _, _, hr => c24_22 h hu hg n hm hm' hr
  | 23, _, _, hr => c24_23 h hu hg n hm hm' hr
  | 24, _, _, hr => c24_24 h hu hg n hm hm' hr
  | 25, _, _, hr => c24_25 h hu hg n hm hm' hr
  | 26, _, _, hr => c24_26 h hu hg n hm hm' hr
  | 27, _, _, hr => c24_27 h hu hg n hm hm' hr
  | 28, _, _, hr => c24_28 h hu hg n hm hm' hr
  | 29, _, _, hr => c24_29 h hu hg n hm hm' hr
  | 30, _, _, hr => c24_30 h hu hg n hm hm' hr
  | 31, _, _, hr => c24_31 h hu hg n hm hm' hr
  | 32, _, _, hr => c24_32 h hu hg n hm hm' hr
  | 33, _, _, hr => c24_33 h hu hg n hm hm' hr
  | 34, _, _, hr => c24_34 h hu hg n hm hm' hr
  | 35, _, _, hr => c24_35 h hu hg n hm hm' hr
  | 36, _, _, hr => c24_36 h hu hg n hm hm' hr
  | 37, _, _, hr => c24_37 h hu hg n hm hm' hr
  | 38, _, _, hr => c24_38 h hu hg n hm hm' hr
  | 39, _, _, hr => c24_39 h hu hg n hm hm' hr
  | 40, _, _, hr => c24_40 h hu hg n hm hm' hr
  | q + 41, _, h40, _ => by omega
end
end Go.Proofs.YtblbgjfkbcdlfaaGreatDoor
