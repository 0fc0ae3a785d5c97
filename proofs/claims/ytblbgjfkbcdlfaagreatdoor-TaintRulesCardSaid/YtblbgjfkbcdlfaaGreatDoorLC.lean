/- What the functions of this program come to: both Fits say the same, for all arguments. -/
import Derived.Test.YtblbgjfkbcdlfaaGreatDoorLB
import Derived.Test.YtblbgjfkbcdlfaaGreatDoorLA
set_option linter.unusedVariables false
set_option linter.unusedSimpArgs false
set_option maxRecDepth 100000
namespace Go.Proofs.YtblbgjfkbcdlfaaGreatDoor
open Go Iv

theorem slI_is (l : List Int) : I64s l (slI l) := by
  refine ⟨fun r hr => ?_, .inr ⟨false, ?_⟩⟩
  · simp only [List.mem_map] at hr; obtain ⟨u, _, rfl⟩ := hr; rfl
  · have : ∀ l : List Int, (l.map fun u => [D.int .i64 u]).flatten = l.map (D.int .i64) := fun l => by
      induction l with
      | nil => rfl
      | cons a l ih => simp only [List.map_cons, List.flatten_cons, ih]; rfl
    rw [this]; simp [slI]

/-! What a line says of kinds that are none, of ranks that are none. -/
theorem mat_f {ks rs : List Int} {i : Nat} {c : Int} {st : MS} (h : (mat ks rs i c st).f = true) : st.f = true := by
  revert h
  unfold mat
  cases Nat.beq (i / 2) ks.length
  · simp only [cond_false, mopd]
    cases eqZ c 105 <;> cases eqZ c 107 <;> cases eqZ c 110 <;> simp only [cond_true, cond_false, Bool.and_eq_true] <;> first | exact id | exact fun h => h.1
  · simp only [cond_true, mres]
    cases eqZ c 105 <;> cases eqZ c 107 <;> cases eqZ c 110 <;> exact id
theorem mat_s {ks rs : List Int} {i : Nat} {c : Int} {st : MS} (h : (mat ks rs i c st).s = true) : st.s = true := by
  revert h
  unfold mat
  cases Nat.beq (i / 2) ks.length
  · simp only [cond_false, mopd]
    cases eqZ c 105 <;> cases eqZ c 107 <;> cases eqZ c 110 <;> simp only [cond_true, cond_false, Bool.and_eq_true] <;> first | exact id | exact fun h => h.1
  · simp only [cond_true, mres]
    cases eqZ c 105 <;> cases eqZ c 107 <;> cases eqZ c 110 <;> exact id
theorem mrun_f {ks rs : List Int} {line : List UInt8} : ∀ {j i : Nat}, (mrun ks rs line (i + j)).f = true → (mrun ks rs line i).f = true
  | 0, i, h => h
  | j + 1, i, h => mrun_f (j := j) (mat_f (show (mat ks rs (i + j) _ (mrun ks rs line (i + j))).f = true from h))
theorem mrun_s {ks rs : List Int} {line : List UInt8} : ∀ {j i : Nat}, (mrun ks rs line (i + j)).s = true → (mrun ks rs line i).s = true
  | 0, i, h => h
  | j + 1, i, h => mrun_s (j := j) (mat_s (show (mat ks rs (i + j) _ (mrun ks rs line (i + j))).s = true from h))

def goodLine (a : Nat) (line : List UInt8) : Bool := Nat.beq line.length (2 * a + 2) && (lineOk line && (List.range a).all fun j => (eqZ ((line.getD (2 * j) 0).toNat : Int) 105 || eqZ ((line.getD (2 * j) 0).toNat : Int) 107) &&
  (!(eqZ ((line.getD (2 * j + 1) 0).toNat : Int) 105) && (!(eqZ ((line.getD (2 * j + 1) 0).toNat : Int) 107) && (eqZ ((line.getD (2 * j + 1) 0).toNat : Int) 110 || (eqZ ((line.getD (2 * j + 1) 0).toNat : Int) 48 || (eqZ ((line.getD (2 * j + 1) 0).toNat : Int) 49 || eqZ ((line.getD (2 * j + 1) 0).toNat : Int) 50))))))
theorem tgood : (List.range 40).all (fun q => (linesM (q + 1)).all (goodLine (ar (q + 1)))) = true := by kernel_rfl
theorem lines_good {q : Nat} (h1 : 1 ≤ q) (h2 : q ≤ 40) {l : List UInt8} (hl : l ∈ linesM q) : goodLine (ar q) l = true := by
  have h := List.all_eq_true.1 tgood (q - 1) (List.mem_range.2 (by omega))
  rw [show q - 1 + 1 = q by omega] at h
  exact List.all_eq_true.1 h l hl

def isKi (k : Int) : Bool := eqZ k 1 || eqZ k 2
def isRi (r : Int) : Bool := eqZ r 0 || (eqZ r 1 || eqZ r 2)

theorem line_f {a : Nat} {line : List UInt8} (hg : goodLine a line = true) {ks rs : List Int} (hk : ks.length = a) (hf : (mrun ks rs line line.length).f = true) : ks.all isKi = true := by
  simp only [goodLine, Bool.and_eq_true] at hg
  obtain ⟨hlen, hok, hj⟩ := hg
  have hlen := Nat.eq_of_beq_eq_true hlen
  rw [List.all_eq_true]
  intro k hkm
  obtain ⟨j, hjl, rfl⟩ := List.getElem_of_mem hkm
  have hj := List.all_eq_true.1 hj j (List.mem_range.2 (by omega))
  simp only [Bool.and_eq_true] at hj
  have h1 := mrun_f (j := line.length - (2 * j + 1)) (i := 2 * j + 1) (by rw [show 2 * j + 1 + (line.length - (2 * j + 1)) = line.length by omega]; exact hf)
  simp only [mrun, mat] at h1
  have e1 : (2 * j) / 2 = j := by omega
  have e2 : Nat.beq j ks.length = false := by rw [← Bool.not_eq_true, Nat.beq_eq]; omega
  rw [e1, e2] at h1
  simp only [cond_false, mopd, getD_lt hjl] at h1
  unfold isKi
  cases h105 : eqZ ((line.getD (2 * j) 0).toNat : Int) 105 <;> rw [h105] at h1
  · have h107 : eqZ ((line.getD (2 * j) 0).toNat : Int) 107 = true := by have := hj.1; rw [h105, Bool.false_or] at this; exact this
    rw [h107] at h1
    simp only [cond_false, cond_true, Bool.and_eq_true] at h1
    exact h1.2.1
  · simp only [cond_true, Bool.and_eq_true] at h1
    rw [h1.2]; rfl

theorem line_s {a : Nat} {line : List UInt8} (hg : goodLine a line = true) {ks rs : List Int} (hk : ks.length = a) (hr : rs.length = a) (hf : (mrun ks rs line line.length).s = true) : rs.all isRi = true := by
  simp only [goodLine, Bool.and_eq_true] at hg
  obtain ⟨hlen, hok, hj⟩ := hg
  have hlen := Nat.eq_of_beq_eq_true hlen
  rw [List.all_eq_true]
  intro k hkm
  obtain ⟨j, hjl, rfl⟩ := List.getElem_of_mem hkm
  have hj := List.all_eq_true.1 hj j (List.mem_range.2 (by omega))
  simp only [Bool.and_eq_true] at hj
  have h1 := mrun_s (j := line.length - (2 * j + 2)) (i := 2 * j + 2) (by rw [show 2 * j + 2 + (line.length - (2 * j + 2)) = line.length by omega]; exact hf)
  rw [mrun, mat] at h1
  have e1 : (2 * j + 1) / 2 = j := by omega
  have e2 : Nat.beq j ks.length = false := by rw [← Bool.not_eq_true, Nat.beq_eq]; omega
  rw [e1, e2] at h1
  simp only [cond_false, mopd, getD_lt hjl] at h1
  obtain ⟨_, h105, h107, hd⟩ := hj
  simp only [Bool.not_eq_true'] at h105 h107
  rw [h105, h107] at h1
  unfold isRi
  cases h110 : eqZ ((line.getD (2 * j + 1) 0).toNat : Int) 110 <;> rw [h110] at h1 hd
  · simp only [cond_false, Bool.and_eq_true, eqZ_eq, beq_iff_eq] at h1
    simp only [Bool.false_or, Bool.or_eq_true, eqZ_eq, beq_iff_eq] at hd
    rw [h1.2]
    rcases hd with h | h | h <;> rw [h] <;> rfl
  · simp only [cond_false, cond_true, Bool.and_eq_true, leZ_eq, decide_eq_true_eq] at h1
    have : rs[j] = 0 ∨ rs[j] = 1 ∨ rs[j] = 2 := by omega
    rcases this with h | h | h <;> rw [h] <;> rfl

theorem mrun_fk (ks rs rs' : List Int) (line : List UInt8) : ∀ i, (mrun ks rs line i).f = (mrun ks rs' line i).f ∧ (mrun ks rs line i).k = (mrun ks rs' line i).k
  | 0 => ⟨rfl, rfl⟩
  | i + 1 => by
    obtain ⟨h1, h2⟩ := mrun_fk ks rs rs' line i
    simp only [mrun, mat]
    cases Nat.beq (i / 2) ks.length
    · simp only [cond_false, mopd]
      cases eqZ ((line.getD i 0).toNat : Int) 105 <;> cases eqZ ((line.getD i 0).toNat : Int) 107 <;> cases eqZ ((line.getD i 0).toNat : Int) 110 <;> simp only [cond_true, cond_false, h1, h2, and_self]
    · simp only [cond_true, mres]
      cases eqZ ((line.getD i 0).toNat : Int) 105 <;> cases eqZ ((line.getD i 0).toNat : Int) 107 <;> cases eqZ ((line.getD i 0).toNat : Int) 110 <;> simp only [cond_true, cond_false, h1, h2, and_self]

/-- prims.Fits where no line fits. -/
theorem ar_1 {q : Nat} : ar q = 1 ∨ ar q = 2 := by unfold ar; cases Nat.ble q 14 <;> simp
theorem arP_ar (q : Nat) : arP (q : Int) = ar q := rfl

theorem c50 (n : Nat) {q : Nat} (h1 : 1 ≤ q) (h2 : q ≤ 40) {nm : List UInt8} {ls er o t : D} (hl : Strs (linesM q) ls) (he : Fz er) (ho : Fz o) (ht : Fz t) :
    cl (n + 1) 50 [.agg [.str nm, ls, er, o, t]] = some (.int .i64 (ar q : Nat)) := by
  refine in50 nm ls er o t hl.fz he ho ht rfl ?_
  unfold S50
  have hne : 0 < (linesM q).length := by
    have : (List.range 40).all (fun q => Nat.blt 0 (linesM (q + 1)).length) = true := by kernel_rfl
    have := List.all_eq_true.1 this (q - 1) (List.mem_range.2 (by omega))
    rw [show q - 1 + 1 = q by omega, Nat.blt_eq] at this
    exact this
  have hx := hl.ix hne (α := List UInt8) (ρ := D) q12
  have hg := lines_good h1 h2 (List.getElem_mem hne)
  simp only [goodLine, Bool.and_eq_true] at hg
  have hlen := Nat.eq_of_beq_eq_true hg.1
  refine (hx _).trans ?_
  simp only [q12_str, bd_some_eq, hlen]
  rcases @ar_1 q with h | h <;> rw [h] <;> rfl

def anyF (q : Nat) (ks rs : List Int) : Bool := (linesM q).any fun l => (mrun ks rs l l.length).f

theorem any_take_succ {α : Type} {l : List α} {p : α → Bool} {i : Nat} (hi : i < l.length) : (l.take (i + 1)).any p = ((l.take i).any p || p l[i]) := by
  rw [List.take_succ_eq_append_getElem hi, List.any_append]; simp

theorem c20g (n : Nat) {q : Nat} (h1 : 1 ≤ q) (h2 : q ≤ 40) {ks rs : List Int} (hk : ks.length = ar q) (hr : rs.length = ar q) (hg : guard 20 [i6 q, slI ks, slI rs] = false)
    (hno : ∀ l ∈ linesM q, ((mrun ks rs l l.length).f && (mrun ks rs l l.length).s) = false) : cl (n + 3) 20 [.int .i64 (q : Int), slI ks, slI rs] = some (e3 (0, 0, bif anyF q ks rs then 22 else 21)) := by
  refine in20 _ _ _ (slI_is ks).fz (slI_is rs).fz (kn_no hg) rfl ?_
  unfold S20
  obtain ⟨nm, ls, er, o, t, hc, hls, he, ho, ht⟩ := c49 (n + 2) h1 h2
  have q16' : q16 (.tup [.agg [.str nm, ls, er, o, t], .int .i64 0]) = some ((nm, ls, er, o, t, ()), 0, ()) :=
    gd_tup (gds_cons (gd_agg (gds_cons rfl (gds_cons (gd_fz hls.fz.1) (gds_cons (gd_fz he.1) (gds_cons (gd_fz ho.1) (gds_cons (gd_fz ht.1) gds_nil)))))) (gds_cons rfl gds_nil))
  have hb1 : eqZ (ks.length : Int) (ar q : Int) = true := by rw [hk, eqZ_nat]; exact Nat.beq_refl _
  have hb2 : eqZ (rs.length : Int) (ar q : Int) = true := by rw [hr, eqZ_nat]; exact Nat.beq_refl _
  have hz : eqZ 0 0 = true := rfl
  simp only [hc, clT_some, q16', bd_some_eq, hz, Bool.not_true, cond_false, (slI_is ks).len, (slI_is rs).len, c50 (n + 1) h1 h2 hls he ho ht, q4_int, hb1, hb2, bj_inl, hls.len]
  refine (loop_fold (st := fun i => ((slI ks, slI rs, (bif ((linesM q).take i).any (fun l => (mrun ks rs l l.length).f) then (22 : Int) else 21), ls, ((linesM q).length : Int), (i : Int), ()), ())) (n := (linesM q).length) (fun i hi => ?_) ?_)
  · have hm : (linesM q)[i] ∈ linesM q := List.getElem_mem hi
    have hgl := lines_good h1 h2 hm
    simp only [goodLine, Bool.and_eq_true] at hgl
    have hll := Nat.eq_of_beq_eq_true hgl.1
    have h51 := c51 (n + 1) (slI_is ks) (slI_is rs) (by omega) hgl.2.1 (by rw [hll, hk]; exact Nat.le_refl _) (by rw [hll]; rcases @ar_1 q with h | h <;> omega)
    have hi63 : i < 9223372036854775807 := by
      have : (List.range 40).all (fun q => Nat.ble (linesM (q + 1)).length 10) = true := by kernel_rfl
      have := List.all_eq_true.1 this (q - 1) (List.mem_range.2 (by omega))
      rw [show q - 1 + 1 = q by omega, Nat.ble_eq] at this
      omega
    have hn := hno _ hm
    have q17' : ∀ (a b : Int) (c d : Bool), q17 (.tup [.int .i64 a, .int .i64 b, .bool c, .bool d]) = some (a, b, c, d, ()) := fun a b c d => rfl
    simp only [ltZ_lt hi, cond_true, hls.ix hi, q12_str, bd_some_eq, h51, clT_some, q17', any_take_succ hi, inc_i64 hi63]
    cases hf : (mrun ks rs (linesM q)[i] (linesM q)[i].length).f
    · simp only [cond_false, bj_inl, Bool.or_false, inc_i64 hi63]
    · rw [hf] at hn
      simp only [Bool.true_and] at hn
      simp only [cond_true, cond_false, bj_inl, hn, Bool.or_true, inc_i64 hi63]
  · simp only [ltZ_ge (Nat.le_refl _), cond_false, List.take_length]; rfl

/-! The reference. -/
theorem loop_exit {α ρ : Type} {f : α → Option (α ⊕ ρ)} {st : Nat → α} {r : ρ} {m : Nat} (hs : ∀ i, i < m → f (st i) = some (.inl (st (i + 1)))) (he : f (st m) = some (.inr r)) : lpD.run f (st 0) = some r := loop_fold hs he

theorem c40 (n : Nat) {q : Nat} (h1 : 1 ≤ q) (h2 : q ≤ 40) : cl (n + 1) 40 [.int .i64 (q : Int)] = some (e2 (ar q : Nat) 0) := by
  refine in40 _ rfl ?_
  unfold S40
  have e1 : ltZ (q : Int) 1 = false := ltZ_ge (a := q) (b := 1) h1
  have e2 : ltZ 40 (q : Int) = false := ltZ_ge (a := 40) (b := q) h2
  have e3 : leZ (q : Int) 14 = Nat.ble q 14 := leZ_nat q 14
  simp only [e1, e2, e3, cond_false, bj_inl, ar]
  cases Nat.ble q 14 <;> rfl

/-- The first one that is not as it should be. -/
theorem first_bad {p : Int → Bool} : ∀ {l : List Int}, l.all p = false → ∃ m, ∃ h : m < l.length, p l[m] = false ∧ ∀ j (hj : j < m), p (l[j]'(by omega)) = true
  | [], h => by simp at h
  | a :: l, h => by
    cases ha : p a
    · exact ⟨0, by simp, ha, fun j hj => by omega⟩
    · simp only [List.all_cons, ha, Bool.true_and] at h
      obtain ⟨m, hm, h1, h2⟩ := first_bad h
      refine ⟨m + 1, by simp; omega, by simpa using h1, fun j hj => ?_⟩
      cases j with
      | zero => simpa using ha
      | succ j => simpa using h2 j (by omega)

theorem c41bad (n : Nat) {p : Int} {ks : List Int} {K : D} (hk : I64s ks K) (hbad : ks.all isKi = false) (hlen : ks.length < 100) (hg : guard 41 [.int .i64 p, K] = false) : cl (n + 1) 41 [.int .i64 p, K] = some (.bool false) := by
  refine in41 _ _ hk.fz (kn_no hg) rfl ?_
  unfold S41
  obtain ⟨m, hm, h1, h2⟩ := first_bad hbad
  refine loop_exit (st := fun i => ((p, K, (i : Int), ()), ())) (m := m) (fun i hi => ?_) ?_
  · have hb := h2 i hi
    have hi' : i < ks.length := by omega
    have hinc := inc_i64 (show i < 9223372036854775807 by omega)
    simp only [hk.len, ltZ_lt hi', cond_true, hk.ix hi', q4_int, bd_some_eq, hinc]
    simp only [isKi] at hb
    cases hx : eqZ ks[i] 1
    · rw [hx, Bool.false_or] at hb
      simp only [hb, Bool.not_false, Bool.not_true, cond_true, cond_false]
    · rfl
  · simp only [isKi, Bool.or_eq_false_iff] at h1
    simp only [hk.len, ltZ_lt hm, cond_true, hk.ix hm, q4_int, bd_some_eq, h1.1, h1.2, Bool.not_false]; rfl

theorem c42bad (n : Nat) {p : Int} {rs : List Int} {R : D} (hr : I64s rs R) (hbad : rs.all isRi = false) (hlen : rs.length < 100) : cl (n + 1) 42 [.int .i64 p, R] = some (.int .i64 (-1)) := by
  refine in42 _ _ hr.fz rfl ?_
  unfold S42
  obtain ⟨m, hm, h1, h2⟩ := first_bad hbad
  refine loop_exit (st := fun i => ((p, R, (i : Int), ()), ())) (m := m) (fun i hi => ?_) ?_
  · have hb := h2 i hi
    have hi' : i < rs.length := by omega
    have hinc := inc_i64 (show i < 9223372036854775807 by omega)
    have hb2 : ltZ rs[i] 0 = false ∧ ltZ 2 rs[i] = false := by
      simp only [isRi, Bool.or_eq_true, eqZ_eq, beq_iff_eq] at hb
      rw [ltZ_eq, ltZ_eq, decide_eq_false_iff_not, decide_eq_false_iff_not]; omega
    simp only [hr.len, ltZ_lt hi', cond_true, hr.ix hi', q4_int, bd_some_eq, hinc, hb2.1, hb2.2, cond_false]
  · have hb2 : ltZ rs[m] 0 = false → ltZ 2 rs[m] = true := by
      simp only [isRi, Bool.or_eq_false_iff, eqZ_eq, beq_eq_false_iff_ne] at h1
      rw [ltZ_eq, ltZ_eq, decide_eq_false_iff_not, decide_eq_true_eq]; omega
    simp only [hr.len, ltZ_lt hm, cond_true, hr.ix hm, q4_int, bd_some_eq]
    cases hx : ltZ rs[m] 0
    · simp only [hb2 hx, cond_true, cond_false]; rfl
    · rfl

theorem mem_lists {xs : List Int} : ∀ {n : Nat} {l : List Int}, l.length = n → (∀ x ∈ l, x ∈ xs) → l ∈ lists n xs
  | 0, l, h, _ => by have : l = [] := by simpa using h
                     subst this; simp [lists]
  | n + 1, [], h, _ => by simp at h
  | n + 1, a :: l, h, hx => by
    simp only [lists, List.mem_flatMap, List.mem_map]
    exact ⟨a, hx a (by simp), l, mem_lists (by simpa using h) (fun x hm => hx x (by simp [hm])), rfl⟩
theorem ks_mem {n : Nat} {ks : List Int} (h : ks.length = n) (ha : ks.all isKi = true) : ks ∈ lists n [1, 2] := mem_lists h fun x hx => by
  have := List.all_eq_true.1 ha x hx
  simp only [isKi, Bool.or_eq_true, eqZ_eq, beq_iff_eq] at this
  simp; omega
theorem rs_mem {n : Nat} {rs : List Int} (h : rs.length = n) (ha : rs.all isRi = true) : rs ∈ lists n [0, 1, 2] := mem_lists h fun x hx => by
  have := List.all_eq_true.1 ha x hx
  simp only [isRi, Bool.or_eq_true, eqZ_eq, beq_iff_eq] at this
  simp; omega

/-- What a primitive's operands fit to. -/
def FIT (p : Int) (ks rs : List Int) : Int × Int × Int :=
  bif ltZ p 1 || ltZ 40 p then (0, 0, 2)
  else bif !(Nat.beq ks.length (ar p.toNat)) then (0, 0, 23)
  else bif !(ks.all isKi) then (0, 0, 21)
  else bif !(rs.all isRi) then (0, 0, bif kindsB p.toNat ks then 22 else 21)
  else fitM p.toNat ks rs

theorem map_isK (l : List Int) : (l.map (D.int .i64)).all isK = l.all isKi := by
  induction l with
  | nil => rfl
  | cons a l ih => simp only [List.map_cons, List.all_cons, ih]; rfl
theorem map_isR (l : List Int) : (l.map (D.int .i64)).all isR = l.all isRi := by
  induction l with
  | nil => rfl
  | cons a l ih => simp only [List.map_cons, List.all_cons, ih]; rfl
theorem okKs_sl (q : Nat) (ks : List Int) : okKs (.int .i64 (q : Int)) (slI ks) = (Nat.beq ks.length (ar q) && ks.all isKi) := by
  simp only [okKs, slI, arP_ar, List.length_map, map_isK, Bool.not_false, Bool.true_and, Bool.and_self]
theorem okRs_sl (q : Nat) (rs : List Int) : okRs (.int .i64 (q : Int)) (slI rs) = (Nat.beq rs.length (ar q) && rs.all isRi) := by
  simp only [okRs, slI, arP_ar, List.length_map, map_isR, Bool.not_false, Bool.true_and, Bool.and_self]

theorem guard20 (a : List D) : guard 20 a = gFit a := by
  show (false || (false || (false || ((true && gFit a) || (false || false))))) = _
  simp
theorem guard15 (a : List D) : guard 15 a = gFit a := by
  show (false || (false || (false || (false || ((true && gFit a) || false))))) = _
  simp
theorem guard41 (a : List D) : guard 41 a = gKs a := by
  show (false || (false || (false || (false || (false || (true && gKs a)))))) = _
  simp
theorem guard49 (a : List D) : guard 49 a = gP a := by
  show (false || (false || ((true && gP a) || (false || (false || false))))) = _
  simp

theorem kindq_at {q : Nat} (h1 : 1 ≤ q) (h2 : q ≤ 40) {ks : List Int} (hk : ks.length = ar q) (ha : ks.all isKi = true) : ev 41 [i6 q, slI ks] = some (.bool (kindsB q ks)) ∧ (linesM q).any (fun l => (mrun ks [] l l.length).f) = kindsB q ks := by
  have h := List.all_eq_true.1 tkind (q - 1) (List.mem_range.2 (by omega))
  rw [show q - 1 + 1 = q by omega] at h
  have h := List.all_eq_true.1 h ks (ks_mem hk ha)
  simp only [Bool.and_eq_true, beq_iff_eq] at h
  exact ⟨isB_eq h.1, h.2⟩
theorem fitq_at {q : Nat} (h1 : 1 ≤ q) (h2 : q ≤ 40) {ks rs : List Int} (hk : ks.length = ar q) (hr : rs.length = ar q) (ha : ks.all isKi = true) (hb : rs.all isRi = true) :
    ev 20 [i6 q, slI ks, slI rs] = some (e3 (fitM q ks rs)) ∧ ev 15 [i6 q, slI ks, slI rs] = some (e3 (fitM q ks rs)) := by
  have h := tfit q h1 h2
  have h := List.all_eq_true.1 h ks (ks_mem hk ha)
  have h := List.all_eq_true.1 h rs (rs_mem hr hb)
  simp only [Bool.and_eq_true] at h
  exact ⟨isT_eq h.1, isT_eq h.2⟩
theorem anyF_eq {q : Nat} (h1 : 1 ≤ q) (h2 : q ≤ 40) {ks : List Int} (rs : List Int) (hk : ks.length = ar q) (ha : ks.all isKi = true) : anyF q ks rs = kindsB q ks := by
  rw [← (kindq_at h1 h2 hk ha).2]
  unfold anyF
  congr 1
  funext l
  exact (mrun_fk ks rs [] l l.length).1

theorem c20 (n : Nat) (p : Int) {ks rs : List Int} (hl : rs.length = ks.length) (hsm : ks.length < 100) : cl (n + 3) 20 [.int .i64 p, slI ks, slI rs] = some (e3 (FIT p ks rs)) := by
  unfold FIT
  by_cases hp : 1 ≤ p ∧ p ≤ 40
  · obtain ⟨q, rfl⟩ : ∃ q : Nat, p = q := ⟨p.toNat, by omega⟩
    have h1 : 1 ≤ q := by omega
    have h2 : q ≤ 40 := by omega
    have e1 : ltZ (q : Int) 1 = false := ltZ_ge (a := q) (b := 1) h1
    have e2 : ltZ 40 (q : Int) = false := ltZ_ge (a := 40) (b := q) h2
    simp only [e1, e2, Bool.or_self, cond_false, Int.toNat_natCast]
    by_cases hk : ks.length = ar q
    · rw [show Nat.beq ks.length (ar q) = true by rw [hk]; exact Nat.beq_refl _]
      have hr : rs.length = ar q := by omega
      simp only [Bool.not_true, cond_false]
      cases ha : ks.all isKi
      · simp only [Bool.not_false, cond_true]
        have hf : ∀ l ∈ linesM q, (mrun ks rs l l.length).f = false := fun l hm => by
          rw [← Bool.not_eq_true]; intro hx
          rw [line_f (lines_good h1 h2 hm) hk hx] at ha; cases ha
        have := c20g n h1 h2 hk hr (by rw [guard20]; show (okP (i6 q) && (okKs (.int .i64 (q : Int)) (slI ks) && _)) = false; rw [okKs_sl, ha]; simp) (fun l hm => by rw [hf l hm]; rfl)
        rw [this]
        have : anyF q ks rs = false := by
          unfold anyF; rw [← Bool.not_eq_true, List.any_eq_true]
          rintro ⟨l, hm, hx⟩; rw [hf l hm] at hx; cases hx
        rw [this]; rfl
      · cases hb : rs.all isRi
        · simp only [Bool.not_false, Bool.not_true, cond_true, cond_false]
          have hs : ∀ l ∈ linesM q, (mrun ks rs l l.length).s = false := fun l hm => by
            rw [← Bool.not_eq_true]; intro hx
            rw [line_s (lines_good h1 h2 hm) hk hr hx] at hb; cases hb
          have := c20g n h1 h2 hk hr (by rw [guard20]; show (okP (i6 q) && (_ && okRs (.int .i64 (q : Int)) (slI rs))) = false; rw [okRs_sl, hb]; simp) (fun l hm => by rw [hs l hm]; simp)
          rw [this, anyF_eq h1 h2 rs hk ha]
        · simp only [Bool.not_true, cond_false]
          refine evK_kn (kn_at (f := 20) ?_ (fitq_at h1 h2 hk hr ha hb).1)
          rw [guard20]
          show (okP (i6 q) && (okKs (.int .i64 (q : Int)) (slI ks) && okRs (.int .i64 (q : Int)) (slI rs))) = true
          rw [okP_i6 h1 h2, okKs_sl, okRs_sl, ha, hb, hk, hr, Nat.beq_refl]; rfl
    · have hkb : Nat.beq ks.length (ar q) = false := by rw [← Bool.not_eq_true, Nat.beq_eq]; exact hk
      rw [hkb]
      simp only [Bool.not_false, cond_true]
      refine in20 _ _ _ (slI_is ks).fz (slI_is rs).fz (kn_no ?_) rfl ?_
      · rw [guard20]; show (okP (i6 q) && (okKs (.int .i64 (q : Int)) (slI ks) && _)) = false
        rw [okKs_sl, hkb]; simp
      · unfold S20
        obtain ⟨nm, ls, er, o, t, hc, hls, he, ho, ht⟩ := c49 (n + 2) h1 h2
        have q16' : q16 (.tup [.agg [.str nm, ls, er, o, t], .int .i64 0]) = some ((nm, ls, er, o, t, ()), 0, ()) :=
          gd_tup (gds_cons (gd_agg (gds_cons rfl (gds_cons (gd_fz hls.fz.1) (gds_cons (gd_fz he.1) (gds_cons (gd_fz ho.1) (gds_cons (gd_fz ht.1) gds_nil)))))) (gds_cons rfl gds_nil))
        have hz : eqZ 0 0 = true := rfl
        have hkz : eqZ (ks.length : Int) (ar q : Int) = false := by rw [eqZ_nat]; exact hkb
        simp only [hc, clT_some, q16', bd_some_eq, hz, Bool.not_true, Bool.not_false, cond_true, cond_false, (slI_is ks).len, c50 (n + 1) h1 h2 hls he ho ht, q4_int, hkz, rt_some_eq, bj_inr]; rfl
  · have hb : (ltZ p 1 || ltZ 40 p) = true := by
      rw [ltZ_eq, ltZ_eq, Bool.or_eq_true, decide_eq_true_eq, decide_eq_true_eq]; omega
    have hok : okP (.int .i64 p) = false := by
      simp only [okP, sameK, leZ_eq, Bool.true_and]
      rw [← Bool.not_eq_true, Bool.and_eq_true, decide_eq_true_eq, decide_eq_true_eq]; omega
    simp only [hb, cond_true]
    refine in20 _ _ _ (slI_is ks).fz (slI_is rs).fz (kn_no ?_) rfl ?_
    · rw [guard20]; simp only [gFit, hok, Bool.false_and]
    · unfold S20
      have hc : cl (n + 2) 49 [.int .i64 p] = some (.tup [(.agg [(.str []), .nils, .nils, .nilfn, .nilfn]), (.int .i64 2)]) := by
        refine in49 _ (kn_no ?_) rfl ?_
        · rw [guard49]; simp only [gP, hok]
        · unfold S49
          cases h1 : ltZ p 1
          · rw [h1, Bool.false_or] at hb
            rw [hb]; rfl
          · rfl
      have q16' : q16 (.tup [(.agg [(.str []), .nils, .nils, .nilfn, .nilfn]), (.int .i64 2)]) = some (([], .nils, .nils, .nilfn, .nilfn, ()), 2, ()) := rfl
      have hz : eqZ 2 0 = false := rfl
      simp only [hc, clT_some, q16', bd_some_eq, hz, Bool.not_false, cond_true]; rfl

theorem c15 (n : Nat) (p : Int) {ks rs : List Int} (hl : rs.length = ks.length) (hsm : ks.length < 100) : cl (n + 2) 15 [.int .i64 p, slI ks, slI rs] = some (e3 (FIT p ks rs)) := by
  unfold FIT
  by_cases hp : 1 ≤ p ∧ p ≤ 40
  · obtain ⟨q, rfl⟩ : ∃ q : Nat, p = q := ⟨p.toNat, by omega⟩
    have h1 : 1 ≤ q := by omega
    have h2 : q ≤ 40 := by omega
    have e1 : ltZ (q : Int) 1 = false := ltZ_ge (a := q) (b := 1) h1
    have e2' : ltZ 40 (q : Int) = false := ltZ_ge (a := 40) (b := q) h2
    have hz : eqZ 0 0 = true := rfl
    simp only [e1, e2', Bool.or_self, cond_false, Int.toNat_natCast]
    by_cases hk : ks.length = ar q
    · have hkb : Nat.beq ks.length (ar q) = true := by rw [hk]; exact Nat.beq_refl _
      have hr : rs.length = ar q := by omega
      have hkz : eqZ (ks.length : Int) (ar q : Int) = true := by rw [eqZ_nat]; exact hkb
      have hrz : eqZ (rs.length : Int) (ar q : Int) = true := by rw [hl]; exact hkz
      rw [hkb]
      simp only [Bool.not_true, cond_false]
      cases ha : ks.all isKi
      · simp only [Bool.not_false, cond_true]
        refine in15 _ _ _ (slI_is ks).fz (slI_is rs).fz (kn_no ?_) rfl ?_
        · rw [guard15]; show (okP (i6 q) && (okKs (.int .i64 (q : Int)) (slI ks) && _)) = false; rw [okKs_sl, ha]; simp
        · unfold S15
          have h41 := c41bad n (p := (q : Int)) (slI_is ks) ha hsm (by rw [guard41]; show (okP (i6 q) && okKs (.int .i64 (q : Int)) (slI ks)) = false; rw [okKs_sl, ha]; simp)
          simp only [c40 n h1 h2, clT_some, q7_e2, bd_some_eq, hz, Bool.not_true, cond_false, (slI_is ks).len, (slI_is rs).len, hkz, hrz, bj_inl, h41, q0_bool, Bool.not_false, cond_true]; rfl
      · have h41 : cl (n + 1) 41 [.int .i64 (q : Int), slI ks] = some (.bool (kindsB q ks)) := by
          refine evK_kn (kn_at (f := 41) ?_ (kindq_at h1 h2 hk ha).1)
          rw [guard41]; show (okP (i6 q) && okKs (.int .i64 (q : Int)) (slI ks)) = true
          rw [okP_i6 h1 h2, okKs_sl, ha, hkb]; rfl
        cases hb : rs.all isRi
        · simp only [Bool.not_false, Bool.not_true, cond_true, cond_false]
          refine in15 _ _ _ (slI_is ks).fz (slI_is rs).fz (kn_no ?_) rfl ?_
          · rw [guard15]; show (okP (i6 q) && (_ && okRs (.int .i64 (q : Int)) (slI rs))) = false; rw [okRs_sl, hb]; simp
          · unfold S15
            have hneg : ltZ (-1) 0 = true := rfl
            simp only [c40 n h1 h2, clT_some, q7_e2, bd_some_eq, hz, Bool.not_true, cond_false, (slI_is ks).len, (slI_is rs).len, hkz, hrz, bj_inl, h41, q0_bool, c42bad n (p := (q : Int)) (slI_is rs) hb (by omega), q4_int, hneg, cond_true]
            cases kindsB q ks <;> rfl
        · simp only [Bool.not_true, cond_false]
          refine evK_kn (kn_at (f := 15) ?_ (fitq_at h1 h2 hk hr ha hb).2)
          rw [guard15]
          show (okP (i6 q) && (okKs (.int .i64 (q : Int)) (slI ks) && okRs (.int .i64 (q : Int)) (slI rs))) = true
          rw [okP_i6 h1 h2, okKs_sl, okRs_sl, ha, hb, hk, hr, Nat.beq_refl]; rfl
    · have hkb : Nat.beq ks.length (ar q) = false := by rw [← Bool.not_eq_true, Nat.beq_eq]; exact hk
      rw [hkb]
      simp only [Bool.not_false, cond_true]
      refine in15 _ _ _ (slI_is ks).fz (slI_is rs).fz (kn_no ?_) rfl ?_
      · rw [guard15]; show (okP (i6 q) && (okKs (.int .i64 (q : Int)) (slI ks) && _)) = false
        rw [okKs_sl, hkb]; simp
      · unfold S15
        have hkz : eqZ (ks.length : Int) (ar q : Int) = false := by rw [eqZ_nat]; exact hkb
        simp only [c40 n h1 h2, clT_some, q7_e2, bd_some_eq, hz, Bool.not_true, Bool.not_false, cond_true, cond_false, (slI_is ks).len, hkz, rt_some_eq, bj_inr]; rfl
  · have hb : (ltZ p 1 || ltZ 40 p) = true := by
      rw [ltZ_eq, ltZ_eq, Bool.or_eq_true, decide_eq_true_eq, decide_eq_true_eq]; omega
    have hok : okP (.int .i64 p) = false := by
      simp only [okP, sameK, leZ_eq, Bool.true_and]
      rw [← Bool.not_eq_true, Bool.and_eq_true, decide_eq_true_eq, decide_eq_true_eq]; omega
    simp only [hb, cond_true]
    refine in15 _ _ _ (slI_is ks).fz (slI_is rs).fz (kn_no ?_) rfl ?_
    · rw [guard15]; simp only [gFit, hok, Bool.false_and]
    · unfold S15
      have hc : cl (n + 1) 40 [.int .i64 p] = some (e2 0 2) := by
        refine in40 _ rfl ?_
        unfold S40
        cases h1 : ltZ p 1
        · rw [h1, Bool.false_or] at hb
          rw [hb]; rfl
        · rfl
      have hz : eqZ 2 0 = false := rfl
      simp only [hc, clT_some, q7_e2, bd_some_eq, hz, Bool.not_false, cond_true]; rfl
end Go.Proofs.YtblbgjfkbcdlfaaGreatDoor
/- What the functions of this program come to: joins of a lattice that is one. -/
set_option linter.unusedVariables false
set_option linter.unusedSimpArgs false
set_option maxRecDepth 100000
namespace Go.Proofs.YtblbgjfkbcdlfaaGreatDoor
open Go Iv

/-- A lattice that is one. -/
def Good (ss : List (List UInt8)) (us : List Nat) : Prop := namesB ss = true ∧ us.length = ss.length ∧ (∀ a, a < ss.length → ordB ss.length (uM us) a = true) ∧ (∀ a, a < ss.length → latB ss.length (uM us) a = true)

theorem chk_scan {n : Nat} {p : Nat → Bool} {x : Nat → D} {z : D} : ((∀ a, a < n → p a = true) ∧ scan (fun a => bif p a then none else some (x a)) z n 0 = z) ∨
    ∃ a, a < n ∧ p a = false ∧ scan (fun a => bif p a then none else some (x a)) z n 0 = x a := by
  rcases scan_cases (fun a => bif p a then none else some (x a)) z n 0 with ⟨h1, h2⟩ | ⟨m, r, h1, h2, h3, h4, h5⟩
  · refine .inl ⟨fun a ha => ?_, h2⟩
    have := h1 a (by omega) (by omega)
    cases hp : p a
    · rw [hp] at this; cases this
    · rfl
  · obtain ⟨h6, h7⟩ := cond_none h3
    cases h7
    exact .inr ⟨m, by omega, h6, h5⟩

theorem CHK_cases (ss : List (List UInt8)) (us : List Nat) : (Good ss us ∧ CHK ss us = e2 0 0) ∨ ∃ a e : Int, CHK ss us = e2 a e ∧ eqZ e 0 = false := by
  unfold CHK
  rcases namesD_cases ss with ⟨h1, h2⟩ | ⟨h1, a, e, h2, h3⟩
  · rw [h1]
    simp only [if_true]
    by_cases hl : us.length = ss.length
    · rw [if_pos hl]
      unfold ordD
      rcases chk_scan (n := ss.length) (p := ordB ss.length (uM us)) (x := fun a => e2 a 6) (z := latD ss.length (uM us)) with ⟨h4, h5⟩ | ⟨a, _, _, h6⟩
      · rw [h5]
        unfold latD
        rcases chk_scan (n := ss.length) (p := latB ss.length (uM us)) (x := fun a => e2 a 4) (z := e2 0 0) with ⟨h7, h8⟩ | ⟨a, _, _, h9⟩
        · exact .inl ⟨⟨h1, hl, h4, h7⟩, h8⟩
        · exact .inr ⟨_, _, h9, rfl⟩
      · exact .inr ⟨_, _, h6, rfl⟩
    · rw [if_neg hl]; exact .inr ⟨_, _, rfl, rfl⟩
  · rw [h1]
    exact .inr ⟨a, e, h2, h3⟩

theorem nearD_spec {f : Nat → Nat} {n a b : Nat} (h : ltZ (nearD f n a b) 0 = false) : ∃ c, c < n ∧ nearD f n a b = (c : Int) ∧ f c = f a &&& f b := by
  unfold nearD at *
  rcases scan_cases (fun c => if Nat.beq (f c) (f a &&& f b) then some (c : Int) else none) (-1) n 0 with ⟨h1, h2⟩ | ⟨m, r, h1, h2, h3, h4, h5⟩
  · rw [h2] at h; cases h
  · rw [h5]
    split at h3
    · rename_i he
      cases h3
      exact ⟨m, by omega, rfl, Nat.eq_of_beq_eq_true he⟩
    · cases h3

section
variable {ss : List (List UInt8)} {us : List Nat} (hg : Good ss us)
include hg
theorem good_n : 1 ≤ ss.length ∧ ss.length ≤ 8 := (namesB_iff.1 hg.1).1
theorem good_self {a : Nat} (ha : a < ss.length) : (uM us a).testBit a = true := by
  have := hg.2.2.1 a ha
  simp only [ordB, Bool.and_eq_true] at this
  exact this.2.1
theorem good_lt {a : Nat} (ha : a < ss.length) : uM us a < 2 ^ ss.length := by
  have := hg.2.2.1 a ha
  simp only [ordB, Bool.and_eq_true, Nat.blt_eq] at this
  exact this.1
theorem good_ok {a b : Nat} (ha : a < ss.length) (hb : b < ss.length) : okA ss.length (uM us) a b = true := by
  have := hg.2.2.1 a ha
  simp only [ordB, Bool.and_eq_true] at this
  exact allN_iff.1 this.2.2 b hb
theorem good_anti {a b : Nat} (ha : a < ss.length) (hb : b < ss.length) (h1 : (uM us a).testBit b = true) (h2 : (uM us b).testBit a = true) : a = b := by
  have := good_ok hg ha hb
  rw [okA, h1, h2] at this
  simp only [Bool.not_true, Bool.or_false, Bool.false_or, Bool.and_eq_true, Nat.beq_eq] at this
  exact this.1.symm
theorem good_trans {a b : Nat} (ha : a < ss.length) (hb : b < ss.length) (h1 : (uM us a).testBit b = true) : uM us b &&& uM us a = uM us b := by
  have := good_ok hg ha hb
  rw [okA, h1] at this
  simp only [Bool.not_true, Bool.false_or, Bool.and_eq_true, Nat.beq_eq] at this
  have h2 := this.2
  rw [Nat.and_two_pow_sub_one_of_lt_two_pow (good_lt hg hb)] at h2
  exact h2
theorem good_near {a b : Nat} (ha : a < ss.length) (hb : b < ss.length) : ltZ (nearD (uM us) ss.length a b) 0 = false ∧ ltZ (nearD (dnM (uM us) ss.length ss.length) ss.length a b) 0 = false := by
  have := hg.2.2.2 a ha
  have := allN_iff.1 this b hb
  simpa only [Bool.and_eq_true, Bool.not_eq_true'] using this
theorem good_meet {a b : Nat} (ha : a < ss.length) (hb : b < ss.length) : ∃ c, c < ss.length ∧ nearD (dnM (uM us) ss.length ss.length) ss.length a b = (c : Int) ∧ (uM us c).testBit a = true ∧ uM us b &&& uM us c = uM us b := by
  obtain ⟨c, hc, h1, h2⟩ := nearD_spec (good_near hg ha hb).2
  have hself : (dnM (uM us) ss.length ss.length c).testBit c = true := by rw [dnM_bit, good_self hg hc]; simp [hc]
  rw [h2, Nat.testBit_and, Bool.and_eq_true, dnM_bit, dnM_bit] at hself
  simp only [Bool.and_eq_true] at hself
  exact ⟨c, hc, h1, hself.1.2.1, good_trans hg hc hb hself.2.2.1⟩

/-- The meet of the first labels, as it is reckoned. -/
theorem good_bots : ∀ k, k ≤ ss.length → ∃ b, b < ss.length ∧ ∀ a, a < k → (uM us b).testBit a = true
  | 0, _ => ⟨0, (good_n hg).1, fun a ha => by omega⟩
  | k + 1, hk => by
    obtain ⟨b, hb, h1⟩ := good_bots k (by omega)
    obtain ⟨c, hc, _, h2, h3⟩ := good_meet hg (a := k) (b := b) (by omega) hb
    refine ⟨c, hc, fun a ha => ?_⟩
    by_cases e : a = k
    · rw [e]; exact h2
    · have := h1 a (by omega)
      rw [← h3, Nat.testBit_and, Bool.and_eq_true] at this
      exact this.2

def latT : LatT where
  n := ss.length
  u := uM us
  refl := fun a ha => good_self hg ha
  anti := fun a b ha hb h1 h2 => good_anti hg ha hb h1 h2
  trans := fun a b ha hb h => good_trans hg ha hb h
  joins := fun a b ha hb => by
    obtain ⟨c, hc, _, h⟩ := nearD_spec (good_near hg ha hb).1
    exact ⟨c, hc, h⟩
  bots := by
    obtain ⟨b, hb, h⟩ := good_bots hg ss.length (Nat.le_refl _)
    exact ⟨b, hb, fun a ha => good_trans hg hb ha (h a ha)⟩
end

open LatT

theorem near_J {ss : List (List UInt8)} {us : List Nat} (hg : Good ss us) (a b : Lab (latT hg)) : nearD (uM us) ss.length a.1 b.1 = ((J a b).1 : Int) := by
  obtain ⟨c, hc, h1, h2⟩ := nearD_spec (good_near hg a.2 b.2).1
  rw [h1]
  have : (⟨c, hc⟩ : Lab (latT hg)) = J a b := Lab.ext (by rw [u_J]; exact h2)
  rw [← this]
theorem bound_J {ss : List (List UInt8)} {us : List Nat} (hg : Good ss us) (a b : Lab (latT hg)) : boundD (uM us) ss.length a.1 b.1 = ((J a b).1 : Int) := by
  rw [bound_near (fun c hc => good_self hg hc), near_J]

theorem u_bot_all {ss : List (List UInt8)} {us : List Nat} (hg : Good ss us) : uM us (bot (latT hg)).1 = 2 ^ ss.length - 1 := by
  apply Nat.eq_of_testBit_eq
  intro i
  rw [Nat.testBit_two_pow_sub_one]
  by_cases hi : i < ss.length
  · have h := u_bot (T := latT hg) ⟨i, hi⟩
    have h2 := good_self hg hi
    have h : uM us i &&& uM us (bot (latT hg)).1 = uM us i := h
    rw [← h, Nat.testBit_and, Bool.and_eq_true] at h2
    simp [h2.2, hi]
  · have : uM us (bot (latT hg)).1 < 2 ^ i := Nat.lt_of_lt_of_le (good_lt hg (bot (latT hg)).2) (Nat.pow_le_pow_right (by omega) (by omega))
    rw [Nat.testBit_lt_two_pow this]; simp [hi]

section
variable {ss : List (List UInt8)} {us : List Nat} {d e : D} (h : Strs ss d) (hu : U8s us e) (hg : Good ss us)
include h hu

theorem ptr_fz : Fz (.iptr [d, e] 0) := ⟨rfl, by simp only [D.dp, D.dps, h.dp, hu.dp, Bool.and_self]⟩
theorem agg_dp : (D.agg [d, e]).dp = true := by simp only [D.dp, D.dps, h.dp, hu.dp, Bool.and_self]

theorem q6_ag : q6 (.agg [d, e]) = some (d, e, ()) := gd_agg (gds_cons (gd_fz h.fz.1) (gds_cons (gd_fz hu.fz.1) gds_nil))

include hg
omit h hu in
theorem chk_good : CHK ss us = e2 0 0 := by
  rcases CHK_cases ss us with ⟨_, h1⟩ | ⟨a, er, h1, h2⟩
  · exact h1
  · exfalso
    unfold CHK at h1
    rw [hg.1, if_pos rfl, if_pos hg.2.1] at h1
    unfold ordD at h1
    rcases chk_scan (n := ss.length) (p := ordB ss.length (uM us)) (x := fun a => e2 a 6) (z := latD ss.length (uM us)) with ⟨_, h5⟩ | ⟨a, ha, hb, _⟩
    · rw [h5] at h1
      unfold latD at h1
      rcases chk_scan (n := ss.length) (p := latB ss.length (uM us)) (x := fun a => e2 a 4) (z := e2 0 0) with ⟨_, h8⟩ | ⟨a, ha, hb, _⟩
      · rw [h8] at h1
        simp only [e2, D.tup.injEq, List.cons.injEq, D.int.injEq, true_and, and_true] at h1
        rw [← h1.2] at h2; cases h2
      · rw [hg.2.2.2 a ha] at hb; cases hb
    · rw [hg.2.2.1 a ha] at hb; cases hb

theorem c74 (n : Nat) {ls : List Int} {L : D} (hl : I64s ls L) (hlen : ls.length < 100) (hin : ∀ x ∈ ls, 0 ≤ x ∧ x < ss.length) : cl (n + 7) 74 [.iptr [d, e] 0, L] = some (.int .i64 0) := by
  refine in74 _ _ (ptr_fz h hu) hl.fz rfl ?_
  unfold S74
  have k0 : ∀ {ρ : Type} (K : _ → Option ρ), tkT q6 [d, e] 0 (some 2) K = K (d, e, ()) := fun K => by
    show bd (q6 (.agg [d, e])) K = _; rw [q6_ag h hu]; rfl
  have k1 : ∀ {ρ : Type} (K : _ → Option ρ), tkT q19 [d, e] (0 + 0) none K = K d := fun K => by show bd (q19 d) K = _; rw [q19_fz h.fz]; rfl
  have hz : eqZ 0 0 = true := rfl
  simp only [ptF, bd_some_eq, k0, c19 n h hu, chk_good hg, clT_some, q7_e2, hz, Bool.not_true, cond_false, hl.len]
  refine loop_fold (st := fun i => ((D.iptr [d, e] 0, L, (ls.length : Int), (i : Int), ()), ())) (n := ls.length) (fun i hi => ?_) ?_
  · have hx := hin ls[i] (List.getElem_mem hi)
    have e1 : ltZ ls[i] 0 = false := by rw [ltZ_eq, decide_eq_false_iff_not]; omega
    have e2 : leZ (ss.length : Int) ls[i] = false := by rw [leZ_eq, decide_eq_false_iff_not]; omega
    simp only [ltZ_lt hi, cond_true, hl.ix hi, q4_int, bd_some_eq, e1, cond_false, k1, h.len, e2, inc_i64 (show i < 9223372036854775807 by omega)]
  · simp only [ltZ_ge (Nat.le_refl _), cond_false]; rfl

theorem c57 (n : Nat) (a b : Lab (latT hg)) : cl (n + 8) 57 [.agg [d, e], .int .i64 (a.1 : Int), .int .i64 (b.1 : Int)] = some (e2 ((J a b).1 : Int) 0) := by
  have hn := good_n hg
  have ha : a.1 < ss.length := a.2
  have hb : b.1 < ss.length := b.2
  refine in57 d e _ _ h.fz hu.fz rfl ?_
  unfold S57
  have hL : I64s [(a.1 : Int), (b.1 : Int)] (.sl true 2 [.int .i64 (a.1 : Int), .int .i64 (b.1 : Int)]) := ⟨fun r hr => by
    simp only [List.map_cons, List.map_nil, List.mem_cons, List.not_mem_nil, or_false] at hr
    rcases hr with rfl | rfl <;> rfl, .inr ⟨true, rfl⟩⟩
  have h74 := c74 h hu hg n hL (by simp) (by simp only [List.mem_cons, List.not_mem_nil, or_false]; rintro x (rfl | rfl) <;> omega)
  have h46 := c46 (n + 6) h hu hn.2 (by have := hg.2.1; omega)
  have h47 := c47 (n + 6) (uM us) (uM_lt hu) hn.2 (show a.1 < 8 by omega) (show b.1 < 8 by omega)
  rw [bound_J hg] at h47
  simp only [row8] at h47
  have hz : eqZ 0 0 = true := rfl
  simp only [h74, clT_some, q4_int, bd_some_eq, hz, Bool.not_true, cond_false, h46, q14_ord, h47]; rfl

theorem c64 (n : Nat) (a b : Lab (latT hg)) : cl (n + 5) 64 [.agg [d, e], .int .i64 (a.1 : Int), .int .i64 (b.1 : Int)] = some (.int .i64 0) := by
  have ha : a.1 < ss.length := a.2
  have hb : b.1 < ss.length := b.2
  refine in64 d e _ _ h.fz hu.fz rfl ?_
  unfold S64
  have hz : eqZ 0 0 = true := rfl
  have e1 : ∀ k : Nat, ltZ (k : Int) 0 = false := fun k => ltZ_ge (b := 0) (Nat.zero_le k)
  have e2 : ∀ k : Nat, k < ss.length → leZ (ss.length : Int) (k : Int) = false := fun k hk => by rw [leZ_eq, decide_eq_false_iff_not]; omega
  simp only [c27 n h hu, chk_good hg, clT_some, q7_e2, bd_some_eq, hz, cond_true, e1, cond_false, h.len, e2 _ ha, e2 _ hb]

theorem c33 (n : Nat) (a b : Lab (latT hg)) : cl (n + 6) 33 [.agg [d, e], .int .i64 (a.1 : Int), .int .i64 (b.1 : Int)] = some (e2 ((J a b).1 : Int) 0) := by
  have hn := good_n hg
  have ha : a.1 < us.length := by rw [hg.2.1]; exact a.2
  have hb : b.1 < us.length := by rw [hg.2.1]; exact b.2
  refine in33 d e _ _ h.fz hu.fz rfl ?_
  unfold S33
  have h65 : cl (n + 5) 65 [.agg [d, e], .int .i64 (a.1 : Int), .int .i64 (b.1 : Int)] = some (.int .i64 ((J a b).1 : Int)) := by
    refine in65 d e _ _ h.fz hu.fz rfl ?_
    unfold S65
    have h61 := c61 (n + 3) hu (by have := hg.2.1; omega) ha hb
    rw [hg.2.1, near_J hg] at h61
    simp only [h61, clT_some, q4_int, bd_some_eq]
  have hz : eqZ 0 0 = true := rfl
  simp only [c64 h hu hg n a b, h65, clT_some, q4_int, bd_some_eq, hz, Bool.not_true, cond_false]; rfl

theorem c34 (n : Nat) (a b : Lab (latT hg)) : cl (n + 6) 34 [.agg [d, e], .int .i64 (a.1 : Int), .int .i64 (b.1 : Int)] = some (.tup [.bool ((uM us a.1).testBit b.1), .int .i64 0]) := by
  have ha : a.1 < us.length := by rw [hg.2.1]; exact a.2
  refine in34 d e _ _ h.fz hu.fz rfl ?_
  unfold S34
  have hz : eqZ 0 0 = true := rfl
  simp only [c64 h hu hg n a b, c37 (n + 4) h.fz hu ha, clT_some, q4_int, q0_bool, bd_some_eq, hz, cond_true]

theorem c12 (n : Nat) (a b : Lab (latT hg)) : cl (n + 7) 12 [.agg [d, e], .int .i64 (a.1 : Int), .int .i64 (b.1 : Int)] = some (.bool ((uM us a.1).testBit b.1)) := by
  refine in12 d e _ _ h.fz hu.fz rfl ?_
  unfold S12
  have q11' : ∀ (x : Bool) (y : Int), q11 (.tup [.bool x, .int .i64 y]) = some (x, y, ()) := fun x y => rfl
  simp only [c34 h hu hg n a b, clT_some, q11', bd_some_eq]
  cases (uM us a.1).testBit b.1 <;> rfl

omit h in
theorem c75 (n : Nat) : cl (n + 2) 75 [.agg (row8 (uM us)), .int .i64 (ss.length : Int)] = some (.int .i64 ((bot (latT hg)).1 : Int)) := by
  have hn := good_n hg
  refine in75 _ _ _ _ _ _ _ _ _ rfl ?_
  unfold S75
  have hb : (bot (latT hg)).1 < ss.length := (bot (latT hg)).2
  have hall := u_bot_all hg
  have hw : wrapD .i64 ((ss.length : Int) - 1) = ((ss.length - 1 : Nat) : Int) := by rw [wrap_i64 (by omega) (by omega)]; omega
  have hx : ∀ (c : Nat), c < 8 → ∀ {ρ : Type} (K : Int → Option ρ), tkT q13 (row8 (uM us)) (0 + c * 1) none K = K (uM us c : Int) := fun c hc ρ K => by
    simp only [tkT, takeAt, Nat.zero_add, Nat.mul_one, row8_at _ c hc, bd_some_eq, q13_int]
  refine loop_exit (st := fun i => (((ss.length : Int), (), (i : Int), ()), (row8 (uM us), ()))) (m := (bot (latT hg)).1) (fun i hi => ?_) ?_
  · have hlt : ltZ (i : Int) ((ss.length - 1 : Nat) : Int) = true := ltZ_lt (by omega)
    obtain ⟨v, hv1, hv2⟩ := c105 n (uM us i) (uM_lt hu i)
    have hne : uM us i ≠ 2 ^ ss.length - 1 := fun he => by
      have : (⟨i, show i < ss.length by omega⟩ : Lab (latT hg)) = bot (latT hg) := Lab.ext (by show uM us i = uM us (bot (latT hg)).1; rw [he, hall])
      have := congrArg Subtype.val this
      simp only at this
      omega
    have h2 := hv2 ss.length hn.1 hn.2 (good_lt hg (show i < ss.length by omega))
    rw [show Nat.beq (uM us i) (2 ^ ss.length - 1) = false by rw [← Bool.not_eq_true, Nat.beq_eq]; exact hne] at h2
    simp only [hw, hlt, cond_true, idx8 (show i < 8 by omega), bd_some_eq, hx i (by omega), hv1, clT_some, q4_int, h2, Bool.not_false, inc_i64 (show i < 9223372036854775807 by omega)]
  · by_cases hl : (bot (latT hg)).1 < ss.length - 1
    · have hlt : ltZ ((bot (latT hg)).1 : Int) ((ss.length - 1 : Nat) : Int) = true := ltZ_lt hl
      obtain ⟨v, hv1, hv2⟩ := c105 n (uM us (bot (latT hg)).1) (uM_lt hu _)
      have h2 := hv2 ss.length hn.1 hn.2 (good_lt hg hb)
      rw [hall, Nat.beq_refl] at h2
      rw [hall] at hv1
      simp only [hw, hlt, cond_true, idx8 (show (bot (latT hg)).1 < 8 by omega), bd_some_eq, hx (bot (latT hg)).1 (by omega), hall, hv1, clT_some, q4_int, h2, Bool.not_true, cond_false]; rfl
    · have hlt : ltZ ((bot (latT hg)).1 : Int) ((ss.length - 1 : Nat) : Int) = false := ltZ_ge (by omega)
      simp only [hw, hlt, cond_false]; rfl

theorem c53 (n : Nat) : cl (n + 8) 53 [.agg [d, e]] = some (e2 ((bot (latT hg)).1 : Int) 0) := by
  have hn := good_n hg
  refine in53 d e h.fz hu.fz rfl ?_
  unfold S53
  have hL : I64s [] .nils := ⟨fun r hr => by simp at hr, .inl ⟨rfl, rfl⟩⟩
  have h74 := c74 h hu hg n hL (by simp) (by simp)
  have h46 := c46 (n + 6) h hu hn.2 (by have := hg.2.1; omega)
  have h75 := c75 hu hg (n + 5)
  simp only [row8] at h75
  have hz : eqZ 0 0 = true := rfl
  simp only [h74, clT_some, q4_int, bd_some_eq, hz, Bool.not_true, cond_false, h46, q14_ord, h75]; rfl

omit h hu in
def botS (us : List Nat) (m : Nat) : Nat → Nat
  | 0 => 0
  | i + 1 => (nearD (dnM (uM us) m m) m i (botS us m i)).toNat
omit h hu in
theorem botS_ok : ∀ i, i ≤ ss.length → botS us ss.length i < ss.length ∧ (∀ a, a < i → (uM us (botS us ss.length i)).testBit a = true)
  | 0, _ => ⟨(good_n hg).1, fun a ha => by omega⟩
  | i + 1, hi => by
    obtain ⟨h1, h2⟩ := botS_ok i (by omega)
    obtain ⟨c, hc, h3, h4, h5⟩ := good_meet hg (a := i) (b := botS us ss.length i) (by omega) h1
    have hb : botS us ss.length (i + 1) = c := by simp only [botS, h3, Int.toNat_natCast]
    rw [hb]
    refine ⟨hc, fun a ha => ?_⟩
    by_cases e : a = i
    · rw [e]; exact h4
    · have := h2 a (by omega)
      rw [← h5, Nat.testBit_and, Bool.and_eq_true] at this
      exact this.2
omit h hu in
theorem botS_bot : botS us ss.length ss.length = (bot (latT hg)).1 := by
  obtain ⟨h1, h2⟩ := botS_ok hg ss.length (Nat.le_refl _)
  have : (⟨botS us ss.length ss.length, h1⟩ : Lab (latT hg)) = bot (latT hg) := by
    apply Lab.ext
    show uM us (botS us ss.length ss.length) = uM us (bot (latT hg)).1
    have hle := good_trans hg h1 (bot (latT hg)).2 (h2 _ (bot (latT hg)).2)
    have := u_bot (T := latT hg) ⟨botS us ss.length ss.length, h1⟩
    have this : uM us (botS us ss.length ss.length) &&& uM us (bot (latT hg)).1 = uM us (botS us ss.length ss.length) := this
    rw [← this, Nat.and_comm]; exact hle
  exact congrArg Subtype.val this

theorem c36 (n : Nat) : cl (n + 6) 36 [.agg [d, e]] = some (e2 ((bot (latT hg)).1 : Int) 0) := by
  have hn := good_n hg
  refine in36 d e h.fz hu.fz rfl ?_
  unfold S36
  have h64 := c64 h hu hg n ⟨0, hn.1⟩ ⟨0, hn.1⟩
  have h64 : cl (n + 5) 64 [.agg [d, e], .int .i64 0, .int .i64 0] = some (.int .i64 0) := h64
  obtain ⟨c, hc1, hc2⟩ := c60 (n + 3) h hu hn.2 hg.2.1
  have hcl : ((List.range ss.length).map (dnM (uM us) ss.length ss.length)).length = ss.length := by simp
  have huc : ∀ i, i < ss.length → uM ((List.range ss.length).map (dnM (uM us) ss.length ss.length)) i = dnM (uM us) ss.length ss.length i := fun i hi => by
    unfold uM; rw [getD_lt (by simpa using hi)]; simp
  have hz : eqZ 0 0 = true := rfl
  simp only [h64, clT_some, q4_int, bd_some_eq, hz, Bool.not_true, cond_false, hc1, q19_fz hc2.fz]
  refine loop_fold (st := fun i => (((), c, (botS us ss.length i : Int), (i : Int), ()), ((d, e, ()), ()))) (n := ss.length) (fun i hi => ?_) ?_
  · obtain ⟨h1, _⟩ := botS_ok hg i (by omega)
    obtain ⟨b, hb, h3, _, _⟩ := good_meet hg (a := i) (b := botS us ss.length i) hi h1
    have q2 := c61 (n + 4) hc2 (by omega) (show i < _ by rw [hcl]; exact hi) (show botS us ss.length i < _ by rw [hcl]; exact h1)
    rw [hcl, nearD_congr huc hi h1, h3] at q2
    have hs : botS us ss.length (i + 1) = b := by simp only [botS, h3, Int.toNat_natCast]
    simp only [h.len, ltZ_lt hi, cond_true, q2, clT_some, q4_int, bd_some_eq, inc_i64 (show i < 9223372036854775807 by omega), hs]
  · simp only [h.len, ltZ_ge (Nat.le_refl _), cond_false, botS_bot hg]; rfl
end
end Go.Proofs.YtblbgjfkbcdlfaaGreatDoor
/- What the functions of this program come to: rules of primitives, the parts. -/
set_option linter.unusedVariables false
set_option linter.unusedSimpArgs false
set_option linter.unusedSectionVars false
set_option maxRecDepth 100000
namespace Go.Proofs.YtblbgjfkbcdlfaaGreatDoor
open Go Iv LatT

theorem cells_is (b : Bool) (l : List Int) : I64s l (.sl b l.length (l.map (D.int .i64))) := by
  refine ⟨fun r hr => ?_, .inr ⟨b, ?_⟩⟩
  · simp only [List.mem_map] at hr; obtain ⟨u, _, rfl⟩ := hr; rfl
  · have : ∀ l : List Int, (l.map fun u => [D.int .i64 u]).flatten = l.map (D.int .i64) := fun l => by
      induction l with
      | nil => rfl
      | cons a l ih => simp only [List.map_cons, List.flatten_cons, ih]; rfl
    rw [this]; simp

noncomputable def foldJ {T : LatT} (z : Lab T) (l : List (Lab T)) : Lab T := l.foldl J z

section
variable {ss : List (List UInt8)} {us : List Nat} {d e : D} (h : Strs ss d) (hu : U8s us e) (hg : Good ss us)
include h hu hg

/-- rules.join -/
theorem c25 (n : Nat) (z : Lab (latT hg)) (ls : List (Lab (latT hg))) (hlen : ls.length < 100) {L : D} (hL : I64s (ls.map fun a => (a.1 : Int)) L) :
    cl (n + 9) 25 [.agg [d, e, .int .i64 (z.1 : Int)], L] = some (.int .i64 ((foldJ z ls).1 : Int)) := by
  refine in25 d e _ _ h.fz hu.fz hL.fz rfl ?_
  unfold S25
  simp only [hL.len]
  refine loop_fold (st := fun i => (((), ((foldJ z (ls.take i)).1 : Int), L, ((ls.map fun a => (a.1 : Int)).length : Int), (i : Int), ()), ((d, e, (z.1 : Int), ()), ()))) (n := (ls.map fun a => (a.1 : Int)).length) (fun i hi => ?_) ?_
  · have hi' : i < ls.length := by simpa using hi
    have hx : (ls.map fun a => (a.1 : Int))[i] = (ls[i].1 : Int) := by simp
    simp only [ltZ_lt hi, cond_true, hL.ix hi, q4_int, bd_some_eq, hx, c57 h hu hg n, clT_some, q7_e2, inc_i64 (show i < 9223372036854775807 by omega)]
    rw [List.take_succ_eq_append_getElem hi']
    simp only [foldJ, List.foldl_append, List.foldl_cons, List.foldl_nil]
  · simp only [ltZ_ge (Nat.le_refl _), cond_false]
    rw [List.length_map, List.take_length]; rfl

/-- ref27.join -/
theorem c32 (n : Nat) (ls : List (Lab (latT hg))) (hlen : ls.length < 100) {L : D} (hL : I64s (ls.map fun a => (a.1 : Int)) L) :
    cl (n + 7) 32 [.agg [d, e], L] = some (.int .i64 ((foldJ (bot (latT hg)) ls).1 : Int)) := by
  refine in32 d e _ h.fz hu.fz hL.fz rfl ?_
  unfold S32
  simp only [c36 h hu hg n, clT_some, q7_e2, bd_some_eq]
  refine loop_fold (st := fun i => ((L, (), ((foldJ (bot (latT hg)) (ls.take i)).1 : Int), (i : Int), ()), ((d, e, ()), ()))) (n := (ls.map fun a => (a.1 : Int)).length) (fun i hi => ?_) ?_
  · have hi' : i < ls.length := by simpa using hi
    have hx : (ls.map fun a => (a.1 : Int))[i] = (ls[i].1 : Int) := by simp
    simp only [hL.len, ltZ_lt hi, cond_true, hL.ix hi, q4_int, bd_some_eq, hx, c33 h hu hg n, clT_some, q7_e2, inc_i64 (show i < 9223372036854775807 by omega)]
    rw [List.take_succ_eq_append_getElem hi']
    simp only [foldJ, List.foldl_append, List.foldl_cons, List.foldl_nil]
  · simp only [hL.len, ltZ_ge (Nat.le_refl _), cond_false]
    rw [List.length_map, List.take_length]; rfl

theorem j25_0 (n : Nat) (z : Lab (latT hg)) : cl (n + 9) 25 [.agg [d, e, .int .i64 (z.1 : Int)], .nils] = some (.int .i64 (z.1 : Int)) :=
  c25 h hu hg n z [] (by simp) ⟨fun r hr => by simp at hr, .inl ⟨rfl, rfl⟩⟩
theorem j25_1 (n : Nat) (z a : Lab (latT hg)) (b : Bool) : cl (n + 9) 25 [.agg [d, e, .int .i64 (z.1 : Int)], .sl b 1 [.int .i64 (a.1 : Int)]] = some (.int .i64 ((J z a).1 : Int)) :=
  c25 h hu hg n z [a] (by simp) (cells_is b [(a.1 : Int)])
theorem j25_2 (n : Nat) (z a c : Lab (latT hg)) (b : Bool) : cl (n + 9) 25 [.agg [d, e, .int .i64 (z.1 : Int)], .sl b 2 [.int .i64 (a.1 : Int), .int .i64 (c.1 : Int)]] = some (.int .i64 ((J (J z a) c).1 : Int)) :=
  c25 h hu hg n z [a, c] (by simp) (cells_is b [(a.1 : Int), (c.1 : Int)])
theorem j32_0 (n : Nat) : cl (n + 7) 32 [.agg [d, e], .nils] = some (.int .i64 ((bot (latT hg)).1 : Int)) :=
  c32 h hu hg n [] (by simp) ⟨fun r hr => by simp at hr, .inl ⟨rfl, rfl⟩⟩
theorem j32_2 (n : Nat) (a c : Lab (latT hg)) (b : Bool) : cl (n + 7) 32 [.agg [d, e], .sl b 2 [.int .i64 (a.1 : Int), .int .i64 (c.1 : Int)]] = some (.int .i64 ((J a c).1 : Int)) := by
  have := c32 h hu hg n [a, c] (by simp) (cells_is b [(a.1 : Int), (c.1 : Int)])
  have e2 : foldJ (bot (latT hg)) [a, c] = J a c := by simp only [foldJ, List.foldl_cons, List.foldl_nil, bot_J]
  rw [e2] at this
  exact this
end

/-! Types with labels: axes beyond the rank are bottom in the model, anything in the cells. -/
structure TM (T : LatT) where
  r : Nat
  a0 : Lab T
  a1 : Lab T
  d : Lab T

/-- Cells that are a type. -/
structure IsTy {T : LatT} (m : TM T) (r x0 x1 x2 : Int) : Prop where
  r2 : m.r ≤ 2
  r : r = (m.r : Int)
  x0 : 1 ≤ m.r → x0 = (m.a0.1 : Int)
  b0 : m.r < 1 → m.a0 = bot T
  x1 : 2 ≤ m.r → x1 = (m.a1.1 : Int)
  b1 : m.r < 2 → m.a1 = bot T
  x2 : x2 = (m.d.1 : Int)

def ty5 (k r x0 x1 x2 : Int) : D := .agg [.int .i64 k, .int .i64 r, .int .i64 x0, .int .i64 x1, .int .i64 x2]
@[simp] theorem q18_ag (a b : Int) : q18 (.agg [.int .i64 a, .int .i64 b]) = some (a, b, ()) := rfl
@[simp] theorem q9_tup (a b c d : Int) : q9 (.tup [.agg [.int .i64 a, .int .i64 b], .int .i64 c, .int .i64 d]) = some ((a, b, ()), c, d, ()) := rfl

noncomputable def TM.lens {T : LatT} (m : TM T) : Lab T := J m.a0 m.a1

section
variable {ss : List (List UInt8)} {us : List Nat} {d e : D} (h : Strs ss d) (hu : U8s us e) (hg : Good ss us)
include h hu hg

theorem c26 (n : Nat) {k r x0 x1 x2 : Int} {m : TM (latT hg)} (hm : IsTy m r x0 x1 x2) : cl (n + 10) 26 [.agg [d, e, .int .i64 ((bot (latT hg)).1 : Int)], ty5 k r x0 x1 x2] = some (.int .i64 (m.lens.1 : Int)) := by
  refine in26 d e _ _ _ _ _ _ h.fz hu.fz rfl ?_
  unfold S26
  obtain ⟨mr, a0, a1, md⟩ := m
  obtain ⟨h2, rfl, hx0, hb0, hx1, hb1, rfl⟩ := hm
  simp only at h2 hx0 hb0 hx1 hb1
  have : mr = 0 ∨ mr = 1 ∨ mr = 2 := by omega
  rcases this with rfl | rfl | rfl
  · rw [hb0 (by omega), hb1 (by omega)]
    have e1 : bndO 2 2 (some (.int .i64 ((0 : Nat) : Int))) = some 0 := rfl
    have e2 : frSl (Nat.beq 2 0) 2 1 0 [.int .i64 k, .int .i64 ((0 : Nat) : Int), .int .i64 x0, .int .i64 x1, .int .i64 (md.1 : Int)] = some (.sl false 0 []) := rfl
    have := c25 h hu hg n (bot (latT hg)) [] (by simp) (cells_is false [])
    have : cl (n + 9) 25 [.agg [d, e, .int .i64 ((bot (latT hg)).1 : Int)], .sl false 0 []] = some (.int .i64 ((bot (latT hg)).1 : Int)) := this
    simp only [e1, e2, bd_some_eq, this, clT_some, q4_int, TM.lens, J_idem]
  · rw [hb1 (by omega), hx0 (by omega)]
    have e1 : bndO 2 2 (some (.int .i64 ((1 : Nat) : Int))) = some 1 := rfl
    have e2 : frSl (Nat.beq 2 1) 2 1 1 [.int .i64 k, .int .i64 ((1 : Nat) : Int), .int .i64 (a0.1 : Int), .int .i64 x1, .int .i64 (md.1 : Int)] = some (.sl false 1 [.int .i64 (a0.1 : Int)]) := rfl
    simp only [e1, e2, bd_some_eq, j25_1 h hu hg n, clT_some, q4_int, TM.lens, J_bot, bot_J]
  · rw [hx1 (by omega), hx0 (by omega)]
    have e1 : bndO 2 2 (some (.int .i64 ((2 : Nat) : Int))) = some 2 := rfl
    have e2 : frSl (Nat.beq 2 2) 2 1 2 [.int .i64 k, .int .i64 ((2 : Nat) : Int), .int .i64 (a0.1 : Int), .int .i64 (a1.1 : Int), .int .i64 (md.1 : Int)] = some (.sl true 2 [.int .i64 (a0.1 : Int), .int .i64 (a1.1 : Int)]) := rfl
    simp only [e1, e2, bd_some_eq, j25_2 h hu hg n, clT_some, q4_int, TM.lens, bot_J]

omit hg in
theorem c54 (n : Nat) (hg : Good ss us) {k r x0 x1 x2 : Int} {m : TM (latT hg)} (hm : IsTy m r x0 x1 x2) : cl (n + 1) 54 [.agg [d, e, .int .i64 ((bot (latT hg)).1 : Int)], ty5 k r x0 x1 x2] = some (.agg [.int .i64 (m.a0.1 : Int), .int .i64 (m.a1.1 : Int)]) := by
  refine in54 d e _ _ _ _ _ _ h.fz hu.fz rfl ?_
  unfold S54
  obtain ⟨mr, a0, a1, md⟩ := m
  obtain ⟨h2, rfl, hx0, hb0, hx1, hb1, rfl⟩ := hm
  simp only at h2 hx0 hb0 hx1 hb1
  have : mr = 0 ∨ mr = 1 ∨ mr = 2 := by omega
  rcases this with rfl | rfl | rfl
  · rw [hb0 (by omega), hb1 (by omega)]; rfl
  · rw [hb1 (by omega), hx0 (by omega)]; rfl
  · rw [hx1 (by omega), hx0 (by omega)]; rfl

theorem c55_0 (n : Nat) : cl (n + 10) 55 [.agg [d, e, .int .i64 ((bot (latT hg)).1 : Int)], .nils] = some (.agg [.int .i64 ((bot (latT hg)).1 : Int), .int .i64 ((bot (latT hg)).1 : Int)]) := by
  refine in55 d e _ _ h.fz hu.fz ⟨rfl, rfl⟩ rfl ?_
  unfold S55
  simp only [j25_0 h hu hg n, clT_some, q4_int, bd_some_eq]
theorem c55_1 (n : Nat) (a : Lab (latT hg)) : cl (n + 10) 55 [.agg [d, e, .int .i64 ((bot (latT hg)).1 : Int)], .sl true 1 [.int .i64 (a.1 : Int)]] = some (.agg [.int .i64 (a.1 : Int), .int .i64 ((bot (latT hg)).1 : Int)]) := by
  refine in55 d e _ _ h.fz hu.fz ⟨rfl, rfl⟩ rfl ?_
  unfold S55
  simp only [j25_1 h hu hg n, clT_some, q4_int, bd_some_eq, bot_J]
theorem c55_2 (n : Nat) (a b : Lab (latT hg)) : cl (n + 10) 55 [.agg [d, e, .int .i64 ((bot (latT hg)).1 : Int)], .sl true 2 [.int .i64 (a.1 : Int), .int .i64 (b.1 : Int)]] = some (.agg [.int .i64 ((J a b).1 : Int), .int .i64 ((bot (latT hg)).1 : Int)]) := by
  refine in55 d e _ _ h.fz hu.fz ⟨rfl, rfl⟩ rfl ?_
  unfold S55
  simp only [j25_2 h hu hg n, clT_some, q4_int, bd_some_eq, bot_J]

/-- Extended axes. -/
def ext {T : LatT} (f : Lab T → Lab T → Lab T) (m m' : TM T) : Lab T × Lab T :=
  bif Nat.blt m'.r m.r then (m.a0, m.a1) else bif Nat.blt m.r m'.r then (m'.a0, m'.a1) else (f m.a0 m'.a0, f m.a1 m'.a1)

theorem c56 (n : Nat) {k r x0 x1 x2 k' r' x0' x1' x2' : Int} {m m' : TM (latT hg)} (hm : IsTy m r x0 x1 x2) (hm' : IsTy m' r' x0' x1' x2') :
    cl (n + 10) 56 [.agg [d, e, .int .i64 ((bot (latT hg)).1 : Int)], ty5 k r x0 x1 x2, ty5 k' r' x0' x1' x2'] = some (.agg [.int .i64 ((ext J m m').1.1 : Int), .int .i64 ((ext J m m').2.1 : Int)]) := by
  refine in56 d e _ _ _ _ _ _ _ _ _ _ _ h.fz hu.fz rfl ?_
  unfold S56
  have h1 := c54 h hu (n + 8) hg (k := k) hm
  have h2 := c54 h hu (n + 8) hg (k := k') hm'
  simp only [ty5] at h1 h2
  rw [hm.r, hm'.r, ltZ_nat, ltZ_nat, ext]
  rw [hm.r] at h1
  rw [hm'.r] at h2
  simp only [h1, h2, clT_some, q18_ag, bd_some_eq, j25_2 h hu hg n, q4_int, bot_J]
  cases Nat.blt m'.r m.r
  · cases Nat.blt m.r m'.r <;> rfl
  · rfl

theorem c29 (n : Nat) {k r x0 x1 x2 : Int} {m : TM (latT hg)} (hm : IsTy m r x0 x1 x2) : cl (n + 8) 29 [.agg [d, e], ty5 k r x0 x1 x2] = some (.int .i64 (m.lens.1 : Int)) := by
  refine in29 d e _ _ _ _ _ h.fz hu.fz rfl ?_
  unfold S29
  obtain ⟨mr, a0, a1, md⟩ := m
  obtain ⟨h2, rfl, hx0, hb0, hx1, hb1, rfl⟩ := hm
  simp only at h2 hx0 hb0 hx1 hb1
  simp only [j32_0 h hu hg n, clT_some, q4_int, bd_some_eq]
  have t0 : ∀ (a b c d e : Int) {ρ : Type} (K : Int → Option ρ), tkT q4 [.int .i64 a, .int .i64 b, .int .i64 c, .int .i64 d, .int .i64 e] (2 + 0 * 1) none K = K c := fun a b c d e ρ K => rfl
  have t1 : ∀ (a b c d e : Int) {ρ : Type} (K : Int → Option ρ), tkT q4 [.int .i64 a, .int .i64 b, .int .i64 c, .int .i64 d, .int .i64 e] (2 + 1 * 1) none K = K d := fun a b c d e ρ K => rfl
  have i0 : idxD 2 (.int .i64 (0 : Int)) = some 0 := rfl
  have i1 : idxD 2 (.int .i64 (1 : Int)) = some 1 := rfl
  have w1 : wrapD .i64 ((0 : Int) + 1) = 1 := rfl
  have w2 : wrapD .i64 ((1 : Int) + 1) = 2 := rfl
  have l00 : ltZ 0 ((0 : Nat) : Int) = false := rfl
  have l01 : ltZ 0 ((1 : Nat) : Int) = true := rfl
  have l02 : ltZ 0 ((2 : Nat) : Int) = true := rfl
  have l11 : ltZ 1 ((1 : Nat) : Int) = false := rfl
  have l12 : ltZ 1 ((2 : Nat) : Int) = true := rfl
  have l22 : ltZ 2 ((2 : Nat) : Int) = false := rfl
  have : mr = 0 ∨ mr = 1 ∨ mr = 2 := by omega
  rcases this with rfl | rfl | rfl
  · rw [hb0 (by omega), hb1 (by omega)]
    refine loop_done ?_
    simp only [l00, cond_false, rt_some_eq, TM.lens, J_idem]
  · rw [hb1 (by omega), hx0 (by omega)]
    refine (loop_step (w := (((), (), (a0.1 : Int), (1 : Int), ()), ((k, ((1 : Nat) : Int), (a0.1 : Int), x1, (md.1 : Int), ()), (d, e, ()), ()))) ?_).trans (loop_done ?_)
    · simp only [l01, cond_true, i0, bd_some_eq, t0, j32_2 h hu hg n, clT_some, q4_int, bot_J, w1]
    · simp only [l11, cond_false, rt_some_eq, TM.lens, J_bot]
  · rw [hx1 (by omega), hx0 (by omega)]
    refine (loop_step (w := (((), (), (a0.1 : Int), (1 : Int), ()), ((k, ((2 : Nat) : Int), (a0.1 : Int), (a1.1 : Int), (md.1 : Int), ()), (d, e, ()), ()))) ?_).trans ((loop_step (w := (((), (), ((J a0 a1).1 : Int), (2 : Int), ()), ((k, ((2 : Nat) : Int), (a0.1 : Int), (a1.1 : Int), (md.1 : Int), ()), (d, e, ()), ()))) ?_).trans (loop_done ?_))
    · simp only [l02, cond_true, i0, bd_some_eq, t0, j32_2 h hu hg n, clT_some, q4_int, bot_J, w1]
    · simp only [l12, cond_true, i1, bd_some_eq, t1, j32_2 h hu hg n, clT_some, q4_int, w2]
    · simp only [l22, cond_false, rt_some_eq, TM.lens]
end
end Go.Proofs.YtblbgjfkbcdlfaaGreatDoor
