/- What the functions of this program come to: names. -/
import Derived.Test.YtblbgjfkbcdlfaaGreatDoorSI
set_option linter.unusedVariables false
set_option linter.unusedSimpArgs false
set_option maxRecDepth 100000
namespace Go.Proofs.YtblbgjfkbcdlfaaGreatDoor
open Go Iv











def nameOk (s : List UInt8) : Bool := match s with
  | [] => false
  | b :: _ => Nat.ble s.length 16 && lowerB b && s.all nameCh


@[simp] theorem q0_bool (b : Bool) : q0 (.bool b) = some b := rfl
@[simp] theorem q4_int (n : Int) : q4 (.int .i64 n) = some n := rfl
@[simp] theorem q7_tup (a b : Int) : q7 (.tup [.int .i64 a, .int .i64 b]) = some (a, b, ()) := rfl
@[simp] theorem q12_str (s : List UInt8) : q12 (.str s) = some s := rfl
@[simp] theorem q13_int (n : Int) : q13 (.int .u8 n) = some n := rfl

theorem c106 (n : Nat) (b : UInt8) : cl (n + 1) 106 [.int .u8 b.toNat] = some (.bool (lowerB b)) := by
  refine evK_at rfl ((at106 (cl n) _).trans ?_) rfl rfl
  show S106 lpD (cl n) b.toNat = _
  unfold S106 lowerB
  rw [show ((97 : Int)) = ((97 : Nat) : Int) from rfl, show ((122 : Int)) = ((122 : Nat) : Int) from rfl, leZ_nat, leZ_nat]
  cases Nat.ble 97 b.toNat <;> rfl
theorem c107 (n : Nat) (b : UInt8) : cl (n + 1) 107 [.int .u8 b.toNat] = some (.bool (digitB b)) := by
  refine evK_at rfl ((at107 (cl n) _).trans ?_) rfl rfl
  show S107 lpD (cl n) b.toNat = _
  unfold S107 digitB
  rw [show ((48 : Int)) = ((48 : Nat) : Int) from rfl, show ((57 : Int)) = ((57 : Nat) : Int) from rfl, leZ_nat, leZ_nat]
  cases Nat.ble 48 b.toNat <;> rfl



theorem c76 (n : Nat) (s : List UInt8) : cl (n + 2) 76 [.str s] = some (.bool (nameOk s)) := by
  refine evK_at rfl ((at76 (cl (n + 1)) _).trans ?_) rfl rfl
  show S76 lpD (cl (n + 1)) s = _
  unfold S76
  cases s with
  | nil => rfl
  | cons b r =>
    rw [show ltZ ((b :: r).length : Int) 1 = false by rw [ltZ_eq, decide_eq_false_iff_not]; simp only [List.length_cons]; omega]
    simp only [cond_false]
    rw [show ltZ 16 ((b :: r).length : Int) = !(Nat.ble (b :: r).length 16) by
      rw [ltZ_eq]; cases hl : Nat.ble (b :: r).length 16
      · have := Nat.not_le_of_not_ble_eq_true (by rw [hl]; simp); simp; simp at this; omega
      · have := Nat.le_of_ble_eq_true hl; simp; simp at this; omega]
    cases hl : Nat.ble (b :: r).length 16
    · simp only [nameOk, hl, Bool.false_and, Bool.not_false, cond_true]; rfl
    · rw [ixStr_at (b := b) (by omega) rfl]
      simp only [Bool.not_true, cond_false, bd_some_eq, c106, clT_some, q0_bool]
      cases hb : lowerB b
      · simp [nameOk, hb]
      · simp only [Bool.not_true, cond_false, bj_inl]
        have hlen := Nat.le_of_ble_eq_true hl
        simp only [nameOk, hl, hb, Bool.true_and]
        generalize hs : b :: r = s at hlen
        clear hs hl hb
        refine (loop_ind (st := fun i => ((s, (i : Int), ()), ())) (R := fun i => D.bool ((s.drop i).all nameCh)) (n := s.length) (fun i hi => ?_) ?_ 0 (Nat.zero_le _)).trans (by simp)
        · have hg : s[i]? = some s[i] := by simp
          have hd : s.drop i = s[i] :: s.drop (i + 1) := by simp
          have hx := ixStr_at (s := s) (i := (i : Int)) (b := s[i]) (by omega) (by simp)
          have hw : wrapD .i64 ((i : Int) + 1) = ((i + 1 : Nat) : Int) := wrap_i64 (by omega) (by omega)
          have hlt : Nat.blt i s.length = true := by rw [Nat.blt_eq]; exact hi
          simp only [ltZ_nat, hlt, cond_true, hx, bd_some_eq, c106, c107, clT_some, q0_bool, hw, hd, List.all_cons, nameCh]
          cases lowerB s[i] <;> cases digitB s[i] <;> simp only [Bool.not_false, Bool.not_true, cond_true, cond_false, rt_some_eq, Bool.or_false, Bool.or_true, Bool.false_or, Bool.true_and, hx, bd_some_eq]
          · rw [show (45 : Int) = ((45 : Nat) : Int) from rfl, eqZ_nat]
            cases Nat.beq s[i].toNat 45
            · exact .inr rfl
            · exact .inl ⟨rfl, rfl⟩
          all_goals exact .inl ⟨trivial, rfl⟩
        · have hlt : Nat.blt s.length s.length = false := by rw [Bool.eq_false_iff, Ne, Nat.blt_eq]; exact Nat.lt_irrefl _
          show (bif Nat.blt s.length s.length then _ else _) = _
          rw [hlt]
          simp only [cond_false, List.drop_length, List.all_nil]
          rfl

/-! words.Name: over strings.Trim. -/
theorem cells_fit : cellsF 256 (.agg cells) = some cells := by kernel_rfl
theorem setQ_full {α : Type} : ∀ {l vs : List α}, l.length = vs.length → setQ l 0 vs = vs
  | [], [], _ => rfl
  | [], _ :: _, h => by simp at h
  | _ :: _, [], h => by simp at h
  | c :: cs, v :: vs, h => by simp only [setQ]; rw [setQ_full (l := cs) (vs := vs) (by simpa using h)]

theorem c142 (n : Nat) (b : UInt8) : cl (n + 1) 142 [.iptr cells 0, .int .u8 b.toNat] = some (.bool (nameCh b)) := by
  refine evK_at rfl ((at142 (cl n) _).trans ?_) (by kernel_rfl) rfl
  show S142 lpD (cl n) (.iptr cells 0) b.toNat = _
  unfold S142
  have hb : b.toNat < 256 := b.toNat_lt
  have h1 : idxD 256 (.int .u8 (b.toNat : Int)) = some b.toNat := by
    simp only [idxD]; rw [if_pos ⟨by omega, by omega⟩]; simp
  have h2 : cells[b.toNat]? = some (.bool (nameCh b)) := by
    simp [cells, hb]
  simp only [ptF, bd_some_eq, h1, tkT, takeAt, Nat.zero_add, Nat.mul_one, h2, q0_bool]

theorem slStr_tail (b : UInt8) (r : List UInt8) : slStr (b :: r) (some (.int .i64 1)) none = some r := by
  simp only [slStr, bndO, bndD, Option.bind_eq_bind, Option.bind_some]
  rw [if_pos ⟨by omega, by simp only [List.length_cons]; omega⟩]
  simp
theorem slStr_init (s : List UInt8) (b : UInt8) : slStr (s ++ [b]) none (some (.int .i64 (s.length : Int))) = some s := by
  simp only [slStr, bndO, bndD, Option.bind_eq_bind, Option.bind_some]
  rw [if_pos ⟨by omega, by simp only [List.length_append, List.length_cons, List.length_nil]; omega⟩]
  simp

/-- Off the right end, what is in the set. -/
theorem c113 (n : Nat) : ∀ (k : Nat) (s : List UInt8), s.length = k → k ≤ 100 → ∃ t r, s = t ++ r ∧ r.all nameCh = true ∧ cl (n + 2) 113 [.str s, .iptr cells 0] = some (.str t) := by
  suffices h : ∀ (k : Nat) (s : List UInt8), s.length = k → k ≤ 100 → ∃ t r, s = t ++ r ∧ r.all nameCh = true ∧ S113 lpD (cl (n + 1)) s (.iptr cells 0) = some (.str t) by
    intro k s hs hk
    obtain ⟨t, r, h1, h2, h3⟩ := h k s hs hk
    exact ⟨t, r, h1, h2, evK_at rfl ((at113 (cl (n + 1)) _).trans h3) (by kernel_rfl) rfl⟩
  unfold S113
  intro k
  induction k with
  | zero =>
    intro s hs _
    have : s = [] := by simpa using hs
    subst this
    exact ⟨[], [], rfl, rfl, loop_done rfl⟩
  | succ k ih =>
    intro s hs hk
    have hne : s ≠ [] := by intro e; subst e; simp at hs
    obtain ⟨t, b, rfl⟩ : ∃ t b, s = t ++ [b] := ⟨s.dropLast, s.getLast hne, (List.dropLast_concat_getLast hne).symm⟩
    have ht : t.length = k := by simpa using hs
    have hpos : ltZ 0 ((t ++ [b]).length : Int) = true := by rw [ltZ_eq]; simp
    have hw : wrapD .i64 (((t ++ [b]).length : Int) - 1) = (t.length : Int) := by
      rw [show (((t ++ [b]).length : Nat) : Int) - 1 = (t.length : Int) by simp]; exact wrap_i64 (by omega) (by omega)
    have hx : ixStr (t ++ [b]) (.int .i64 (t.length : Int)) = some (b.toNat : Int) := ixStr_at (by omega) (by simp)
    cases hb : nameCh b
    · refine ⟨t ++ [b], [], by simp, rfl, loop_done ?_⟩
      simp only [hpos, cond_true, hw, hx, bd_some_eq, c142, clT_some, q0_bool, hb, Bool.not_false, rt_some_eq]
    · obtain ⟨u, r, h1, h2, h3⟩ := ih t ht (by omega)
      refine ⟨u, r ++ [b], by rw [h1, List.append_assoc], by rw [List.all_append, h2]; simp [hb], ?_⟩
      rw [loop_step]
      · exact h3
      · simp only [hpos, cond_true, hw, hx, bd_some_eq, c142, clT_some, q0_bool, hb, Bool.not_true, cond_false, slStr_init]

theorem c112 (n : Nat) : ∀ (s : List UInt8), s.length ≤ 100 → ∃ t r, s = r ++ t ∧ r.all nameCh = true ∧ (t = [] ∨ t.all nameCh = false) ∧ cl (n + 2) 112 [.str s, .iptr cells 0] = some (.str t) := by
  suffices h : ∀ (s : List UInt8), s.length ≤ 100 → ∃ t r, s = r ++ t ∧ r.all nameCh = true ∧ (t = [] ∨ t.all nameCh = false) ∧ S112 lpD (cl (n + 1)) s (.iptr cells 0) = some (.str t) by
    intro s hs
    obtain ⟨t, r, h1, h2, h2', h3⟩ := h s hs
    exact ⟨t, r, h1, h2, h2', evK_at rfl ((at112 (cl (n + 1)) _).trans h3) (by kernel_rfl) rfl⟩
  unfold S112
  intro s
  induction s with
  | nil => exact fun _ => ⟨[], [], rfl, rfl, .inl rfl, loop_done rfl⟩
  | cons b s ih =>
    intro hs
    simp only [List.length_cons] at hs
    have hpos : ltZ 0 ((b :: s).length : Int) = true := rfl
    have hx : ixStr (b :: s) (.int .i64 0) = some (b.toNat : Int) := ixStr_at (by omega) (by simp)
    cases hb : nameCh b
    · refine ⟨b :: s, [], by simp, rfl, .inr (by simp [hb]), loop_done ?_⟩
      simp only [hpos, cond_true, hx, bd_some_eq, c142, clT_some, q0_bool, hb, Bool.not_false, rt_some_eq]
    · obtain ⟨u, r, h1, h2, h2', h3⟩ := ih (by omega)
      refine ⟨u, b :: r, by rw [h1, List.cons_append], by simp [hb, h2], h2', ?_⟩
      rw [loop_step]
      · exact h3
      · simp only [hpos, cond_true, hx, bd_some_eq, c142, clT_some, q0_bool, hb, Bool.not_true, cond_false, slStr_tail]

theorem c82 (n : Nat) (s : List UInt8) (hs : s.length ≤ 100) : ∃ t, cl (n + 3) 82 [.str s, .str abc] = some (.str t) ∧ (eqS t [] = s.all nameCh) := by
  cases s with
  | nil => exact ⟨[], evK_at rfl (at82 (cl (n + 2)) _) rfl rfl, rfl⟩
  | cons b s =>
    obtain ⟨t, r, h1, h2, h3⟩ := c113 n (b :: s).length (b :: s) rfl hs
    obtain ⟨u, q, h4, h5, h6, h7⟩ := c112 n t (by rw [h1, List.length_append] at hs; omega)
    refine ⟨u, evK_at rfl ((at82 (cl (n + 2)) _).trans ?_) rfl rfl, ?_⟩
    · show S82 lpD (cl (n + 2)) (b :: s) abc = _
      unfold S82
      have e1 : eqS (b :: s) [] = false := rfl
      have e2 : eqS abc [] = false := rfl
      have e3 : eqZ (abc.length : Int) 1 = false := rfl
      have e4 : cl (n + 2) 111 [.str abc] = some (.tup [.agg cells, .bool true]) := evK_kn kn111
      have e5 : q22 (.tup [.agg cells, .bool true]) = some (.agg cells, true, ()) := rfl
      have e6 : inR 0 256 256 = some () := rfl
      simp only [e1, e2, e3, e4, e5, e6, cells_fit, cond_false, cond_true, bj_inl, bd_some_eq, clT_some]
      rw [setQ_full (vs := cells) (by rfl), h3]
      simp only [clT_some, q12_str, bd_some_eq, h7]
    · rw [h1, List.all_append, h2, Bool.and_true, h4, List.all_append, h5, Bool.true_and]
      rcases h6 with rfl | h6
      · rfl
      · rw [h6]
        cases u with
        | nil => cases h6
        | cons => rfl

theorem c71 (n : Nat) (s : List UInt8) : cl (n + 4) 71 [.str s] = some (.bool (nameOk s)) := by
  refine evK_at rfl ((at71 (cl (n + 3)) _).trans ?_) rfl rfl
  show S71 lpD (cl (n + 3)) s = _
  unfold S71
  cases s with
  | nil => rfl
  | cons b r =>
    have e1 : eqS (b :: r) [] = false := rfl
    have hx : ixStr (b :: r) (.int .i64 0) = some (b.toNat : Int) := ixStr_at (by omega) (by simp)
    have hl : ltZ 16 ((b :: r).length : Int) = !(Nat.ble (b :: r).length 16) := ltZ_le 16 _
    have h97 : ltZ (b.toNat : Int) 97 = !(Nat.ble 97 b.toNat) := ltZ_le _ 97
    have h122 : ltZ 122 (b.toNat : Int) = !(Nat.ble b.toNat 122) := ltZ_le 122 _
    simp only [e1, cond_false, hl, hx, bd_some_eq, h97, h122]
    simp only [nameOk, lowerB]
    cases h1 : Nat.ble (b :: r).length 16
    · rfl
    · cases h2 : Nat.ble 97 b.toNat
      · rfl
      · cases h3 : Nat.ble b.toNat 122
        · rfl
        · obtain ⟨t, h4, h5⟩ := c82 n (b :: r) (by have := Nat.le_of_ble_eq_true h1; omega)
          have h4 : cl (n + 3) 82 [.str (b :: r), .str [97, 98, 99, 100, 101, 102, 103, 104, 105, 106, 107, 108, 109, 110, 111, 112, 113, 114, 115, 116, 117, 118, 119, 120, 121, 122, 48, 49, 50, 51, 52, 53, 54, 55, 56, 57, 45]] = some (.str t) := h4
          simp only [Bool.not_true, cond_false, h4, clT_some, q12_str, bd_some_eq, h5, Bool.true_and]

end Go.Proofs.YtblbgjfkbcdlfaaGreatDoor
/- What the functions of this program come to: lists of names, orders. -/
set_option linter.unusedVariables false
set_option linter.unusedSimpArgs false
set_option maxRecDepth 100000
namespace Go.Proofs.YtblbgjfkbcdlfaaGreatDoor
open Go Iv

def e2 (a e : Int) : D := .tup [.int .i64 a, .int .i64 e]
@[simp] theorem q7_e2 (a e : Int) : q7 (e2 a e) = some (a, e, ()) := rfl

theorem dps_e2 (a e : Int) : (e2 a e).dp = true := rfl
theorem scan_dp {p : Nat → Option D} {z : D} (hp : ∀ i d, p i = some d → d.dp = true) (hz : z.dp = true) : ∀ k i, (scan p z k i).dp = true
  | 0, i => hz
  | k + 1, i => by
    simp only [scan]
    cases h : p i with
    | some r => exact hp i r h
    | none => exact scan_dp hp hz k (i + 1)

theorem sl_dps {w : Nat} {rows : List (List D)} {d : D} (h : IsSl w rows d) (hr : ∀ r ∈ rows, D.dps r = true) : d.dp = true := by
  rcases h.2 with ⟨rfl, rfl⟩ | ⟨ex, rfl⟩
  · rfl
  · exact dps_flatten hr
end Go.Proofs.YtblbgjfkbcdlfaaGreatDoor
namespace Iv
open Go Go.Proofs.YtblbgjfkbcdlfaaGreatDoor
theorem Strs.dp {ss : List (List UInt8)} {d : D} (h : Strs ss d) : d.dp = true := sl_dps h fun r hr => by
  simp only [List.mem_map] at hr; obtain ⟨s, _, rfl⟩ := hr; rfl
theorem U8s.dp {us : List Nat} {d : D} (h : U8s us d) : d.dp = true := sl_dps h.1 fun r hr => by
  simp only [List.mem_map] at hr; obtain ⟨s, _, rfl⟩ := hr; rfl
theorem I64s.dp {us : List Int} {d : D} (h : I64s us d) : d.dp = true := sl_dps h fun r hr => by
  simp only [List.mem_map] at hr; obtain ⟨s, _, rfl⟩ := hr; rfl
theorem Strs.fz {ss : List (List UInt8)} {d : D} (h : Strs ss d) : Fz d := ⟨IsSl.notAg h, h.dp⟩
theorem U8s.fz {us : List Nat} {d : D} (h : U8s us d) : Fz d := ⟨IsSl.notAg h.1, h.dp⟩
theorem I64s.fz {us : List Int} {d : D} (h : I64s us d) : Fz d := ⟨IsSl.notAg h, h.dp⟩

end Iv
namespace Go.Proofs.YtblbgjfkbcdlfaaGreatDoor
open Go Iv
theorem c83 (n : Nat) {ss : List (List UInt8)} {d : D} (h : Strs ss d) (hl : ss.length < 9223372036854775807) (s : List UInt8) :
    ∃ i : Int, cl (n + 1) 83 [d, .str s] = some (.int .i64 i) ∧ leZ 0 i = ss.contains s := by
  have key : S83 lpD (cl n) d s = some (scan (fun i => if s = ss.getD i [] then some (.int .i64 (i : Int)) else none) (.int .i64 (-1)) ss.length 0) := by
    unfold S83
    rw [h.len]
    refine loop_scan (st := fun i => ((d, s, (ss.length : Int), (i : Int), ()), ())) (fun i hi _ => ?_) (fun _ => ?_)
    · simp only [ltZ_lt hi, cond_true, h.ix hi, q12_str, bd_some_eq, eqS, List.getD_eq_getElem?_getD, List.getElem?_eq_getElem hi, Option.getD_some]
      by_cases e : s = ss[i]
      · rw [if_pos e]; simp only [e, BEq.rfl, cond_true]; rfl
      · rw [if_neg e, beq_false_of_ne e]; simp only [cond_false, inc_i64 (show i < 9223372036854775807 by omega)]
    · simp only [ltZ_ge (Nat.le_refl _), cond_false]; rfl
  have run : ∀ r, S83 lpD (cl n) d s = some r → r.dp = true → cl (n + 1) 83 [d, .str s] = some r := fun r hr hd => in83 d s h.fz hd hr
  rcases scan_cases (fun i => if s = ss.getD i [] then some (D.int .i64 (i : Int)) else none) (.int .i64 (-1)) ss.length 0 with ⟨h1, h2⟩ | ⟨m, r, h1, h2, h3, h4, h5⟩
  · rw [h2] at key
    refine ⟨-1, run _ key rfl, ?_⟩
    symm
    show ss.contains s = false
    rw [Bool.eq_false_iff, Ne, List.contains_iff_mem]
    intro hm
    obtain ⟨i, hi, he⟩ := List.getElem_of_mem hm
    have := h1 i (by omega) (by omega)
    simp [hi, he] at this
  · rw [h5] at key
    have hm : m < ss.length := by omega
    split at h3
    · rename_i he
      cases h3
      refine ⟨m, run _ key rfl, ?_⟩
      symm
      show ss.contains s = true
      rw [List.contains_iff_mem, he]
      simp only [List.getD_eq_getElem?_getD, List.getElem?_eq_getElem hm, Option.getD_some]
      exact List.getElem_mem hm
    · cases h3

theorem c72 (n : Nat) {ss : List (List UInt8)} {d : D} (h : Strs ss d) (hl : ss.length < 9223372036854775807) (s : List UInt8) : cl (n + 2) 72 [d, .str s] = some (.bool (ss.contains s)) := by
  obtain ⟨i, h1, h2⟩ := c83 n h hl s
  refine in72 d s h.fz rfl ?_
  unfold S72
  simp only [h1, clT_some, q4_int, bd_some_eq, h2]

/-- What is wrong with a name. -/
def namesP (ss : List (List UInt8)) (i : Nat) : Option D :=
  if nameOk (ss.getD i []) then (if (ss.take i).contains (ss.getD i []) then some (e2 i 8) else none) else some (e2 i 6)
def namesD (ss : List (List UInt8)) : D := if 1 ≤ ss.length ∧ ss.length ≤ 8 then scan (namesP ss) (e2 0 0) ss.length 0 else e2 (-1) 3
theorem namesD_dp (ss : List (List UInt8)) : (namesD ss).dp = true := by
  unfold namesD; split
  · exact scan_dp (fun i d h => by
      unfold namesP at h; split at h
      · split at h
        · cases h; rfl
        · cases h
      · cases h; rfl) rfl _ _
  · rfl

theorem getD_lt {α : Type} {l : List α} {i : Nat} (h : i < l.length) (d : α) : l.getD i d = l[i] := by
  simp only [List.getD_eq_getElem?_getD, List.getElem?_eq_getElem h, Option.getD_some]

theorem c44 (n : Nat) {ss : List (List UInt8)} {d : D} (h : Strs ss d) : cl (n + 5) 44 [d] = some (namesD ss) := by
  refine in44 d h.fz (namesD_dp ss) ?_
  unfold S44 namesD
  simp only [h.len]
  rw [show ltZ (ss.length : Int) 1 = !(Nat.ble 1 ss.length) from ltZ_le _ 1, show ltZ 8 (ss.length : Int) = !(Nat.ble ss.length 8) from ltZ_le 8 _]
  by_cases h1 : 1 ≤ ss.length
  · by_cases h8 : ss.length ≤ 8
    · simp only [Nat.ble_eq_true_of_le h1, Nat.ble_eq_true_of_le h8, Bool.not_true, cond_false, bj_inl, h1, h8, and_self, if_true, h.len]
      refine loop_scan (st := fun i => ((d, d, (ss.length : Int), (i : Int), ()), ())) (fun i hi _ => ?_) (fun _ => ?_)
      · obtain ⟨d', hd, hs⟩ := IsSl.head h (i := i) (by simpa using Nat.le_of_lt hi)
        have hs' : Strs (ss.take i) d' := by simpa [Strs, List.map_take] using hs
        simp only [ltZ_lt hi, cond_true, h.ix hi, q12_str, bd_some_eq, c71, clT_some, q0_bool, hd, c72 (n + 2) hs' (by rw [List.length_take]; omega), namesP, getD_lt hi, inc_i64 (show i < 9223372036854775807 by omega)]
        cases nameOk ss[i]
        · rfl
        · cases (ss.take i).contains ss[i] <;> rfl
      · simp only [ltZ_ge (Nat.le_refl _), cond_false]; rfl
    · rw [if_neg (by omega)]
      have : Nat.ble ss.length 8 = false := by rw [← Bool.not_eq_true, Nat.ble_eq]; exact h8
      simp only [Nat.ble_eq_true_of_le h1, this, Bool.not_true, Bool.not_false, cond_false, cond_true, rt_some_eq, bj_inr]; rfl
  · rw [if_neg (by omega)]
    have : Nat.ble 1 ss.length = false := by rw [← Bool.not_eq_true, Nat.ble_eq]; exact h1
    simp only [this, Bool.not_false, cond_true, rt_some_eq, bj_inr]; rfl

theorem c58 (n : Nat) {ss : List (List UInt8)} {d : D} (h : Strs ss d) : cl (n + 3) 58 [d] = some (namesD ss) := by
  refine in58 d h.fz (namesD_dp ss) ?_
  unfold S58 namesD
  simp only [h.len]
  rw [show ltZ (ss.length : Int) 1 = !(Nat.ble 1 ss.length) from ltZ_le _ 1, show ltZ 8 (ss.length : Int) = !(Nat.ble ss.length 8) from ltZ_le 8 _]
  by_cases h1 : 1 ≤ ss.length
  · by_cases h8 : ss.length ≤ 8
    · simp only [Nat.ble_eq_true_of_le h1, Nat.ble_eq_true_of_le h8, Bool.not_true, cond_false, bj_inl, h1, h8, and_self, if_true]
      refine loop_scan (st := fun i => ((d, (i : Int), ()), ())) (fun i hi _ => ?_) (fun _ => ?_)
      · simp only [ltZ_lt hi, cond_true, h.ix hi, h.len, q12_str, bd_some_eq, c76, clT_some, q0_bool, namesP, getD_lt hi]
        cases nameOk ss[i]
        · rfl
        · simp only [Bool.not_true, cond_false, if_true]
          refine (loop_scan (st := fun j => ((d, (i : Int), (j : Int), ()), ())) (p := fun j => if ss.getD j [] = ss[i] then some (Sum.inr (e2 i 8)) else none) (z := Sum.inl ((d, ((i + 1 : Nat) : Int), ()), ())) (n := i) (fun j hj _ => ?_) (fun _ => ?_)).trans ?_
          rotate_left 2
          · rcases scan_cases (fun j => if ss.getD j [] = ss[i] then some (Sum.inr (α := (D × Int × Unit) × Unit) (e2 i 8)) else none) (.inl ((d, ((i + 1 : Nat) : Int), ()), ())) i 0 with ⟨h2, h3⟩ | ⟨m, r, h2, h3, h4, h5, h6⟩
            · rw [h3, show (ss.take i).contains ss[i] = false by
                rw [Bool.eq_false_iff, Ne, List.contains_iff_mem, List.mem_take_iff_getElem]
                rintro ⟨j, hj, he⟩
                have := h2 j (by omega) (by omega)
                rw [getD_lt (by omega), if_pos he] at this
                cases this]
              rfl
            · rw [h6]
              have hm : m < i := by omega
              rw [getD_lt (by omega)] at h4
              split at h4
              · rename_i he
                cases h4
                rw [show (ss.take i).contains ss[i] = true by
                  rw [List.contains_iff_mem, List.mem_take_iff_getElem]
                  exact ⟨m, by omega, he⟩]
                rfl
              · cases h4
          · simp only [ltZ_lt hj, cond_true, h.ix (Nat.lt_trans hj hi), h.ix hi, q12_str, bd_some_eq, eqS, getD_lt (Nat.lt_trans hj hi), inc_i64 (show j < 9223372036854775807 by omega)]
            by_cases e : ss[j] = ss[i]
            · rw [if_pos e]; simp only [e, BEq.rfl, cond_true]; rfl
            · rw [if_neg e, beq_false_of_ne e]; rfl
          · simp only [ltZ_ge (Nat.le_refl _), cond_false, inc_i64 (show i < 9223372036854775807 by omega)]; rfl
      · simp only [h.len, ltZ_ge (Nat.le_refl _), cond_false]; rfl
    · rw [if_neg (by omega)]
      have : Nat.ble ss.length 8 = false := by rw [← Bool.not_eq_true, Nat.ble_eq]; exact h8
      simp only [Nat.ble_eq_true_of_le h1, this, Bool.not_true, Bool.not_false, cond_false, cond_true, rt_some_eq, bj_inr]; rfl
  · rw [if_neg (by omega)]
    have : Nat.ble 1 ss.length = false := by rw [← Bool.not_eq_true, Nat.ble_eq]; exact h1
    simp only [this, Bool.not_false, cond_true, rt_some_eq, bj_inr]; rfl
end Go.Proofs.YtblbgjfkbcdlfaaGreatDoor
/- What the functions of this program come to: orders. -/
set_option linter.unusedVariables false
set_option linter.unusedSimpArgs false
set_option maxRecDepth 100000
namespace Go.Proofs.YtblbgjfkbcdlfaaGreatDoor
open Go Iv

theorem t45 : (List.range 256).all (fun (x : Nat) => match S45 lpD (fun _ _ => none) (x : Nat) with | some (.int .i64 v) => (List.range 9).all (fun (k : Nat) => ltZ (k : Nat) v == !(Nat.blt x (2 ^ k))) | _ => false) = true := by kernel_rfl
theorem c45 (n x : Nat) (hx : x < 256) : ∃ v : Int, cl (n + 1) 45 [.int .u8 (x : Int)] = some (.int .i64 v) ∧ ∀ k : Nat, k ≤ 8 → ltZ (k : Int) v = !(Nat.blt x (2 ^ k)) := by
  have h := List.all_eq_true.1 t45 x (List.mem_range.2 hx)
  split at h
  · rename_i v hv
    refine ⟨v, in45 _ rfl hv, fun k hk => ?_⟩
    have := List.all_eq_true.1 h k (List.mem_range.2 (by omega))
    simpa using this
  · cases h
theorem t105 : (List.range 256).all (fun (x : Nat) => match S105 lpD (fun _ _ => none) (x : Nat) with | some (.int .i64 v) => (List.range 9).all (fun (k : Nat) => Nat.beq k 0 || !(Nat.blt x (2 ^ k)) || ltZ v (k : Nat) == !(Nat.beq x (2 ^ k - 1))) | _ => false) = true := by kernel_rfl
theorem c105 (n x : Nat) (hx : x < 256) : ∃ v : Int, cl (n + 1) 105 [.int .u8 (x : Int)] = some (.int .i64 v) ∧ ∀ k : Nat, 1 ≤ k → k ≤ 8 → x < 2 ^ k → ltZ v (k : Int) = !(Nat.beq x (2 ^ k - 1)) := by
  have h := List.all_eq_true.1 t105 x (List.mem_range.2 hx)
  split at h
  · rename_i v hv
    refine ⟨v, in105 _ rfl hv, fun k h1 hk h2 => ?_⟩
    have := List.all_eq_true.1 h k (List.mem_range.2 (by omega))
    have e1 : Nat.beq k 0 = false := by rw [← Bool.not_eq_true, Nat.beq_eq]; omega
    have e2 : Nat.blt x (2 ^ k) = true := by rw [Nat.blt_eq]; exact h2
    rw [e1, e2] at this
    simpa using this
  · cases h

def z17 : List D := [(.int .i64 0), (.int .u8 0), (.int .u8 0), (.int .u8 0), (.int .u8 0), (.int .u8 0), (.int .u8 0), (.int .u8 0), (.int .u8 0), (.int .u8 0), (.int .u8 0), (.int .u8 0), (.int .u8 0), (.int .u8 0), (.int .u8 0), (.int .u8 0), (.int .u8 0)]
theorem getD_ge {α : Type} {l : List α} {i : Nat} (h : l.length ≤ i) (d : α) : l.getD i d = d := by
  simp only [List.getD_eq_getElem?_getD, List.getElem?_eq_none h, Option.getD_none]

/-- Masks of an order: the labels above; and those below, of so many labels looked at. -/
def uM (us : List Nat) (i : Nat) : Nat := us.getD i 0
def dnM (u : Nat → Nat) (n : Nat) : Nat → Nat → Nat
  | 0, _ => 0
  | i + 1, b => dnM u n i b ||| (if (u i).testBit b && decide (b < n) then 2 ^ i else 0)
theorem dnM_lt {u : Nat → Nat} {n : Nat} : ∀ {i : Nat} (b : Nat), i ≤ 8 → dnM u n i b < 2 ^ i
  | 0, b, _ => by simp [dnM]
  | i + 1, b, h => by
    simp only [dnM]
    refine Nat.or_lt_two_pow ?_ ?_
    · exact Nat.lt_of_lt_of_le (dnM_lt b (by omega)) (Nat.pow_le_pow_right (by omega) (by omega))
    · split
      · exact Nat.pow_lt_pow_right (by omega) (by omega)
      · exact Nat.two_pow_pos _
theorem dnM_u8 {u : Nat → Nat} {n i : Nat} (b : Nat) (h : i ≤ 8) : dnM u n i b < 256 :=
  Nat.lt_of_lt_of_le (dnM_lt b h) (show 2 ^ i ≤ 2 ^ 8 from Nat.pow_le_pow_right (by omega) h)
theorem dnM_bit {u : Nat → Nat} {n : Nat} : ∀ (i b a : Nat), (dnM u n i b).testBit a = (decide (a < i) && ((u a).testBit b && decide (b < n)))
  | 0, b, a => by simp [dnM]
  | i + 1, b, a => by
    simp only [dnM, Nat.testBit_or, dnM_bit i b a]
    by_cases h : (u i).testBit b && decide (b < n)
    · rw [if_pos h, Nat.testBit_two_pow]
      by_cases e : i = a
      · subst e; simp [h]
      · have : decide (a < i + 1) = decide (a < i) := by simp; omega
        simp [e, this]
    · rw [if_neg h, Nat.zero_testBit]
      by_cases e : i = a
      · subst e; simp only [Bool.not_eq_true] at h; simp [h]
      · have : decide (a < i + 1) = decide (a < i) := by simp; omega
        simp [this]

theorem uM_lt {us : List Nat} {d : D} (h : U8s us d) (i : Nat) : uM us i < 256 := by
  unfold uM
  by_cases hi : i < us.length
  · rw [getD_lt hi]; exact h.2 _ (List.getElem_mem hi)
  · rw [getD_ge (by omega)]; omega

@[simp] theorem q14_ord (n : Nat) (f g : Nat → Nat) : q14 (.agg (ord17 n f g)) = some ((n : Int), (f 0 : Int), (f 1 : Int), (f 2 : Int), (f 3 : Int), (f 4 : Int), (f 5 : Int), (f 6 : Int), (f 7 : Int), (g 0 : Int), (g 1 : Int), (g 2 : Int), (g 3 : Int), (g 4 : Int), (g 5 : Int), (g 6 : Int), (g 7 : Int), ()) := rfl
@[simp] theorem q15_row (f : Nat → Nat) : q15 (.agg (row8 f)) = some ((f 0 : Int), (f 1 : Int), (f 2 : Int), (f 3 : Int), (f 4 : Int), (f 5 : Int), (f 6 : Int), (f 7 : Int), ()) := rfl

theorem q19_fz {d : D} (h : Fz d) : q19 d = some d := by
  show (bif isAg d then none else some d) = some d
  rw [h.1]; rfl

theorem c46 (n : Nat) {ss : List (List UInt8)} {us : List Nat} {d e : D} (h : Strs ss d) (hu : U8s us e) (hs : ss.length ≤ 8) (hl : us.length ≤ 8) :
    cl (n + 1) 46 [.iptr [d, e] 0] = some (.agg (ord17 ss.length (uM us) (dnM (uM us) ss.length us.length))) := by
  refine in46 (.iptr [d, e] 0) ⟨rfl, by simp only [D.dp, D.dps, h.dp, hu.dp, Bool.and_self]⟩ ?_ ?_
  · simp only [ord17, D.dp, row8, D.dps, List.cons_append, List.nil_append, Bool.and_self]
  unfold S46
  have k1 : tkT (ρ := D) q19 [d, e] (0 + 0) none = fun K => K d := by funext K; show bd (q19 d) K = _; rw [q19_fz h.fz]; rfl
  have k2 : tkT (ρ := D) q19 [d, e] (0 + 1) none = fun K => K e := by funext K; show bd (q19 e) K = _; rw [q19_fz hu.fz]; rfl
  simp only [ptF, bd_some_eq, k1, k2, h.len, hu.len]
  refine loop_fold (st := fun i => (((), (), e, (us.length : Int), (i : Int), ()), (ord17 ss.length (fun j => if j < i then uM us j else 0) (dnM (uM us) ss.length i), z17, ()))) (n := us.length) (fun i hi => ?_) ?_
  · have i8 : i < 8 := by omega
    have hx : uM us i = us[i] := getD_lt hi 0
    have hup : (upd (fun j => if j < i then uM us j else 0) i us[i]) = fun j => if j < i + 1 then uM us j else 0 := by
      funext j
      simp only [upd]
      by_cases e : j = i
      · subst e; rw [if_pos rfl, if_pos (by omega), hx]
      · rw [if_neg e]
        by_cases e2 : j < i
        · rw [if_pos e2, if_pos (by omega)]
        · rw [if_neg e2, if_neg (by omega)]
    have hn : ∀ {ρ : Type} (f g : Nat → Nat) (K : Int → Option ρ), tkT q4 (ord17 ss.length f g) 0 none K = K (ss.length : Int) := fun f g K => rfl
    have hr1 : ∀ f g : Nat → Nat, inR (1 + i * 1) 1 (ord17 ss.length f g).length = some () := fun f g => by
      show (bif Nat.ble (1 + i * 1 + 1) 17 then some () else none) = _
      rw [Nat.ble_eq_true_of_le (by omega)]; rfl
    simp only [ltZ_lt hi, cond_true, hu.ix hi, q13_int, bd_some_eq, idx8 i8, hr1, ord17_setup _ _ _ _ i i8, hup, hn]
    refine loop_fold (st := fun j => (((), (), (i : Int), ((us[i] : Nat) : Int), e, (us.length : Int), (i : Int), (ss.length : Int), (j : Int), ()), (ord17 ss.length (fun j => if j < i + 1 then uM us j else 0) (fun b => if b < j then dnM (uM us) ss.length (i + 1) b else dnM (uM us) ss.length i b), z17, ()))) (n := ss.length) (fun j hj => ?_) ?_
    · have j8 : j < 8 := by omega
      have x8 : us[i] < 256 := hu.2 _ (List.getElem_mem hi)
      have g8 : dnM (uM us) ss.length i j < 256 := dnM_u8 _ (by omega)
      have hd : ∀ {ρ : Type} (f g : Nat → Nat) (K : Int → Option ρ), tkT q13 (ord17 ss.length f g) (9 + j * 1) none K = K (g j : Int) := fun f g K => by
        simp only [tkT, takeAt, ord17_down _ _ _ j j8, bd_some_eq, q13_int]
      have hr : ∀ f g : Nat → Nat, inR (9 + j * 1) 1 (ord17 ss.length f g).length = some () := fun f g => by
        show (bif Nat.ble (9 + j * 1 + 1) 17 then some () else none) = _
        rw [Nat.ble_eq_true_of_le (by omega)]; rfl
      have b8 : (if us[i].testBit j then 2 ^ i else 0) < 256 := by
        split
        · exact two_pow_lt i8
        · omega
      simp only [ltZ_lt hj, cond_true, idx8 j8, bd_some_eq, hd, shrD_u8 j x8, bit_u8 j x8, bitsh_u8 _ i i8, hr, Nat.lt_irrefl, if_false, orZ_u8 g8 b8, ord17_setdown _ _ _ _ j j8, inc_i64 (show j < 9223372036854775807 by omega)]
      congr 5
      funext b
      simp only [upd]
      by_cases e : b = j
      · subst e
        rw [if_pos rfl]
        simp only [dnM, hx, hj, decide_true, Bool.and_true, Nat.lt_succ_self, if_true]
      · rw [if_neg e]
        by_cases e2 : b < j
        · rw [if_pos e2, if_pos (by omega)]
        · rw [if_neg e2, if_neg (by omega)]
    · simp only [ltZ_ge (Nat.le_refl _), cond_false, inc_i64 (show i < 9223372036854775807 by omega)]
      show some _ = some _
      congr 6
      funext b
      by_cases e2 : b < ss.length
      · rw [if_pos e2]
      · rw [if_neg e2]
        simp [dnM, e2]
  · simp only [ltZ_ge (Nat.le_refl _), cond_false]
    have hup : (fun j => if j < us.length then uM us j else 0) = uM us := by
      funext j
      by_cases e : j < us.length
      · rw [if_pos e]
      · rw [if_neg e]; unfold uM; rw [getD_ge (by omega)]
    rw [hup]
    rfl

/-- The first label that is the bound. -/
def boundD (f : Nat → Nat) (n a b : Nat) : Int := scan (fun c => if (f a &&& f b).testBit c && Nat.beq (f c) (f a &&& f b) then some (c : Int) else none) (-1) n 0
def nearD (f : Nat → Nat) (n a b : Nat) : Int := scan (fun c => if Nat.beq (f c) (f a &&& f b) then some (c : Int) else none) (-1) n 0

theorem c47 (n : Nat) (f : Nat → Nat) (hf : ∀ i, f i < 256) {k a b : Nat} (hk : k ≤ 8) (ha : a < 8) (hb : b < 8) :
    cl (n + 1) 47 [.agg (row8 f), .int .i64 (k : Int), .int .i64 (a : Int), .int .i64 (b : Int)] = some (.int .i64 (boundD f k a b)) := by
  refine in47 _ _ _ _ _ _ _ _ _ _ _ rfl ?_
  unfold S47 boundD
  have hx : ∀ (c : Nat), c < 8 → ∀ {ρ : Type} (K : Int → Option ρ), tkT q13 (row8 f) (0 + c * 1) none K = K (f c : Int) := fun c hc ρ K => by
    simp only [tkT, takeAt, Nat.zero_add, Nat.mul_one, row8_at f c hc, bd_some_eq, q13_int]
  have hab : f a &&& f b < 256 := Nat.lt_of_le_of_lt Nat.and_le_left (hf a)
  have hx' : ∀ (c : Nat), c < 8 → ∀ {ρ : Type} (K : Int → Option ρ), tkT q13 [.int .u8 (f 0 : Int), .int .u8 (f 1 : Int), .int .u8 (f 2 : Int), .int .u8 (f 3 : Int), .int .u8 (f 4 : Int), .int .u8 (f 5 : Int), .int .u8 (f 6 : Int), .int .u8 (f 7 : Int)] (0 + c * 1) none K = K (f c : Int) := hx
  simp only [idx8 ha, idx8 hb, bd_some_eq, hx' _ ha, hx' _ hb, andZ_u8 (hf a) (hf b)]
  rw [← scan_map (D.int .i64)]
  refine loop_scan (st := fun c => (((), ((f a &&& f b : Nat) : Int), (k : Int), (c : Int), ()), (row8 f, ()))) (fun c hc _ => ?_) (fun _ => ?_)
  · simp only [ltZ_lt hc, cond_true, shrD_u8 c hab, bd_some_eq, bit_u8_1 c hab, idx8 (show c < 8 by omega), hx c (by omega), eqZ_nat, inc_i64 (show c < 9223372036854775807 by omega)]
    cases (f a &&& f b).testBit c
    · rfl
    · cases Nat.beq (f c) (f a &&& f b) <;> rfl
  · simp only [ltZ_ge (Nat.le_refl _), cond_false]; rfl

theorem c48 (n : Nat) (f : Nat → Nat) (hf : ∀ i, f i < 256) {k a b : Nat} (hk : k ≤ 8) (ha : a < 8) (hb : b < 8) :
    cl (n + 1) 48 [.agg (row8 f), .int .i64 (k : Int), .int .i64 (a : Int), .int .i64 (b : Int)] = some (.int .i64 (boundD f k a b)) := by
  refine in48 _ _ _ _ _ _ _ _ _ _ _ rfl ?_
  have h := c47 n f hf hk ha hb
  unfold S48 boundD
  have hx : ∀ (c : Nat), c < 8 → ∀ {ρ : Type} (K : Int → Option ρ), tkT q13 (row8 f) (0 + c * 1) none K = K (f c : Int) := fun c hc ρ K => by
    simp only [tkT, takeAt, Nat.zero_add, Nat.mul_one, row8_at f c hc, bd_some_eq, q13_int]
  have hab : f a &&& f b < 256 := Nat.lt_of_le_of_lt Nat.and_le_left (hf a)
  have hx' : ∀ (c : Nat), c < 8 → ∀ {ρ : Type} (K : Int → Option ρ), tkT q13 [.int .u8 (f 0 : Int), .int .u8 (f 1 : Int), .int .u8 (f 2 : Int), .int .u8 (f 3 : Int), .int .u8 (f 4 : Int), .int .u8 (f 5 : Int), .int .u8 (f 6 : Int), .int .u8 (f 7 : Int)] (0 + c * 1) none K = K (f c : Int) := hx
  simp only [idx8 ha, idx8 hb, bd_some_eq, hx' _ ha, hx' _ hb, andZ_u8 (hf a) (hf b)]
  rw [← scan_map (D.int .i64)]
  refine loop_scan (st := fun c => (((), ((f a &&& f b : Nat) : Int), (k : Int), (c : Int), ()), (row8 f, ()))) (fun c hc _ => ?_) (fun _ => ?_)
  · simp only [ltZ_lt hc, cond_true, shrD_u8 c hab, bd_some_eq, bit_u8_1 c hab, idx8 (show c < 8 by omega), hx c (by omega), eqZ_nat, inc_i64 (show c < 9223372036854775807 by omega)]
    cases (f a &&& f b).testBit c
    · rfl
    · cases Nat.beq (f c) (f a &&& f b) <;> rfl
  · simp only [ltZ_ge (Nat.le_refl _), cond_false]; rfl

theorem c61 (n : Nat) {us : List Nat} {e : D} (hu : U8s us e) (hl : us.length ≤ 8) {a b : Nat} (ha : a < us.length) (hb : b < us.length) :
    cl (n + 1) 61 [e, .int .i64 (a : Int), .int .i64 (b : Int)] = some (.int .i64 (nearD (uM us) us.length a b)) := by
  refine in61 _ _ _ hu.fz rfl ?_
  unfold S61 nearD
  have hx : ∀ c (hc : c < us.length), ((us[c] : Nat) : Int) = ((uM us c : Nat) : Int) := fun c hc => by unfold uM; rw [getD_lt hc]
  simp only [hu.ix ha, hu.ix hb, q13_int, bd_some_eq, hx, andZ_u8 (uM_lt hu a) (uM_lt hu b)]
  rw [← scan_map (D.int .i64)]
  refine loop_scan (st := fun c => ((e, ((uM us a &&& uM us b : Nat) : Int), (c : Int), ()), ())) (fun c hc _ => ?_) (fun _ => ?_)
  · simp only [hu.len, ltZ_lt hc, cond_true, hu.ix hc, q13_int, bd_some_eq, hx, eqZ_nat, inc_i64 (show c < 9223372036854775807 by omega)]
    cases Nat.beq (uM us c) (uM us a &&& uM us b) <;> rfl
  · simp only [hu.len, ltZ_ge (Nat.le_refl _), cond_false]; rfl

theorem c37 (n : Nat) {d : D} (hd : Fz d) {us : List Nat} {e : D} (hu : U8s us e) {a : Nat} (ha : a < us.length) (b : Nat) :
    cl (n + 1) 37 [.agg [d, e], .int .i64 (a : Int), .int .i64 (b : Int)] = some (.bool ((uM us a).testBit b)) := by
  refine in37 _ _ _ _ hd hu.fz rfl ?_
  unfold S37
  have h0 : ∀ k : Nat, leZ 0 (k : Int) = true := fun k => rfl
  have hx : ((us[a] : Nat) : Int) = ((uM us a : Nat) : Int) := by unfold uM; rw [getD_lt ha]
  simp only [h0, cond_true, hu.len, ltZ_lt ha, hu.ix ha, q13_int, bd_some_eq, hx, shrD_u8 b (uM_lt hu a), rem_2]
  cases (uM us a).testBit b <;> rfl
end Go.Proofs.YtblbgjfkbcdlfaaGreatDoor
/- What the functions of this program come to: both checks of lattices say the same. -/
set_option linter.unusedVariables false
set_option linter.unusedSimpArgs false
set_option maxRecDepth 100000
namespace Go.Proofs.YtblbgjfkbcdlfaaGreatDoor
open Go Iv

/-! A row of bytes in memory. -/
def rowN (n : Nat) (g : Nat → Nat) : List D := (List.range n).map fun b => D.int .u8 ((g b : Nat) : Int)
theorem rowN_len (n : Nat) (g : Nat → Nat) : (rowN n g).length = n := by simp [rowN]
theorem rowN_at {n : Nat} (g : Nat → Nat) {k : Nat} (h : k < n) : (rowN n g)[k]? = some (.int .u8 ((g k : Nat) : Int)) := by simp [rowN, h]
theorem setQ_one {α : Type} : ∀ (l : List α) (k : Nat) (v : α), setQ l k [v] = l.set k v
  | [], k, v => by simp [setQ]
  | c :: cs, 0, v => by
    have : setQ cs 0 ([] : List α) = cs := by cases cs <;> rfl
    simp [setQ, this]
  | c :: cs, k + 1, v => by simp [setQ, setQ_one cs k v]
theorem rowN_set (n : Nat) (g : Nat → Nat) (k v : Nat) : setQ (rowN n g) k [.int .u8 (v : Int)] = rowN n (upd g k v) := by
  rw [setQ_one]
  apply List.ext_getElem?
  intro i
  rw [List.getElem?_set]
  by_cases h : k = i
  · subst h
    by_cases hk : k < n
    · rw [if_pos rfl, if_pos (by rw [rowN_len]; exact hk), rowN_at _ hk]; simp [upd]
    · rw [if_pos rfl, if_neg (by rw [rowN_len]; exact hk), List.getElem?_eq_none (by rw [rowN_len]; omega)]
  · rw [if_neg h]
    by_cases hi : i < n
    · rw [rowN_at _ hi, rowN_at _ hi]; simp [upd, Ne.symm h]
    · rw [List.getElem?_eq_none (by rw [rowN_len]; omega), List.getElem?_eq_none (by rw [rowN_len]; omega)]
theorem rowN_congr {n : Nat} {f g : Nat → Nat} (h : ∀ k, k < n → f k = g k) : rowN n f = rowN n g := by
  unfold rowN
  exact List.map_congr_left fun k hk => by rw [h k (List.mem_range.1 hk)]
theorem rowN_zero : ∀ n, rep n [D.int .u8 0] = rowN n (fun _ => 0)
  | 0 => rfl
  | n + 1 => by
    rw [show rep (n + 1) [D.int .u8 0] = [D.int .u8 0] ++ rep n [D.int .u8 0] from rfl, rowN_zero n]
    unfold rowN
    rw [List.range_succ_eq_map, List.map_cons, List.map_map]
    rfl
theorem rowN_sl (n : Nat) (g : Nat → Nat) (hg : ∀ b, g b < 256) : U8s ((List.range n).map g) (.sl true n (rowN n g)) := by
  refine ⟨⟨fun r hr => ?_, .inr ⟨true, ?_⟩⟩, fun u hu => ?_⟩
  · simp only [List.mem_map] at hr; obtain ⟨u, _, rfl⟩ := hr; rfl
  · have : ∀ l : List Nat, ((l.map g).map fun (u : Nat) => [D.int .u8 (u : Int)]).flatten = l.map fun b => D.int .u8 ((g b : Nat) : Int) := by
      intro l; induction l with
      | nil => rfl
      | cons a l ih => simp only [List.map_cons, List.flatten_cons, ih]; rfl
    rw [this]; simp [rowN]
  · simp only [List.mem_map] at hu; obtain ⟨b, _, rfl⟩ := hu; exact hg b

theorem c60 (n : Nat) {ss : List (List UInt8)} {us : List Nat} {d e : D} (h : Strs ss d) (hu : U8s us e) (hs : ss.length ≤ 8) (hl : us.length = ss.length) :
    ∃ c, cl (n + 2) 60 [.agg [d, e]] = some c ∧ U8s ((List.range ss.length).map (dnM (uM us) ss.length ss.length)) c := by
  refine ⟨.sl true ss.length (rowN ss.length (dnM (uM us) ss.length ss.length)), ?_, rowN_sl _ _ fun b => dnM_u8 b hs⟩
  refine in60 d e h.fz hu.fz (rowN_sl _ _ fun b => dnM_u8 b hs).dp ?_
  unfold S60
  have hmk : mkN 1 (ss.length : Int) (ss.length : Int) = some (ss.length, ss.length) := by
    simp only [mkN]; rw [if_pos ⟨by omega, by omega, by omega, by omega⟩]; simp
  simp only [h.len, hmk, bd_some_eq, rowN_zero]
  refine loop_fold (st := fun i => (((), (ss.length, ss.length), (i : Int), ()), (rowN ss.length (dnM (uM us) ss.length i), (d, e, ()), ()))) (n := ss.length) (fun i hi => ?_) ?_
  · have i8 : i < 8 := by omega
    simp only [h.len, ltZ_lt hi, cond_true]
    refine loop_fold (st := fun j => (((), (ss.length, ss.length), (i : Int), (j : Int), ()), (rowN ss.length (fun b => if b < j then dnM (uM us) ss.length (i + 1) b else dnM (uM us) ss.length i b), (d, e, ()), ()))) (n := ss.length) (fun j hj => ?_) ?_
    · have hidx : idxD ss.length (.int .i64 (j : Int)) = some j := by simp only [idxD]; rw [if_pos ⟨by omega, by omega⟩]; simp
      have hd : ∀ {ρ : Type} (g : Nat → Nat) (K : Int → Option ρ), tkT q13 (rowN ss.length g) (0 + j * 1) none K = K (g j : Int) := fun g K => by
        simp only [tkT, takeAt, Nat.zero_add, Nat.mul_one, rowN_at _ hj, bd_some_eq, q13_int]
      have hr : inR (0 + j * 1) 1 ss.length = some () := by
        show (bif Nat.ble (0 + j * 1 + 1) ss.length then some () else none) = _
        rw [Nat.ble_eq_true_of_le (by omega)]; rfl
      have g8 : dnM (uM us) ss.length i j < 256 := dnM_u8 _ (by omega)
      have step : (upd (fun b => if b < j then dnM (uM us) ss.length (i + 1) b else dnM (uM us) ss.length i b) j (dnM (uM us) ss.length (i + 1) j)) = fun b => if b < j + 1 then dnM (uM us) ss.length (i + 1) b else dnM (uM us) ss.length i b := by
        funext b
        simp only [upd]
        by_cases e : b = j
        · subst e; rw [if_pos rfl]; simp only [Nat.lt_succ_self, if_true]
        · rw [if_neg e]
          by_cases e2 : b < j
          · rw [if_pos e2, if_pos (by omega)]
          · rw [if_neg e2, if_neg (by omega)]
      simp only [h.len, ltZ_lt hj, cond_true, c37 n h.fz hu (show i < us.length by omega), clT_some, q0_bool, bd_some_eq]
      cases hb : (uM us i).testBit j
      · simp only [cond_false, inc_i64 (show j < 9223372036854775807 by omega)]
        rw [← step]
        congr 5
        funext b
        simp only [upd]
        by_cases e : b = j
        · subst e
          simp [dnM, hb]
        · rw [if_neg e]
      · simp only [cond_true, hidx, bd_some_eq, hd, one_u8 i i8, rowN_len, hr, Nat.lt_irrefl, if_false, orZ_u8 g8 (two_pow_lt i8), inc_i64 (show j < 9223372036854775807 by omega)]
        rw [show (0 + j * 1) = j by omega, rowN_set, ← step]
        congr 5
        refine congrArg _ ?_
        congr 1
        simp [dnM, hb, hj]
    · simp only [h.len, ltZ_ge (Nat.le_refl _), cond_false, inc_i64 (show i < 9223372036854775807 by omega)]
      show some _ = some _
      congr 5
      refine rowN_congr fun b hb => ?_
      rw [if_pos hb]
  · simp only [h.len, ltZ_ge (Nat.le_refl _), cond_false]
    have hbeq : Nat.beq ss.length ss.length = true := Nat.beq_refl _
    have hble : Nat.ble (0 + ss.length * 1) ss.length = true := Nat.ble_eq_true_of_le (by omega)
    simp only [frSl, hbeq, rowN_len, hble, cond_true, List.drop_zero, bd_some_eq, rt_some_eq]
    rw [List.take_of_length_le (by rw [rowN_len]; omega)]
end Go.Proofs.YtblbgjfkbcdlfaaGreatDoor
/- What the functions of this program come to: both checks of lattices say the same. -/
set_option linter.unusedVariables false
set_option linter.unusedSimpArgs false
set_option maxRecDepth 100000
namespace Go.Proofs.YtblbgjfkbcdlfaaGreatDoor
open Go Iv

def allN (n : Nat) (p : Nat → Bool) : Bool := (List.range n).all p
theorem allN_iff {n : Nat} {p : Nat → Bool} : allN n p = true ↔ ∀ i, i < n → p i = true := by
  simp [allN, List.all_eq_true]
theorem scan_all {β : Type} (p : Nat → Bool) (x z : β) (n : Nat) : scan (fun b => bif p b then none else some x) z n 0 = bif allN n p then z else x := by
  rcases scan_cases (fun b => bif p b then none else some x) z n 0 with ⟨h1, h2⟩ | ⟨m, r, h1, h2, h3, h4, h5⟩
  · rw [h2, show allN n p = true from ?_]
    · rfl
    · rw [allN_iff]
      intro i hi
      have := h1 i (by omega) (by omega)
      cases hp : p i
      · simp [hp] at this
      · rfl
  · rw [h5]
    cases hp : p m
    · simp only [hp, cond_false, Option.some.injEq] at h3
      rw [show allN n p = false from ?_]
      · exact h3.symm
      · rw [← Bool.not_eq_true, allN_iff]
        intro h
        rw [h m (by omega)] at hp
        cases hp
    · simp [hp] at h3
theorem scan_last {β : Type} (p : Nat → Bool) (x y : β) (n : Nat) (hn : 1 ≤ n) : scan (fun b => bif p b then (bif Nat.beq b (n - 1) then some x else none) else some y) x n 0 = bif allN n p then x else y := by
  rcases scan_cases (fun b => bif p b then (bif Nat.beq b (n - 1) then some x else none) else some y) x n 0 with ⟨h1, h2⟩ | ⟨m, r, h1, h2, h3, h4, h5⟩
  · rw [h2, show allN n p = true from ?_]
    · rfl
    · rw [allN_iff]
      intro i hi
      have := h1 i (by omega) (by omega)
      cases hp : p i
      · simp [hp] at this
      · rfl
  · rw [h5]
    have hb : ∀ j, j < m → p j = true := fun j hj => by
      have := h4 j (by omega) hj
      cases hp : p j
      · simp [hp] at this
      · rfl
    cases hp : p m
    · simp only [hp, cond_false, Option.some.injEq] at h3
      rw [show allN n p = false from ?_]
      · exact h3.symm
      · rw [← Bool.not_eq_true, allN_iff]
        intro h
        rw [h m (by omega)] at hp
        cases hp
    · simp only [hp, cond_true] at h3
      cases he : Nat.beq m (n - 1)
      · simp [he] at h3
      · simp only [he, cond_true, Option.some.injEq] at h3
        rw [show allN n p = true from ?_]
        · exact h3.symm
        · rw [allN_iff]
          intro i hi
          have := Nat.eq_of_beq_eq_true he
          by_cases e : i = m
          · subst e; exact hp
          · exact hb i (by omega)

def okA (n : Nat) (u : Nat → Nat) (a b : Nat) : Bool := !(u a).testBit b || ((Nat.beq b a || !(u b).testBit a) && Nat.beq ((u b &&& (2 ^ n - 1)) &&& u a) (u b &&& (2 ^ n - 1)))
def ordB (n : Nat) (u : Nat → Nat) (a : Nat) : Bool := Nat.blt (u a) (2 ^ n) && ((u a).testBit a && allN n (okA n u a))
def latB (n : Nat) (u : Nat → Nat) (a : Nat) : Bool := allN n fun b => !(ltZ (nearD u n a b) 0) && !(ltZ (nearD (dnM u n n) n a b) 0)
def latD (n : Nat) (u : Nat → Nat) : D := scan (fun a => bif latB n u a then none else some (e2 a 4)) (e2 0 0) n 0
def ordD (n : Nat) (u : Nat → Nat) : D := scan (fun a => bif ordB n u a then none else some (e2 a 6)) (latD n u) n 0

def namesB (ss : List (List UInt8)) : Bool := decide (1 ≤ ss.length ∧ ss.length ≤ 8) && allN ss.length fun i => (namesP ss i).isNone
theorem namesB_iff {ss : List (List UInt8)} : namesB ss = true ↔ (1 ≤ ss.length ∧ ss.length ≤ 8) ∧ ∀ i, i < ss.length → namesP ss i = none := by
  simp [namesB, allN_iff]
theorem namesD_cases (ss : List (List UInt8)) : (namesB ss = true ∧ namesD ss = e2 0 0) ∨ (namesB ss = false ∧ ∃ a e : Int, namesD ss = e2 a e ∧ eqZ e 0 = false) := by
  unfold namesD
  by_cases h : 1 ≤ ss.length ∧ ss.length ≤ 8
  · rw [if_pos h]
    rcases scan_cases (namesP ss) (e2 0 0) ss.length 0 with ⟨h1, h2⟩ | ⟨m, r, h1, h2, h3, h4, h5⟩
    · exact .inl ⟨namesB_iff.2 ⟨h, fun i hi => h1 i (by omega) (by omega)⟩, h2⟩
    · refine .inr ⟨?_, ?_⟩
      · rw [← Bool.not_eq_true, namesB_iff]
        intro hx
        rw [hx.2 m (by omega)] at h3
        cases h3
      · rw [h5]
        unfold namesP at h3
        split at h3
        · split at h3
          · cases h3; exact ⟨_, _, rfl, rfl⟩
          · cases h3
        · cases h3; exact ⟨_, _, rfl, rfl⟩
  · rw [if_neg h]
    refine .inr ⟨?_, _, _, rfl, rfl⟩
    rw [← Bool.not_eq_true, namesB_iff]
    exact fun hx => h hx.1

/-- What a check of a lattice says. -/
def CHK (ss : List (List UInt8)) (us : List Nat) : D := if namesB ss then (if us.length = ss.length then ordD ss.length (uM us) else e2 (-1) 6) else namesD ss
theorem cond_none {α : Type} {b : Bool} {x : Option α} {r : α} (h : (bif b then none else x) = some r) : b = false ∧ x = some r := by
  cases b
  · exact ⟨rfl, h⟩
  · cases h
theorem latD_dp (n : Nat) (u : Nat → Nat) : (latD n u).dp = true := scan_dp (fun i d h => by obtain ⟨_, h⟩ := cond_none h; cases h; rfl) rfl _ _
theorem ordD_dp (n : Nat) (u : Nat → Nat) : (ordD n u).dp = true := scan_dp (fun i d h => by obtain ⟨_, h⟩ := cond_none h; cases h; rfl) (latD_dp n u) _ _
theorem CHK_dp (ss : List (List UInt8)) (us : List Nat) : (CHK ss us).dp = true := by
  unfold CHK
  split
  · split
    · exact ordD_dp _ _
    · rfl
  · exact namesD_dp ss

theorem shr0 {x : Nat} (n : Nat) : ltZ 0 ((x >>> n : Nat) : Int) = !(Nat.blt x (2 ^ n)) := by
  rw [show (0 : Int) = ((0 : Nat) : Int) from rfl, ltZ_nat, Nat.shiftRight_eq_div_pow, Bool.eq_iff_iff, Nat.blt_eq, Bool.not_eq_true', ← Bool.not_eq_true, Nat.blt_eq, Nat.not_lt, Nat.div_pos_iff]
  have := Nat.two_pow_pos n
  omega

theorem c59 (n : Nat) {ss : List (List UInt8)} {us : List Nat} {d e : D} (h : Strs ss d) (hu : U8s us e) (hs : ss.length ≤ 8) (hl : us.length = ss.length) {a : Nat} (ha : a < ss.length) :
    cl (n + 2) 59 [.agg [d, e], .int .i64 (a : Int)] = some (.bool (ordB ss.length (uM us) a)) := by
  refine in59 d e _ h.fz hu.fz rfl ?_
  unfold S59
  have ha' : a < us.length := by omega
  have hx : ∀ c (hc : c < us.length), ((us[c] : Nat) : Int) = ((uM us c : Nat) : Int) := fun c hc => by unfold uM; rw [getD_lt hc]
  have h63 : ∀ c, uM us c < 9223372036854775808 := fun c => Nat.lt_trans (uM_lt hu c) (by omega)
  have hw : ∀ c, wrapD .i64 ((uM us c : Nat) : Int) = ((uM us c : Nat) : Int) := fun c => wrap_i64 (by omega) (by have := uM_lt hu c; omega)
  simp only [h.len, hu.ix ha', q13_int, bd_some_eq, hx, hw, shrD_i64 _ (h63 a), shr0, c37 n h.fz hu ha', clT_some, q0_bool, ordB]
  cases h1 : Nat.blt (uM us a) (2 ^ ss.length)
  · rfl
  · cases h2 : (uM us a).testBit a
    · rfl
    · simp only [Bool.not_true, cond_false, bj_inl, Bool.true_and]
      obtain ⟨v, hv1, hv2⟩ := all_i64 ss.length (by omega) hs
      refine (loop_scan (st := fun b => (((a : Int), (), (ss.length : Int), ((uM us a : Nat) : Int), (b : Int), ()), ((d, e, ()), ()))) (p := fun b => bif okA ss.length (uM us) a b then none else some (D.bool false)) (z := D.bool true) (n := ss.length) (fun b hb _ => ?_) (fun _ => ?_)).trans ?_
      · have hb' : b < us.length := by omega
        have h64 : uM us b &&& (2 ^ ss.length - 1) < 9223372036854775808 := Nat.lt_of_le_of_lt Nat.and_le_left (h63 b)
        have hall : 2 ^ ss.length - 1 < 9223372036854775808 := by
          have : 2 ^ ss.length ≤ 2 ^ 8 := Nat.pow_le_pow_right (by omega) hs
          omega
        simp only [ltZ_lt hb, cond_true, c37 n h.fz hu ha', c37 n h.fz hu hb', clT_some, q0_bool, bd_some_eq, hu.ix hb', q13_int, hx, hw, hv1, hv2, andZ_i64 (h63 b) hall, andZ_i64 h64 (h63 a), eqZ_nat, inc_i64 (show b < 9223372036854775807 by omega), okA]
        cases (uM us a).testBit b
        · rfl
        · cases Nat.beq b a
          · cases (uM us b).testBit a
            · cases Nat.beq ((uM us b &&& (2 ^ ss.length - 1)) &&& uM us a) (uM us b &&& (2 ^ ss.length - 1)) <;> rfl
            · rfl
          · cases Nat.beq ((uM us b &&& (2 ^ ss.length - 1)) &&& uM us a) (uM us b &&& (2 ^ ss.length - 1)) <;> rfl
      · simp only [ltZ_ge (Nat.le_refl _), cond_false]; rfl
      · rw [scan_all]
        cases allN ss.length (okA ss.length (uM us) a) <;> rfl

theorem nearD_congr {f g : Nat → Nat} {n a b : Nat} (h : ∀ c, c < n → f c = g c) (ha : a < n) (hb : b < n) : nearD f n a b = nearD g n a b := by
  unfold nearD
  refine scan_congr fun c _ hc => ?_
  rw [h a ha, h b hb, h c (by omega)]

theorem c27 (n : Nat) {ss : List (List UInt8)} {us : List Nat} {d e : D} (h : Strs ss d) (hu : U8s us e) : cl (n + 4) 27 [.agg [d, e]] = some (CHK ss us) := by
  refine in27 d e h.fz hu.fz (CHK_dp ss us) ?_
  unfold S27 CHK
  rcases namesD_cases ss with ⟨h1, h2⟩ | ⟨h1, a, er, h2, h3⟩
  · have hn := namesB_iff.1 h1
    simp only [c58 n h, h1, h2, clT_some, q7_e2, bd_some_eq, h.len, hu.len, if_true]
    rw [show eqZ 0 0 = true from rfl, eqZ_nat]
    by_cases hl : us.length = ss.length
    · rw [if_pos hl, show Nat.beq us.length ss.length = true by rw [hl]; exact Nat.beq_refl _]
      simp only [Bool.not_true, cond_false]
      refine (loop_scan (st := fun a => (((), (ss.length : Int), (a : Int), ()), ((d, e, ()), ()))) (p := fun a => bif ordB ss.length (uM us) a then none else some (e2 a 6)) (z := latD ss.length (uM us)) (n := ss.length) (fun a ha _ => ?_) (fun _ => ?_)).trans rfl
      · simp only [ltZ_lt ha, cond_true, c59 (n + 1) h hu hn.1.2 hl ha, clT_some, q0_bool, bd_some_eq, inc_i64 (show a < 9223372036854775807 by omega)]
        cases ordB ss.length (uM us) a <;> rfl
      · obtain ⟨c, hc1, hc2⟩ := c60 (n + 1) h hu hn.1.2 hl
        have hcl : ((List.range ss.length).map (dnM (uM us) ss.length ss.length)).length = ss.length := by simp
        have huc : ∀ i, i < ss.length → uM ((List.range ss.length).map (dnM (uM us) ss.length ss.length)) i = dnM (uM us) ss.length ss.length i := fun i hi => by
          unfold uM; rw [getD_lt (by simpa using hi)]; simp
        simp only [ltZ_ge (Nat.le_refl _), cond_false, hc1, clT_some, q19_fz hc2.fz, bd_some_eq]
        refine congrArg (rt (α := _)) (Eq.trans (loop_scan (st := fun a => (((), (ss.length : Int), c, (a : Int), ()), ((d, e, ()), ()))) (p := fun a => bif latB ss.length (uM us) a then none else some (e2 a 4)) (z := e2 0 0) (n := ss.length) (fun a ha _ => ?_) (fun _ => ?_)) (show _ = some (latD ss.length (uM us)) from rfl))
        · simp only [ltZ_lt ha, cond_true]
          refine (loop_scan (st := fun b => (((), (ss.length : Int), c, (a : Int), (b : Int), ()), ((d, e, ()), ()))) (p := fun b => bif (!(ltZ (nearD (uM us) ss.length a b) 0) && !(ltZ (nearD (dnM (uM us) ss.length ss.length) ss.length a b) 0)) then none else some (Sum.inr (e2 a 4))) (z := Sum.inl (((), (ss.length : Int), c, ((a + 1 : Nat) : Int), ()), ((d, e, ()), ()))) (n := ss.length) (fun b hb _ => ?_) (fun _ => ?_)).trans ?_
          · have q1 := c61 (n + 2) hu (by omega) (show a < us.length by omega) (show b < us.length by omega)
            have q2 := c61 (n + 2) hc2 (by omega) (show a < _ by rw [hcl]; omega) (show b < _ by rw [hcl]; omega)
            rw [hcl, nearD_congr huc ha hb] at q2
            rw [hl] at q1
            simp only [ltZ_lt hb, cond_true, q1, q2, clT_some, q4_int, bd_some_eq, inc_i64 (show b < 9223372036854775807 by omega)]
            cases ltZ (nearD (uM us) ss.length a b) 0
            · cases ltZ (nearD (dnM (uM us) ss.length ss.length) ss.length a b) 0 <;> rfl
            · rfl
          · simp only [ltZ_ge (Nat.le_refl _), cond_false, inc_i64 (show a < 9223372036854775807 by omega)]; rfl
          · rw [scan_all]
            show some (bif latB ss.length (uM us) a then _ else _) = _
            cases latB ss.length (uM us) a <;> rfl
        · simp only [ltZ_ge (Nat.le_refl _), cond_false]; rfl
    · rw [if_neg hl, show Nat.beq us.length ss.length = false by rw [← Bool.not_eq_true, Nat.beq_eq]; exact hl]
      rfl
  · simp only [c58 n h, h1, h2, clT_some, q7_e2, bd_some_eq, h3, Bool.not_false, cond_true, Bool.false_eq_true, if_false]; rfl
end Go.Proofs.YtblbgjfkbcdlfaaGreatDoor
/- What the functions of this program come to: lattice.Check. -/
set_option linter.unusedVariables false
set_option linter.unusedSimpArgs false
set_option maxRecDepth 100000
namespace Go.Proofs.YtblbgjfkbcdlfaaGreatDoor
open Go Iv

theorem bound_near {f : Nat → Nat} {n a b : Nat} (h : ∀ c, c < n → (f c).testBit c = true) : boundD f n a b = nearD f n a b := by
  unfold boundD nearD
  refine scan_congr fun c _ hc => ?_
  cases he : Nat.beq (f c) (f a &&& f b)
  · simp
  · rw [← Nat.eq_of_beq_eq_true he, h c (by omega)]; simp

theorem cond_if {α : Type} (b : Bool) (x y : α) : (if b = true then x else y) = bif b then x else y := by cases b <;> rfl

theorem c19 (n : Nat) {ss : List (List UInt8)} {us : List Nat} {d e : D} (h : Strs ss d) (hu : U8s us e) : cl (n + 6) 19 [.agg [d, e]] = some (CHK ss us) := by
  refine in19 d e h.fz hu.fz (CHK_dp ss us) ?_
  unfold S19 CHK
  rcases namesD_cases ss with ⟨h1, h2⟩ | ⟨h1, a, er, h2, h3⟩
  · have hn := namesB_iff.1 h1
    simp only [c44 n h, h1, h2, clT_some, q7_e2, bd_some_eq, h.len, hu.len, if_true]
    rw [show eqZ 0 0 = true from rfl, eqZ_nat]
    by_cases hl : us.length = ss.length
    · rw [if_pos hl, show Nat.beq us.length ss.length = true by rw [hl]; exact Nat.beq_refl _]
      obtain ⟨v, hv1, hv2⟩ := all_u8 ss.length hn.1.1 hn.1.2
      have hx : ∀ c (hc : c < us.length), ((us[c] : Nat) : Int) = ((uM us c : Nat) : Int) := fun c hc => by unfold uM; rw [getD_lt hc]
      have hall : 2 ^ ss.length - 1 < 256 := by
        have : 2 ^ ss.length ≤ 2 ^ 8 := Nat.pow_le_pow_right (by omega) hn.1.2
        omega
      have hlast : wrapD .i64 ((ss.length : Int) - 1) = ((ss.length - 1 : Nat) : Int) := by
        rw [wrap_i64 (by omega) (by omega)]; omega
      simp only [Bool.not_true, cond_false, hv1, bd_some_eq, hv2]
      refine (loop_scan (st := fun a => (((), (ss.length : Int), ((2 ^ ss.length - 1 : Nat) : Int), e, (us.length : Int), (a : Int), ()), ((d, e, ()), ()))) (p := fun a => bif ordB ss.length (uM us) a then none else some (e2 a 6)) (z := latD ss.length (uM us)) (n := ss.length) (fun a ha _ => ?_) (fun hord => ?_)).trans rfl
      · have ha' : a < us.length := by omega
        obtain ⟨w, hw1, hw2⟩ := c45 (n + 4) (uM us a) (uM_lt hu a)
        have hlt : ltZ (a : Int) (us.length : Int) = true := ltZ_lt ha'
        simp only [hlt, cond_true, hu.ix ha', q13_int, bd_some_eq, hx, hw1, clT_some, q4_int, hw2 _ hn.1.2, shrD_u8 a (uM_lt hu a), bit_u8_0 a (uM_lt hu a), ordB]
        cases Nat.blt (uM us a) (2 ^ ss.length)
        · rfl
        · cases (uM us a).testBit a
          · rfl
          · simp only [Bool.not_true, cond_false, bj_inl, Bool.true_and, hu.len]
            refine (loop_scan (st := fun b => (((), (ss.length : Int), ((2 ^ ss.length - 1 : Nat) : Int), (a : Int), ((uM us a : Nat) : Int), e, (us.length : Int), (a : Int), e, (us.length : Int), (b : Int), ()), ((d, e, ()), ()))) (p := fun b => bif okA ss.length (uM us) a b then (bif Nat.beq b (ss.length - 1) then some (Sum.inl (((), (ss.length : Int), ((2 ^ ss.length - 1 : Nat) : Int), e, (us.length : Int), ((a + 1 : Nat) : Int), ()), ((d, e, ()), ()))) else none) else some (Sum.inr (e2 a 6)))
              (z := Sum.inl (((), (ss.length : Int), ((2 ^ ss.length - 1 : Nat) : Int), e, (us.length : Int), ((a + 1 : Nat) : Int), ()), ((d, e, ()), ()))) (n := ss.length) (fun b hb _ => ?_) (fun _ => ?_)).trans ?_
            · have hb' : b < us.length := by omega
              have hbt : ltZ (b : Int) (us.length : Int) = true := ltZ_lt hb'
              have h8 : uM us b &&& (2 ^ ss.length - 1) < 256 := Nat.lt_of_le_of_lt Nat.and_le_left (uM_lt hu b)
              have hbeq : (uM us b &&& (2 ^ ss.length - 1) &&& uM us a == uM us b &&& (2 ^ ss.length - 1)) = Nat.beq (uM us b &&& (2 ^ ss.length - 1) &&& uM us a) (uM us b &&& (2 ^ ss.length - 1)) := by rw [Bool.eq_iff_iff, beq_iff_eq, Nat.beq_eq]
              simp only [hbt, cond_true, hu.ix hb', q13_int, bd_some_eq, hx, shrD_u8 b (uM_lt hu a), bit_u8_0 b (uM_lt hu a), hlast, eqZ_nat, inc_i64 (show a < 9223372036854775807 by omega), inc_i64 (show b < 9223372036854775807 by omega), shrD_u8 a (uM_lt hu b), bit_u8_1 a (uM_lt hu b), andZ_u8 (uM_lt hu b) hall, andNot_u8 h8 (uM_lt hu a), hbeq, okA]
              cases (uM us a).testBit b
              · cases Nat.beq b (ss.length - 1) <;> rfl
              · cases Nat.beq b a
                · cases (uM us b).testBit a
                  · simp only [Bool.not_false, Bool.not_true, cond_true, cond_false, bj_inl, Bool.false_or, Bool.or_true, Bool.true_and, hlast, eqZ_nat, inc_i64 (show a < 9223372036854775807 by omega), inc_i64 (show b < 9223372036854775807 by omega), andZ_u8 (uM_lt hu b) hall, andNot_u8 h8 (uM_lt hu a), hbeq]
                    cases Nat.beq ((uM us b &&& (2 ^ ss.length - 1)) &&& uM us a) (uM us b &&& (2 ^ ss.length - 1))
                    · rfl
                    · cases Nat.beq b (ss.length - 1) <;> rfl
                  · rfl
                · simp only [Bool.not_false, Bool.not_true, cond_true, cond_false, bj_inl, Bool.false_or, Bool.or_true, Bool.true_or, Bool.true_and, hlast, eqZ_nat, inc_i64 (show a < 9223372036854775807 by omega), inc_i64 (show b < 9223372036854775807 by omega), andZ_u8 (uM_lt hu b) hall, andNot_u8 h8 (uM_lt hu a), hbeq]
                  cases Nat.beq ((uM us b &&& (2 ^ ss.length - 1)) &&& uM us a) (uM us b &&& (2 ^ ss.length - 1))
                  · rfl
                  · cases Nat.beq b (ss.length - 1) <;> rfl
            · have hge : ltZ (ss.length : Int) (us.length : Int) = false := ltZ_ge (by omega)
              simp only [hge, cond_false, inc_i64 (show a < 9223372036854775807 by omega)]; rfl
            · rw [scan_last _ _ _ _ hn.1.1]
              cases allN ss.length (okA ss.length (uM us) a) <;> rfl
      · have hord : ∀ a, a < ss.length → ordB ss.length (uM us) a = true := fun a ha => by
          have := hord a ha
          cases hb : ordB ss.length (uM us) a
          · rw [hb] at this; cases this
          · rfl
        have hself : ∀ a, a < ss.length → (uM us a).testBit a = true := fun a ha => by
          have := hord a ha
          simp only [ordB, Bool.and_eq_true] at this
          exact this.2.1
        have hself' : ∀ a, a < ss.length → (dnM (uM us) ss.length ss.length a).testBit a = true := fun a ha => by
          rw [dnM_bit, hself a ha]; simp [ha]
        have hge : ltZ (ss.length : Int) (us.length : Int) = false := ltZ_ge (by omega)
        have h46 := c46 (n + 4) h hu hn.1.2 (by omega)
        rw [hl] at h46
        simp only [hge, cond_false, h46, clT_some, q14_ord, bd_some_eq]
        refine congrArg (rt (α := _)) (Eq.trans (loop_scan (st := fun a => (((ss.length : Int), (), (ss.length : Int), (a : Int), ()), (ord17 ss.length (uM us) (dnM (uM us) ss.length ss.length), ()))) (p := fun a => bif latB ss.length (uM us) a then none else some (e2 a 4)) (z := e2 0 0) (n := ss.length) (fun a ha _ => ?_) (fun _ => ?_)) (show _ = some (latD ss.length (uM us)) from rfl))
        · simp only [ltZ_lt ha, cond_true]
          refine (loop_scan (st := fun b => (((ss.length : Int), (), (a : Int), (ss.length : Int), (a : Int), (ss.length : Int), (b : Int), ()), (ord17 ss.length (uM us) (dnM (uM us) ss.length ss.length), ()))) (p := fun b => bif (!(ltZ (nearD (uM us) ss.length a b) 0) && !(ltZ (nearD (dnM (uM us) ss.length ss.length) ss.length a b) 0)) then none else some (Sum.inr (e2 a 4))) (z := Sum.inl (((ss.length : Int), (), (ss.length : Int), ((a + 1 : Nat) : Int), ()), (ord17 ss.length (uM us) (dnM (uM us) ss.length ss.length), ()))) (n := ss.length) (fun b hb _ => ?_) (fun _ => ?_)).trans ?_
          · have t1 : ∀ {ρ : Type} (K : _ → Option ρ), tkT q15 (ord17 ss.length (uM us) (dnM (uM us) ss.length ss.length)) 1 (some 8) K = bd (q15 (.agg (row8 (uM us)))) K := fun K => rfl
            have t2 : ∀ {ρ : Type} (K : _ → Option ρ), tkT q15 (ord17 ss.length (uM us) (dnM (uM us) ss.length ss.length)) 9 (some 8) K = bd (q15 (.agg (row8 (dnM (uM us) ss.length ss.length)))) K := fun K => rfl
            have r1 := c47 (n + 4) (uM us) (uM_lt hu) hn.1.2 (show a < 8 by omega) (show b < 8 by omega)
            have r2 := c48 (n + 4) (dnM (uM us) ss.length ss.length) (fun i => dnM_u8 i hn.1.2) hn.1.2 (show a < 8 by omega) (show b < 8 by omega)
            rw [bound_near hself] at r1
            rw [bound_near hself'] at r2
            simp only [row8] at r1 r2
            simp only [ltZ_lt hb, cond_true, t1, t2, q15_row, bd_some_eq, r1, r2, clT_some, q4_int, inc_i64 (show b < 9223372036854775807 by omega)]
            cases ltZ (nearD (uM us) ss.length a b) 0
            · cases ltZ (nearD (dnM (uM us) ss.length ss.length) ss.length a b) 0 <;> rfl
            · rfl
          · simp only [ltZ_ge (Nat.le_refl _), cond_false, inc_i64 (show a < 9223372036854775807 by omega)]; rfl
          · rw [scan_all]
            show some (bif latB ss.length (uM us) a then _ else _) = _
            cases latB ss.length (uM us) a <;> rfl
        · simp only [ltZ_ge (Nat.le_refl _), cond_false]; rfl
    · rw [if_neg hl, show Nat.beq us.length ss.length = false by rw [← Bool.not_eq_true, Nat.beq_eq]; exact hl]
      rfl
  · simp only [c44 n h, h1, h2, clT_some, q7_e2, bd_some_eq, h3, Bool.not_false, cond_true, Bool.false_eq_true, if_false]; rfl
end Go.Proofs.YtblbgjfkbcdlfaaGreatDoor
