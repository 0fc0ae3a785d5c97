/- What the functions of this program come to: which operands primitives fit. Tables by closed evaluation, and one line. -/
import Derived.Test.YtblbgjfkbcdlfaaGreatDoorST
import Derived.Test.YtblbgjfkbcdlfaaGreatDoorSI
import Derived.Test.YtblbgjfkbcdlfaaGreatDoorLA
set_option linter.unusedVariables false
set_option linter.unusedSimpArgs false
set_option maxRecDepth 100000
namespace Go.Proofs.YtblbgjfkbcdlfaaGreatDoor
open Go Iv

def bytesL (s : List Nat) : List UInt8 := s.map UInt8.ofNat
/-- The lines of a primitive. -/
def linesM (p : Nat) : List (List UInt8) :=
  let num : List (List UInt8) := [[105, 48, 105, 110, 105, 110], [105, 110, 105, 48, 105, 110], [105, 110, 105, 110, 105, 110]]
  let alike : List (List UInt8) := [[107, 48, 107, 110, 105, 110], [107, 110, 107, 48, 105, 110], [107, 110, 107, 110, 105, 110]]
  match p with
  | 1 => [[105, 110, 105, 110]]
  | 2 => [[105, 110, 105, 110]]
  | 3 => [[105, 110, 105, 110]]
  | 4 => [[107, 110, 105, 49]]
  | 5 => [[107, 110, 107, 49]]
  | 6 => [[107, 49, 107, 49], [107, 50, 107, 50]]
  | 7 => [[107, 50, 107, 50]]
  | 8 => [[105, 48, 105, 49]]
  | 9 => [[105, 49, 105, 48], [105, 50, 105, 49]]
  | 10 => [[105, 49, 105, 48], [105, 50, 105, 49]]
  | 11 => [[105, 49, 105, 48], [105, 50, 105, 49]]
  | 12 => [[107, 49, 105, 48], [107, 50, 105, 49]]
  | 13 => [[105, 49, 105, 49], [105, 50, 105, 50]]
  | 14 => [[105, 49, 105, 49]]
  | 23 => alike
  | 24 => alike
  | 33 => [[105, 48, 107, 49, 107, 49]]
  | 34 => [[105, 48, 107, 49, 107, 49]]
  | 35 => [[105, 48, 107, 48, 107, 49]]
  | 36 => [[105, 49, 107, 49, 107, 50]]
  | 37 => [[107, 49, 107, 49, 107, 49], [107, 50, 107, 50, 107, 50]]
  | 38 => [[107, 49, 105, 48, 107, 48], [107, 49, 105, 49, 107, 49]]
  | 39 => [[107, 110, 107, 49, 105, 110]]
  | 40 => [[105, 49, 107, 49, 107, 49]]
  | _ => num

def strsEq : List D → List (List UInt8) → Bool
  | [], [] => true
  | .str s :: r, l :: ls => eqS s l && strsEq r ls
  | _, _ => false
theorem strsEq_eq : ∀ {cs : List D} {ls : List (List UInt8)}, strsEq cs ls = true → cs = ls.map .str
  | [], [], _ => rfl
  | [], _ :: _, h => by simp [strsEq] at h
  | .str s :: r, l :: ls, h => by
    simp only [strsEq, Bool.and_eq_true] at h
    have : s = l := by simpa [eqS] using h.1
    rw [this, strsEq_eq h.2]; rfl
  | .str s :: r, [], h => by simp [strsEq] at h
  | .un :: r, l, h => by simp [strsEq] at h
  | .int _ _ :: r, l, h => by simp [strsEq] at h
  | .bool _ :: r, l, h => by simp [strsEq] at h
  | .agg _ :: r, l, h => by simp [strsEq] at h
  | .tup _ :: r, l, h => by simp [strsEq] at h
  | .nils :: r, l, h => by simp [strsEq] at h
  | .nilp :: r, l, h => by simp [strsEq] at h
  | .nilif :: r, l, h => by simp [strsEq] at h
  | .nilfn :: r, l, h => by simp [strsEq] at h
  | .nilm :: r, l, h => by simp [strsEq] at h
  | .iface _ _ :: r, l, h => by simp [strsEq] at h
  | .fn _ _ _ :: r, l, h => by simp [strsEq] at h
  | .sl _ _ _ :: r, l, h => by simp [strsEq] at h
  | .iptr _ _ :: r, l, h => by simp [strsEq] at h
  | .ms _ _ _ _ _ :: r, l, h => by simp [strsEq] at h
  | .gs _ _ _ _ :: r, l, h => by simp [strsEq] at h
  | .ptr _ _ :: r, l, h => by simp [strsEq] at h
  | .it _ :: r, l, h => by simp [strsEq] at h

def i6 (n : Nat) : D := .int .i64 (n : Int)
def chk49 (q : Nat) : Bool := match ev 49 [i6 q] with
  | some (.tup [.agg [.str nm, .sl ex n cs, er, o, t], .int .i64 z]) => eqZ z 0 && (strsEq cs (linesM q) && (Nat.beq n (linesM q).length && ((!isAg er && er.dp) && ((!isAg o && o.dp) && (!isAg t && t.dp)))))
  | _ => false
theorem t49 : (List.range 40).all (fun q => chk49 (q + 1)) = true := by kernel_rfl

theorem okP_i6 {q : Nat} (h1 : 1 ≤ q) (h2 : q ≤ 40) : okP (i6 q) = true := by
  simp only [okP, i6, sameK, leZ_eq, Bool.true_and, Bool.and_eq_true, decide_eq_true_eq]; omega

/-- What 'find' says of a primitive. -/
theorem c49 (n : Nat) {q : Nat} (h1 : 1 ≤ q) (h2 : q ≤ 40) : ∃ nm ls er o t, cl n 49 [.int .i64 (q : Int)] = some (.tup [.agg [.str nm, ls, er, o, t], .int .i64 0]) ∧ Strs (linesM q) ls ∧ Fz er ∧ Fz o ∧ Fz t := by
  have h := List.all_eq_true.1 t49 (q - 1) (List.mem_range.2 (by omega))
  rw [show q - 1 + 1 = q by omega] at h
  unfold chk49 at h
  split at h
  · rename_i nm ex k cs er o t z he
    simp only [Bool.and_eq_true] at h
    obtain ⟨hz, hs, hk, ⟨e1, e2⟩, ⟨o1, o2⟩, t1, t2⟩ := h
    have hz : z = 0 := by rw [eqZ_eq] at hz; simpa using hz
    have hk := Nat.eq_of_beq_eq_true hk
    have hs := strsEq_eq hs
    subst hz hk hs
    refine ⟨nm, _, er, o, t, evK_kn (kn_at (f := 49) ?_ he), ?_, ⟨by simpa using e1, e2⟩, ⟨by simpa using o1, o2⟩, ⟨by simpa using t1, t2⟩⟩
    · show (false || (false || ((true && gP [i6 q]) || _))) = true
      simp only [gP, okP_i6 h1 h2, Bool.true_and, Bool.true_or, Bool.false_or]
    · refine ⟨fun r hr => ?_, .inr ⟨ex, ?_⟩⟩
      · simp only [List.mem_map] at hr; obtain ⟨s, _, rfl⟩ := hr; rfl
      · have : ∀ l : List (List UInt8), (l.map fun s => [D.str s]).flatten = l.map .str := fun l => by
          induction l with
          | nil => rfl
          | cons a l ih => simp only [List.map_cons, List.flatten_cons, ih]; rfl
        rw [this]; simp
  · cases h

/-! One line. -/
structure MS where
  kind : Int
  rank : Int
  f : Bool
  s : Bool
  k : Int
  n : Int

def mres (c : Int) (st : MS) : MS :=
  bif eqZ c 105 then { st with kind := 1 } else bif eqZ c 107 then { st with kind := st.k } else bif eqZ c 110 then { st with rank := st.n }
  else { st with rank := wrapD .i64 (wrapD .i32 (c - 48)) }
def mopd (c kv rv : Int) (st : MS) : MS :=
  bif eqZ c 105 then { st with f := st.f && eqZ kv 1 }
  else bif eqZ c 107 then { st with f := st.f && ((eqZ kv 1 || eqZ kv 2) && (eqZ st.k 0 || eqZ st.k kv)), k := kv }
  else bif eqZ c 110 then { st with s := st.s && (leZ 0 rv && (leZ rv 2 && (ltZ st.n 0 || eqZ st.n rv))), n := rv }
  else { st with s := st.s && eqZ rv (wrapD .i64 (wrapD .i32 (c - 48))) }
def mat (ks rs : List Int) (i : Nat) (c : Int) (st : MS) : MS :=
  bif Nat.beq (i / 2) ks.length then mres c st else mopd c (ks.getD (i / 2) 0) (rs.getD (i / 2) 0) st
def mrun (ks rs : List Int) (line : List UInt8) : Nat → MS
  | 0 => ⟨0, 0, true, true, 0, -1⟩
  | i + 1 => mat ks rs i ((line.getD i 0).toNat : Int) (mrun ks rs line i)
def lineOk (line : List UInt8) : Bool := (List.range line.length).all fun i => eqZ (decR line i) ((line.getD i 0).toNat : Int) && Nat.beq (decW line i) 1

def stM (K R : D) (line : List UInt8) (i : Nat) (m : MS) : (D × D × Int × Int × Bool × Bool × Int × Int × Unit × Unit) × ((List UInt8 × Nat) × Unit) :=
  ((K, R, m.kind, m.rank, m.f, m.s, m.k, m.n, (), ()), ((line, i), ()))

theorem c51 (n : Nat) {ks rs : List Int} {K R : D} (hk : I64s ks K) (hr : I64s rs R) (hl : rs.length = ks.length) {line : List UInt8} (ho : lineOk line = true) (hlen : line.length ≤ 2 * ks.length + 2) (hsm : line.length ≤ 100) :
    cl (n + 1) 51 [.str line, K, R] = some (.tup [.int .i64 (mrun ks rs line line.length).kind, .int .i64 (mrun ks rs line line.length).rank, .bool (mrun ks rs line line.length).f, .bool (mrun ks rs line line.length).s]) := by
  refine in51 line K R hk.fz hr.fz rfl ?_
  unfold S51
  refine loop_fold (st := fun i => stM K R line i (mrun ks rs line i)) (n := line.length) (fun i hi => ?_) ?_
  · have hq : quoD .i64 (i : Int) 2 = some ((i / 2 : Nat) : Int) := by
      simp only [quoD]
      rw [if_neg (by omega), show (2 : Int) = ((2 : Nat) : Int) from rfl, ← Int.ofNat_tdiv, wrap_i64 (by omega) (by omega)]
    have hd := List.all_eq_true.1 ho i (List.mem_range.2 hi)
    simp only [Bool.and_eq_true] at hd
    have hd1 : decR line i = ((line.getD i 0).toNat : Int) := by have := hd.1; rw [eqZ_eq] at this; simpa using this
    have hd2 : decW line i = 1 := Nat.eq_of_beq_eq_true hd.2
    have hb : Nat.blt i line.length = true := by rw [Nat.blt_eq]; exact hi
    simp only [stM, hb, cond_true, hq, bd_some_eq, hk.len, hd1, hd2, eqZ_nat, mrun, mat]
    generalize ((line.getD i 0).toNat : Int) = c
    generalize mrun ks rs line i = m
    cases he : Nat.beq (i / 2) ks.length
    · have hlt : i / 2 < ks.length := by
        have : i / 2 ≠ ks.length := fun e => by rw [e, Nat.beq_refl] at he; cases he
        omega
      have hlt' : i / 2 < rs.length := by omega
      simp only [cond_false, hk.ix hlt, hr.ix hlt', q4_int, bd_some_eq, mopd, getD_lt hlt, getD_lt hlt']
      cases eqZ c 105
      · cases eqZ c 107
        · cases eqZ c 110
          · cases m.s <;> rfl
          · cases m.s
            · rfl
            · cases leZ 0 rs[i / 2]
              · rfl
              · cases leZ rs[i / 2] 2
                · rfl
                · cases ltZ m.n 0 <;> rfl
        · cases m.f
          · rfl
          · cases eqZ ks[i / 2] 1
            · cases eqZ ks[i / 2] 2
              · rfl
              · cases eqZ m.k 0 <;> rfl
            · cases eqZ m.k 0 <;> rfl
      · cases m.f <;> rfl
    · simp only [cond_true, mres]
      cases eqZ c 105
      · cases eqZ c 107
        · cases eqZ c 110 <;> rfl
        · rfl
      · rfl
  · have hb : Nat.blt line.length line.length = false := by rw [← Bool.not_eq_true, Nat.blt_eq]; omega
    simp only [stM, hb, cond_false]; rfl
end Go.Proofs.YtblbgjfkbcdlfaaGreatDoor
/- What the functions of this program come to: both Fits say the same. -/
set_option linter.unusedVariables false
set_option linter.unusedSimpArgs false
set_option maxRecDepth 100000
namespace Go.Proofs.YtblbgjfkbcdlfaaGreatDoor
open Go Iv

def oneOf (p : Nat) (l : List Nat) : Bool := l.any fun x => Nat.beq p x
def kindsB (p : Nat) (k : List Int) : Bool :=
  let a := oneOf p [33, 34, 35, 36, 40] || !(oneOf p [4, 5, 6, 7, 12, 23, 24, 37, 39, 38])
  let b := oneOf p [38] || !(oneOf p [4, 5, 6, 7, 12, 23, 24, 37, 39, 33, 34, 35, 36, 40])
  (!a || eqZ (k.getD 0 0) 1) && ((!(Nat.beq k.length 2) || (!b || eqZ (k.getD 1 0) 1)) && (!(oneOf p [23, 24, 37, 39]) || eqZ (k.getD 0 0) (k.getD 1 0)))
/-- The rank of the result; below 0: ranks do not fit. -/
def rankM (p : Nat) (r : List Int) : Int :=
  let a := r.getD 0 0
  let b := r.getD (r.length - 1) 0
  bif oneOf p [1, 2, 3] then a
  else bif oneOf p [4, 5] then 1
  else bif oneOf p [6, 13] then (bif ltZ 0 a then a else -1)
  else bif oneOf p [7] then (bif eqZ a 2 then 2 else -1)
  else bif oneOf p [8] then (bif eqZ a 0 then 1 else -1)
  else bif oneOf p [9, 10, 11, 12] then (bif ltZ 0 a then a - 1 else -1)
  else bif oneOf p [14] then (bif eqZ a 1 then 1 else -1)
  else bif oneOf p [33, 34] then (bif eqZ a 0 && eqZ b 1 then 1 else -1)
  else bif oneOf p [35] then (bif eqZ a 0 && eqZ b 0 then 1 else -1)
  else bif oneOf p [36] then (bif eqZ a 1 && eqZ b 1 then 2 else -1)
  else bif oneOf p [37] then (bif eqZ a b && ltZ 0 a then a else -1)
  else bif oneOf p [38] then (bif eqZ a 1 && ltZ b 2 then b else -1)
  else bif oneOf p [39] then (bif eqZ b 1 then a else -1)
  else bif oneOf p [40] then (bif eqZ a 1 && eqZ b 1 then 1 else -1)
  else bif eqZ a b then a else bif eqZ a 0 then b else bif eqZ b 0 then a else -1
def kindM (p : Nat) (k : List Int) : Int := bif oneOf p [5, 6, 7, 37, 38] then k.getD 0 0 else bif oneOf p [33, 34, 35, 36, 40] then k.getD 1 0 else 1
def fitM (p : Nat) (ks rs : List Int) : Int × Int × Int :=
  bif !(kindsB p ks) then (0, 0, 21) else bif ltZ (rankM p rs) 0 then (0, 0, 22) else (kindM p ks, rankM p rs, 0)

def lists : Nat → List Int → List (List Int)
  | 0, _ => [[]]
  | n + 1, xs => xs.flatMap fun x => (lists n xs).map fun l => x :: l
def slI (l : List Int) : D := .sl false l.length (l.map (D.int .i64))
def isT (t : Int × Int × Int) : Option D → Bool
  | some (.tup [.int .i64 a, .int .i64 b, .int .i64 c]) => eqZ a t.1 && (eqZ b t.2.1 && eqZ c t.2.2)
  | _ => false
def isB (b : Bool) : Option D → Bool
  | some (.bool c) => b == c
  | _ => false
def e3 (t : Int × Int × Int) : D := .tup [.int .i64 t.1, .int .i64 t.2.1, .int .i64 t.2.2]
theorem isT_eq {t : Int × Int × Int} {o : Option D} (h : isT t o = true) : o = some (e3 t) := by
  unfold isT at h
  split at h
  · simp only [Bool.and_eq_true, eqZ_eq, beq_iff_eq] at h
    obtain ⟨rfl, rfl, rfl⟩ := h; rfl
  · cases h
theorem isB_eq {b : Bool} {o : Option D} (h : isB b o = true) : o = some (.bool b) := by
  unfold isB at h
  split at h
  · simp only [beq_iff_eq] at h; rw [h]
  · cases h

def ar (q : Nat) : Nat := bif Nat.ble q 14 then 1 else 2
def fitq (q : Nat) : Bool := (lists (ar q) [1, 2]).all fun ks => (lists (ar q) [0, 1, 2]).all fun rs =>
   isT (fitM q ks rs) (ev 20 [i6 q, slI ks, slI rs]) && isT (fitM q ks rs) (ev 15 [i6 q, slI ks, slI rs])
def kindq (q : Nat) : Bool := (lists (ar q) [1, 2]).all fun ks => isB (kindsB q ks) (ev 41 [i6 q, slI ks]) && ((linesM q).any (fun l => (mrun ks [] l l.length).f) == kindsB q ks)
theorem tkind : (List.range 40).all (fun q => kindq (q + 1)) = true := by kernel_rfl
theorem fit1 : fitq 1 = true := by kernel_rfl
theorem fit2 : fitq 2 = true := by kernel_rfl
theorem fit3 : fitq 3 = true := by kernel_rfl
theorem fit4 : fitq 4 = true := by kernel_rfl
theorem fit5 : fitq 5 = true := by kernel_rfl
theorem fit6 : fitq 6 = true := by kernel_rfl
theorem fit7 : fitq 7 = true := by kernel_rfl
theorem fit8 : fitq 8 = true := by kernel_rfl
theorem fit9 : fitq 9 = true := by kernel_rfl
theorem fit10 : fitq 10 = true := by kernel_rfl
theorem fit11 : fitq 11 = true := by kernel_rfl
theorem fit12 : fitq 12 = true := by kernel_rfl
theorem fit13 : fitq 13 = true := by kernel_rfl
theorem fit14 : fitq 14 = true := by kernel_rfl
theorem fit15 : fitq 15 = true := by kernel_rfl
theorem fit16 : fitq 16 = true := by kernel_rfl
theorem fit17 : fitq 17 = true := by kernel_rfl
theorem fit18 : fitq 18 = true := by kernel_rfl
theorem fit19 : fitq 19 = true := by kernel_rfl
theorem fit20 : fitq 20 = true := by kernel_rfl
theorem fit21 : fitq 21 = true := by kernel_rfl
theorem fit22 : fitq 22 = true := by kernel_rfl
theorem fit23 : fitq 23 = true := by kernel_rfl
theorem fit24 : fitq 24 = true := by kernel_rfl
theorem fit25 : fitq 25 = true := by kernel_rfl
theorem fit26 : fitq 26 = true := by kernel_rfl
theorem fit27 : fitq 27 = true := by kernel_rfl
theorem fit28 : fitq 28 = true := by kernel_rfl
theorem fit29 : fitq 29 = true := by kernel_rfl
theorem fit30 : fitq 30 = true := by kernel_rfl
theorem fit31 : fitq 31 = true := by kernel_rfl
theorem fit32 : fitq 32 = true := by kernel_rfl
theorem fit33 : fitq 33 = true := by kernel_rfl
theorem fit34 : fitq 34 = true := by kernel_rfl
theorem fit35 : fitq 35 = true := by kernel_rfl
theorem fit36 : fitq 36 = true := by kernel_rfl
theorem fit37 : fitq 37 = true := by kernel_rfl
theorem fit38 : fitq 38 = true := by kernel_rfl
theorem fit39 : fitq 39 = true := by kernel_rfl
theorem fit40 : fitq 40 = true := by kernel_rfl
theorem tfit : ∀ q, 1 ≤ q → q ≤ 40 → fitq q = true
  | 1, _, _ => fit1
  | 2, _, _ => fit2
  | 3, _, _ => fit3
  | 4, _, _ => fit4
  | 5, _, _ => fit5
  | 6, _, _ => fit6
  | 7, _, _ => fit7
  | 8, _, _ => fit8
  | 9, _, _ => fit9
  | 10, _, _ => fit10
  | 11, _, _ => fit11
  | 12, _, _ => fit12
  | 13, _, _ => fit13
  | 14, _, _ => fit14
  | 15, _, _ => fit15
  | 16, _, _ => fit16
  | 17, _, _ => fit17
  | 18, _, _ => fit18
  | 19, _, _ => fit19
  | 20, _, _ => fit20
  | 21, _, _ => fit21
  | 22, _, _ => fit22
  | 23, _, _ => fit23
  | 24, _, _ => fit24
  | 25, _, _ => fit25
  | 26, _, _ => fit26
  | 27, _, _ => fit27
  | 28, _, _ => fit28
  | 29, _, _ => fit29
  | 30, _, _ => fit30
  | 31, _, _ => fit31
  | 32, _, _ => fit32
  | 33, _, _ => fit33
  | 34, _, _ => fit34
  | 35, _, _ => fit35
  | 36, _, _ => fit36
  | 37, _, _ => fit37
  | 38, _, _ => fit38
  | 39, _, _ => fit39
  | 40, _, _ => fit40
  | 0, h, _ => by omega
  | q + 41, _, h => by omega
end Go.Proofs.YtblbgjfkbcdlfaaGreatDoor
