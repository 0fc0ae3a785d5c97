/- What a call is handed, read as data: values of the layer. Conditions: none. -/
import Derived.Test.YtblbgjfkbcdlfaaGreatDoorKI
import Derived.ChangeArms
import Derived.OpenShut
import Derived.ReadAgain
import Derived.ChangeCalls
import Derived.RowKit
import Derived.WalkKit
import Derived.ProofKit
set_option linter.unusedVariables false
set_option linter.unusedSimpArgs false
namespace Iv
open Go

inductive TY where
  | bool
  | int (k : IntKind)
  | str
  | sl (l : List TY)

/-- The cells of a struct's fields, one behind the other. -/
def tyFs (P : Program) (g : TypeId → Option (List TY)) : List Field → Nat → Option (List TY)
  | [], _ => some []
  | f :: r, off => if f.offset = off then
      (g f.type).bind fun l => if l.length = P.cellsOf f.type then (tyFs P g r (off + l.length)).map (l ++ ·) else none
    else none

def tyOf (P : Program) : Nat → TypeId → Option (List TY)
  | 0, _ => none
  | n + 1, t => match P.underlying t with
    | some .bool => some [.bool]
    | some (.int k) => some [.int k]
    | some .string => some [.str]
    | some (.slice e) => (tyOf P n e).bind fun l => if l.length = P.cellsOf e ∧ 0 < l.length then some [.sl l] else none
    | some (.struct fs) => (tyFs P (tyOf P n) fs.toList 0).bind fun l => if l.length = P.cellsOf t then some l else none
    | some (.array m e) => (tyOf P n e).bind fun l => if l.length = P.cellsOf e ∧ m * l.length = P.cellsOf t then some (List.replicate m l).flatten else none
    | _ => none

mutual
def TY.ok : TY → D → Prop
  | .bool, d => ∃ b, d = .bool b
  | .int k, d => ∃ n, d = .int k n ∧ k.min ≤ n ∧ n ≤ k.max
  | .str, d => ∃ s, d = .str s ∧ s.length ≤ maxLen
  | .sl l, d => d = .nils ∨ ∃ rows : List (List D), d = .sl false rows.length rows.flatten ∧ rows.length ≤ maxLen ∧ ∀ r ∈ rows, TY.oks l r
def TY.oks : List TY → List D → Prop
  | [], ds => ds = []
  | t :: ts, ds => ∃ d r, ds = d :: r ∧ TY.ok t d ∧ TY.oks ts r
end

theorem TY.oks_length : ∀ {l : List TY} {ds : List D}, TY.oks l ds → ds.length = l.length
  | [], ds, h => by simp only [TY.oks] at h; simp [h]
  | t :: ts, ds, h => by
    simp only [TY.oks] at h
    obtain ⟨d, r, rfl, _, h⟩ := h
    simp [TY.oks_length h]

theorem TY.oks_append : ∀ {l l' : List TY} {ds ds' : List D}, TY.oks l ds → TY.oks l' ds' → TY.oks (l ++ l') (ds ++ ds')
  | [], l', ds, ds', h, h' => by simp only [TY.oks] at h; simpa [h] using h'
  | t :: ts, l', ds, ds', h, h' => by
    simp only [TY.oks] at h
    obtain ⟨d, r, rfl, hd, h⟩ := h
    simp only [List.cons_append, TY.oks]
    exact ⟨d, _, rfl, hd, TY.oks_append h h'⟩

def NoM : Nat → Prop := fun _ => False

section
variable {H : Type} {enc : TypeId × Value → H} {P : Program} {w : World} {base : Nat} {spare : Nat → Bool} {held : Bool}

theorem VRels.nth {M : Nat → Prop} {μ : Mu} : ∀ {ds : List D} {vs : List Value} (i : Nat) (d : D), VRels M w μ ds vs → ds[i]? = some d → ∃ v, vs[i]? = some v ∧ VRel M w μ d v
  | [], vs, i, d, h, hd => by simp at hd
  | e :: ds, vs, i, d, h, hd => by
    simp only [VRels] at h
    obtain ⟨v, r, rfl, hv, h⟩ := h
    cases i with
    | zero => simp at hd; subst hd; exact ⟨v, rfl, hv⟩
    | succ i => simpa using VRels.nth i d h (by simpa using hd)

theorem dps_append : ∀ {a b : List D}, D.dps a = true → D.dps b = true → D.dps (a ++ b) = true
  | [], b, _, h => h
  | d :: a, b, h, h' => by
    simp only [D.dps, List.cons_append, Bool.and_eq_true] at h ⊢
    exact ⟨h.1, dps_append h.2 h'⟩

mutual
/-- What a datum is to the layer. -/
def dOf {H : Type} : DataW H → List D
  | .lit (.bool b) => [.bool b]
  | .lit (.int k n) => [.int k n]
  | .lit (.string s) => [.str s]
  | .slice xs _ => [.sl false xs.length (dOfs xs)]
  | .agg xs => dOfs xs
  | _ => [.nils]
def dOfs {H : Type} : List (DataW H) → List D
  | [] => []
  | x :: r => dOf x ++ dOfs r
end

/-- A run of cells that reads as these types. -/
def Reads (w : World) (l : List TY) (cs : List Value) (ds : List D) : Prop := VRels NoM w mu0 ds cs ∧ D.dps ds = true ∧ TY.oks l ds

theorem Reads.append {l l' : List TY} {cs cs' : List Value} {ds ds' : List D} (h : Reads w l cs ds) (h' : Reads w l' cs' ds') : Reads w (l ++ l') (cs ++ cs') (ds ++ ds') :=
  ⟨VRels.append h.1 h'.1, dps_append h.2.1 h'.2.1, TY.oks_append h.2.2 h'.2.2⟩

theorem Reads.nil : Reads w [] [] [] := ⟨by simp [VRels], rfl, by simp [TY.oks]⟩

theorem reads_fs {g : TypeId → Option (List TY)} {cs : List Value} : ∀ (fs : List Field) (xs : List (DataW H × List MemPlace)) (off : Nat) (L : List TY), tyFs P g fs off = some L → xs.length = fs.length →
    (∀ (i : Nat) f y, fs[i]? = some f → xs[i]? = some y → ∀ l, g f.type = some l → Reads w l ((cs.drop f.offset).take (P.cellsOf f.type)) (dOf y.1)) → Reads w L ((cs.drop off).take L.length) (dOfs (xs.map (·.1)))
  | [], xs, off, L, h, hl, hh => by
    simp only [tyFs, Option.some.injEq] at h
    subst h
    obtain rfl : xs = [] := List.eq_nil_of_length_eq_zero hl
    simpa [dOfs] using Reads.nil
  | f :: r, [], off, L, h, hl, hh => by simp at hl
  | f :: r, x :: xs, off, L, h, hlx, hh => by
    simp only [tyFs] at h
    split at h
    · rename_i ho
      simp only [Option.bind_eq_some_iff] at h
      obtain ⟨l, hl, h⟩ := h
      split at h
      · rename_i hc
        simp only [Option.map_eq_some_iff] at h
        obtain ⟨L', h', rfl⟩ := h
        have h1 := hh 0 f x rfl rfl l hl
        have h2 := reads_fs r xs _ L' h' (by simpa using hlx) (fun i f y hf hy => hh (i + 1) f y (by simpa using hf) (by simpa using hy))
        rw [← hc, ho] at h1
        have := h1.append h2
        rw [List.length_append, List.take_add, List.drop_drop]
        simpa [dOfs] using this
      · cases h
    · cases h

theorem reads_rep {l : List TY} {cs : List Value} : ∀ (m off : Nat) (xs : List (DataW H × List MemPlace)), xs.length = m → (∀ (i : Nat) y, xs[i]? = some y → Reads w l ((cs.drop (off + i * l.length)).take l.length) (dOf y.1)) →
    Reads w (List.replicate m l).flatten ((cs.drop off).take (m * l.length)) (dOfs (xs.map (·.1)))
  | 0, off, xs, hl, hh => by
    obtain rfl : xs = [] := List.eq_nil_of_length_eq_zero hl
    simpa [dOfs] using Reads.nil
  | m + 1, off, [], hl, hh => by simp at hl
  | m + 1, off, x :: xs, hl, hh => by
    have h1 := hh 0 x rfl
    have h2 := reads_rep (l := l) (cs := cs) m (off + l.length) xs (by simpa using hl) (fun i y hi => by
      have := hh (i + 1) y (by simpa using hi)
      rwa [Nat.add_mul, Nat.one_mul, Nat.add_comm (i * l.length), ← Nat.add_assoc] at this)
    rw [Nat.zero_mul, Nat.add_zero] at h1
    have := h1.append h2
    rw [List.replicate_succ, List.flatten_cons, Nat.add_mul, Nat.one_mul, Nat.add_comm (m * l.length), List.take_add, List.drop_drop]
    simpa [dOfs] using this

theorem dOfs_rows : ∀ (xs : List (DataW H × List MemPlace)), dOfs (xs.map (·.1)) = (xs.map fun y => dOf y.1).flatten
  | [] => rfl
  | x :: xs => by simp [dOfs, dOfs_rows xs]

theorem CRel.append {M : Nat → Prop} {b : Nat} : ∀ {ds ds' : List D} {o : Nat}, CRel M w b o ds → CRel M w b (o + ds.length) ds' → CRel M w b o (ds ++ ds')
  | [], ds', o, h, h' => by simpa using h'
  | d :: ds, ds', o, h, h' => by
    simp only [CRel, List.cons_append] at h ⊢
    refine ⟨h.1, CRel.append h.2 ?_⟩
    rwa [List.length_cons, Nat.add_comm ds.length, ← Nat.add_assoc] at h'

theorem CRel.rows {M : Nat → Prop} {b c : Nat} : ∀ {rows : List (List D)} {o : Nat}, (∀ (i : Nat) (r : List D), rows[i]? = some r → r.length = c ∧ CRel M w b (o + i * c) r) → CRel M w b o rows.flatten
  | [], o, h => by simp [CRel]
  | r :: rows, o, h => by
    rw [List.flatten_cons]
    obtain ⟨h1, h2⟩ := h 0 r rfl
    rw [Nat.zero_mul, Nat.add_zero] at h2
    refine CRel.append h2 (CRel.rows (c := c) fun i r' hr => ?_)
    obtain ⟨h3, h4⟩ := h (i + 1) r' (by simpa using hr)
    rw [h1]
    rw [Nat.add_mul, Nat.one_mul, Nat.add_comm (i * c), ← Nat.add_assoc] at h4
    exact ⟨h3, h4⟩

theorem rows_of {α : Type} {Q : Nat → α → Prop} : ∀ n, (∀ i, i < n → ∃ r, Q i r) → ∃ rows : List α, rows.length = n ∧ ∀ i r, rows[i]? = some r → Q i r
  | 0, _ => ⟨[], rfl, fun i r h => by simp at h⟩
  | n + 1, h => by
    obtain ⟨rows, h1, h2⟩ := rows_of n (fun i hi => h i (by omega))
    obtain ⟨r, hr⟩ := h n (by omega)
    refine ⟨rows ++ [r], by simp [h1], fun i r' hi => ?_⟩
    rw [List.getElem?_append] at hi
    split at hi
    · exact h2 i r' hi
    · rename_i hlt
      have : i - rows.length = 0 := by
        rcases Nat.eq_zero_or_pos (i - rows.length) with e | e
        · exact e
        · rw [List.getElem?_eq_none (by simp; omega)] at hi; cases hi
      rw [this] at hi
      simp at hi
      subst hi
      obtain rfl : i = n := by omega
      exact hr

theorem dps_flatten : ∀ {rows : List (List D)}, (∀ r ∈ rows, D.dps r = true) → D.dps rows.flatten = true
  | [], _ => rfl
  | r :: rows, h => by
    rw [List.flatten_cons]
    exact dps_append (h r (by simp)) (dps_flatten fun r hr => h r (by simp [hr]))

theorem cell_spot {a : Addr} {v : Value} (h : w.cell? a = some v) : a.spot = none ∧ a.block < w.heap.size := by
  unfold World.cell? at h
  split at h
  · rename_i c _ _ he
    by_cases hs : a.spot.isSome = true
    · simp [hs] at h
    · exact ⟨by simpa using hs, (Array.getElem?_eq_some_iff.1 he).1⟩
  · cases h

theorem cells_crel {b o n : Nat} {vs : List Value} {ds : List D} (h : w.cells? base ⟨b, o, none⟩ n = some vs) (hv : VRels NoM w mu0 ds vs) : CRel NoM w b o ds := by
  unfold World.cells? at h
  split at h
  · refine CRel.mk fun i d hd => ?_
    obtain ⟨v, h1, h2⟩ := VRels.nth i d hv hd
    have hn : i < n := by
      have := mapM_some_length h
      have := (List.getElem?_eq_some_iff.1 h1).1
      simp_all
    have h3 := mapM_some_get h i i (by simp [hn])
    rw [h1, Addr.add_lit] at h3
    exact ⟨v, h3, h2⟩
  · cases h

theorem cells_spot {a : Addr} {n : Nat} {vs : List Value} (h : w.cells? base a n = some vs) (hn : 0 < n) : a.spot = none ∧ a.block < w.heap.size := by
  unfold World.cells? at h
  split at h
  · have h3 := mapM_some_get h 0 0 (by simp [hn])
    obtain ⟨v, hv⟩ : ∃ v, vs[0]? = some v := by
      have := mapM_some_length h
      exact ⟨vs[0]'(by simp_all), by simp⟩
    rw [hv] at h3
    exact cell_spot h3
  · cases h

theorem cells_length {a : Addr} {n : Nat} {vs : List Value} (h : w.cells? base a n = some vs) : vs.length = n := by
  unfold World.cells? at h
  split at h
  · simpa using mapM_some_length h
  · cases h

/-- What reads as data of a type that the layer knows, is a value of the layer. -/
theorem read_in : ∀ (m fuel : Nat) (t : TypeId) (l : List TY) (cs : List Value) (x : DataW H × List MemPlace), DataW.trod enc P w base spare held fuel t cs = some x → tyOf P m t = some l → Reads w l cs (dOf x.1)
  | 0, fuel, t, l, cs, x, h, ht => by simp [tyOf] at ht
  | m + 1, fuel, t, l, cs, x, h, ht => by
    unfold tyOf at ht
    split at ht
    · rename_i hu
      cases ht
      obtain ⟨b, rfl, rfl⟩ := DataW.trod_bool hu h
      exact ⟨by simp [dOf, VRels, VRel], rfl, by simp [dOf, TY.oks, TY.ok]⟩
    · rename_i k hu
      cases ht
      obtain ⟨n, rfl, rfl, hw⟩ := DataW.trod_int hu h
      simp only [Lit.wf, Bool.and_eq_true, decide_eq_true_eq] at hw
      exact ⟨by simp [dOf, VRels, VRel], rfl, by simp [dOf, TY.oks, TY.ok, hw]⟩
    · rename_i hu
      cases ht
      obtain ⟨s, rfl, rfl, hs⟩ := DataW.trod_string hu h
      exact ⟨by simp [dOf, VRels, VRel], rfl, by simpa [dOf, TY.oks, TY.ok] using hs⟩
    · rename_i e hu
      simp only [Option.bind_eq_some_iff] at ht
      obtain ⟨l', hl', ht⟩ := ht
      split at ht
      · rename_i hc
        cases ht
        rcases DataW.trod_slice hu h with ⟨rfl, rfl⟩ | ⟨a, len, cap, elems, rest, n, rfl, rfl, rfl, hb, hlc, hcm, hel, hi, _⟩
        · exact ⟨by simp [dOf, VRels, VRel], rfl, by simp [dOf, TY.oks, TY.ok]⟩
        · rcases Nat.eq_zero_or_pos len with e0 | e0
          · subst e0
            obtain rfl : elems = [] := List.eq_nil_of_length_eq_zero hel
            refine ⟨?_, rfl, ?_⟩
            · simp only [dOf, List.map_nil, dOfs, VRels, VRel]
              exact ⟨_, _, rfl, ⟨some a, cap, rfl, hlc, by simp, .inl rfl⟩, rfl⟩
            · simp only [dOf, TY.oks, TY.ok]
              exact ⟨_, _, rfl, .inr ⟨[], rfl, by simp, by simp⟩, rfl⟩
          · have hsp : a.spot = none ∧ a.block < w.heap.size := by
              have h1 := hi 0 e0
              obtain ⟨y, hy⟩ : ∃ y, elems[0]? = some y := ⟨elems[0]'(by omega), by simp⟩
              rw [hy, Option.bind_eq_some_iff] at h1
              obtain ⟨vs, hv, h1⟩ := h1
              rw [Nat.zero_mul] at hv
              exact cells_spot (a := a.add 0) hv (by omega)
            obtain ⟨ab, ao, asp⟩ := a
            simp only at hsp
            obtain ⟨rfl, hab⟩ := hsp
            have hr2 : ∀ (i : Nat) r, (elems.map fun y => dOf y.1)[i]? = some r → TY.oks l' r ∧ D.dps r = true ∧ CRel NoM w ab (ao + i * P.cellsOf e) r := fun i r hr => by
              rw [List.getElem?_map, Option.map_eq_some_iff] at hr
              obtain ⟨y, hy, rfl⟩ := hr
              have h1 := hi i (by rw [← hel]; exact (List.getElem?_eq_some_iff.1 hy).1)
              rw [hy, Option.bind_eq_some_iff] at h1
              obtain ⟨vs, hv, h1⟩ := h1
              obtain ⟨hd1, hd2, hd3⟩ := read_in m n e l' vs y h1 hl'
              rw [Addr.add_lit] at hv
              exact ⟨hd3, hd2, cells_crel hv hd1⟩
            simp only [dOf, dOfs_rows, List.length_map]
            refine ⟨?_, ?_, ?_⟩
            · simp only [VRels, VRel]
              refine ⟨_, _, rfl, ⟨_, cap, by rw [hel], by omega, by simp, .inr ⟨ab, ao, rfl, id, hab, CRel.rows (c := P.cellsOf e) fun i r hir => ?_⟩⟩, rfl⟩
              obtain ⟨h1, _, h5⟩ := hr2 i r hir
              exact ⟨by rw [TY.oks_length h1]; exact hc.1, h5⟩
            · simp only [D.dps, D.dp, Bool.and_true]
              refine dps_flatten fun r hr => ?_
              obtain ⟨i, hi⟩ := List.mem_iff_getElem?.1 hr
              exact (hr2 i r hi).2.1
            · simp only [TY.oks, TY.ok]
              refine ⟨_, _, rfl, .inr ⟨elems.map fun y => dOf y.1, by simp, by simp; omega, fun r hr => ?_⟩, rfl⟩
              obtain ⟨i, hi⟩ := List.mem_iff_getElem?.1 hr
              exact (hr2 i r hi).1
      · cases ht
    · rename_i fs hu
      simp only [Option.bind_eq_some_iff] at ht
      obtain ⟨L, hL, ht⟩ := ht
      split at ht
      · rename_i hc
        cases ht
        obtain ⟨xs, n, rfl, rfl, hlen, hxl, hf⟩ := DataW.trod_struct hu h
        have := reads_fs (w := w) (P := P) (g := tyOf P m) (cs := cs) fs.toList xs 0 l hL (by simpa using hxl) (fun i f y hfm hy l' hl' => by
          have h1 := hf i f (by simpa using hfm)
          rw [hy] at h1
          exact read_in m n f.type l' _ y h1 hl')
        rw [List.drop_zero, List.take_of_length_le (by omega)] at this
        simpa [dOf] using this
      · cases ht
    · rename_i k e hu
      simp only [Option.bind_eq_some_iff] at ht
      obtain ⟨l', hl', ht⟩ := ht
      split at ht
      · rename_i hc
        cases ht
        obtain ⟨xs, n, rfl, rfl, hlen, hxl, hf⟩ := DataW.trod_array hu h
        have := reads_rep (w := w) (l := l') (cs := cs) k 0 xs hxl (fun i y hy => by
          have h1 := hf i (by have := (List.getElem?_eq_some_iff.1 hy).1; omega)
          rw [hy] at h1
          rw [Nat.zero_add, hc.1]
          exact read_in m n e l' _ y h1 hl')
        rw [List.drop_zero, List.take_of_length_le (by omega)] at this
        simpa [dOf] using this
      · cases ht
    · cases ht
end
end Iv
/- From what a function comes to on values of the layer, to what a row says of it: the arguments are read as values of the layer; the function leaves all as it was. Conditions: none. -/
set_option linter.unusedVariables false
set_option linter.unusedSimpArgs false
namespace Iv
open Go Go.ChangeShapes Go.WideShapes Go.ChangeAt Go.RowKit

/-- What a parameter's type is to the layer: is it an aggregate, and its cells. -/
def argsOf (P : Program) (n : Nat) : List TypeId → Option (List (Bool × List TY))
  | [] => some []
  | t :: ts => (tyOf P n t).bind fun l => (argsOf P n ts).map fun r => ((match P.underlying t with | some (.struct _) | some (.array _ _) => true | _ => false), l) :: r

def AOk (a : Bool × List TY) (d : D) : Prop := match a.1 with
  | true => ∃ ds, d = .agg ds ∧ TY.oks a.2 ds
  | false => TY.oks a.2 [d]

def AOks : List (Bool × List TY) → List D → Prop
  | [], ds => ds = []
  | a :: r, ds => ∃ d ds', ds = d :: ds' ∧ AOk a d ∧ AOks r ds'

section
variable {H : Type} {enc : TypeId × Value → H} {P : Program} {w w' : World} {base : Nat} {spare : Nat → Bool} {held : Bool}

theorem not_agg {r : Reach} {b0 : Nat} {t : TypeId} {m : Nat} {l : List TY} {v : Value} (ht : tyOf P m t = some l)
    (hn : (match P.underlying t with | some (.struct _) | some (.array _ _) => true | _ => false) = false) (hv : Value.okWide P w r b0 t v) : v.cells = #[v] := by
  cases v <;> try rfl
  exfalso
  cases m with
  | zero => simp [tyOf] at ht
  | succ m =>
    unfold tyOf at ht
    unfold Value.okWide Cell.okWide Cell.ok at hv
    split at ht <;> simp_all

theorem args_in {r : Reach} {b0 : Nat} {n : Nat} : ∀ {ts : List TypeId} {L : List (Bool × List TY)} {vs : List Value} {ds : List (DataW H)} {ps : List MemPlace}, argsOf P n ts = some L →
    DataW.TrodAll enc P w base spare held ts vs ds ps → (∀ (j : Nat) t v, ts[j]? = some t → vs[j]? = some v → Value.okWide P w r b0 t v) →
    ∃ as, VRels NoM w mu0 as vs ∧ D.dps as = true ∧ AOks L as
  | [], L, vs, ds, ps, ht, h, hv => by
    obtain ⟨rfl, _, _⟩ := trodAll_nil h
    simp only [argsOf, Option.some.injEq] at ht
    subst ht
    exact ⟨[], by simp [VRels], rfl, by simp [AOks]⟩
  | t :: ts, L, vs, ds, ps, ht, h, hv => by
    obtain ⟨v, vs', d, ds', p, q, rfl, rfl, rfl, ⟨fuel, h1⟩, h2⟩ := trodAll_cons h
    simp only [argsOf, Option.bind_eq_some_iff, Option.map_eq_some_iff] at ht
    obtain ⟨l, hl, L', hL, rfl⟩ := ht
    obtain ⟨as, ha1, ha2, ha3⟩ := args_in hL h2 (fun j t v h3 h4 => hv (j + 1) t v (by simpa using h3) (by simpa using h4))
    obtain ⟨cs, hc1, hc2, hc3⟩ : ∃ cs, Reads w l v.cells.toList cs := ⟨_, read_in n fuel t l _ _ h1 hl⟩
    have hv0 := hv 0 t v rfl rfl
    cases hb : (match P.underlying t with | some (.struct _) | some (.array _ _) => true | _ => false) with
    | false =>
      rw [not_agg hl hb hv0] at hc1
      cases cs with
      | nil => simp [VRels] at hc1
      | cons c cs =>
        simp only [VRels] at hc1
        obtain ⟨v', r', he, hc, hr⟩ := hc1
        cases he
        cases cs with
        | cons _ _ => simp [VRels] at hr
        | nil =>
          simp only [D.dps, Bool.and_true] at hc2
          refine ⟨c :: as, by simp only [VRels]; exact ⟨_, _, rfl, hc, ha1⟩, by simp [D.dps, hc2, ha2], ?_⟩
          simp only [AOks]
          exact ⟨_, _, rfl, by simpa [AOk] using hc3, ha3⟩
    | true =>
      have hag : ∃ xs, v = .agg xs := by
        unfold Value.okWide at hv0
        split at hb
        · rename_i e; rw [e] at hv0; obtain ⟨xs, e', _⟩ := hv0; exact ⟨xs, e'⟩
        · rename_i e; rw [e] at hv0; obtain ⟨xs, e', _⟩ := hv0; exact ⟨xs, e'⟩
        · cases hb
      obtain ⟨xs, rfl⟩ := hag
      simp only [Value.cells] at hc1
      refine ⟨.agg cs :: as, ?_, by simp [D.dps, D.dp, hc2, ha2], ?_⟩
      · simp only [VRels, VRel]
        exact ⟨_, _, rfl, ⟨_, rfl, hc1⟩, ha1⟩
      · simp only [AOks]
        exact ⟨_, _, rfl, by simpa [AOk] using hc3, ha3⟩

/-- What a list of package-level variables says of one of them. -/
theorem glob_of {m : Nat} {n : String} {d : DataW Unit} {g : Nat} {t : TypeId} {l : List TY} (hg : P.globalNamed n = some g) (ht : (P.globals[g]?).map (·.type) = some t) (hl : tyOf P m t = some l) :
    ∀ {laid : List (String × DataW Unit)} {ps : List MemPlace}, DataW.LaidVars P w laid ps → (n, d) ∈ laid → g < w.heap.size ∧ CRel NoM w g 0 (dOf d)
  | [], ps, h, hm => by cases hm
  | (n', d') :: r, ps, h, hm => by
    obtain ⟨g', t', cs, fuel, p, q, h1, h2, h3, h4, h5, _⟩ := h
    rcases List.mem_cons.1 hm with e | hm
    · cases e
      rw [hg] at h1; cases h1
      rw [ht] at h2; cases h2
      have hr := (read_in m fuel t l _ _ h4 hl).1
      simp only [World.var?, hg, Option.bind_some] at h3
      split at h3
      · rename_i e
        cases h3
        refine ⟨(Array.getElem?_eq_some_iff.1 e).1, CRel.mk fun i d hd => ?_⟩
        obtain ⟨v, hv, hvr⟩ := VRels.nth i d hr hd
        refine ⟨v, ?_, hvr⟩
        simp only [World.cell?, e]
        simpa using hv
      · cases h3
    · exact glob_of hg ht hl h5 hm

theorem laid_of {laid : List (String × DataW Unit)} (hf : (laid.filter fun x => x.2.handleName?.isSome) = []) (h : laidMetH P laid w) : ∃ ps, DataW.LaidVars P w laid ps := by
  unfold laidMetH at h
  rw [hf] at h
  obtain ⟨ps, h, _⟩ := h
  exact ⟨ps, h⟩

theorem trodAll_carry : ∀ {ts : List TypeId} {vs : List Value} {ds : List (DataW H)} {ps : List MemPlace}, DataW.TrodAll enc P w base spare held ts vs ds ps →
    (∀ p ∈ ps, w.sameAt w' p) → DataW.TrodAll enc P w' base spare held ts vs ds ps
  | [], vs, ds, ps, h, hs => by
    obtain ⟨rfl, rfl, rfl⟩ := trodAll_nil h
    exact rfl
  | t :: ts, vs, ds, ps, h, hs => by
    obtain ⟨v, vs', d, ds', p, q, rfl, rfl, rfl, ⟨fuel, h1⟩, h2⟩ := trodAll_cons h
    exact trodAll_cons_mk ⟨fuel, DataW.trod_carry fuel _ _ _ h1 fun p hp => hs p (by simp at hp; simp [hp])⟩ (trodAll_carry h2 fun p hp => hs p (by simp [hp]))

theorem same_of {p : MemPlace} (hb : w'.heap[p.block]? = w.heap[p.block]?) : w.sameAt w' p := by
  cases p with
  | cell b o => simp only [MemPlace.block] at hb; simp only [World.sameAt, World.cell?, hb]
  | map b => exact hb

/-- A function that comes to 'true' and writes nothing that was there. -/
theorem row_true {E : Env} {f : FuncId} {fn : Func} {s : ChangeSpec} {W : World} {args : Array Value} {ds gs : List (DataW H)} {before : List MemPlace} {as : List D} {t : TypeId} {apart fresh again : Bool} {held' : Bool}
    (K : Kids E.P (· < E.P.types.size)) (hz : ∀ t e, t < E.P.types.size → E.P.underlying t = some (.slice e) → 0 < E.P.cellsOf e) (hT : ∀ t ∈ fn.params.toList, t < E.P.types.size)
    (hvars : s.vars = []) (hfn : ∀ (d0 : List (DataW H)), d0.length = fn.params.size → s.fn H d0 = { results := [.lit (.bool true)], args := d0 })
    (hres : fn.resultTypes = #[t]) (hu : E.P.underlying t = some .bool)
    (hW : DataW.Whole enc E.P fn.params.toList s.vars apart W args.toList ds gs before)
    (hp : PureC E f as (.bool true)) (hG : GRel E NoM W) (hv : VRels NoM W mu0 as args.toList) :
    Calls E.P f args W fun e W' => ∃ v, e = .returned v ∧ s.post enc E.P fn apart fresh held' again W args v W' := by
  have hp' := hp NoM W args.toList (fun b hb => hb.elim) hG hv
  refine hp'.mono ?_
  rintro e W' ⟨v, rfl, hr, hsz, henv, hold⟩
  simp only [VRel] at hr
  subst hr
  have hlt := hW.lt
  have hW0 := hW
  obtain ⟨p, q, hA, hV, hbe, hfz, hnd⟩ := hW
  rw [hvars] at hV
  obtain ⟨rfl, rfl⟩ := trodVars_none hV
  rw [List.append_nil] at hbe
  subst hbe
  have hlen := (trodAll_length hA).2
  simp only [Array.length_toList] at hlen
  have hspec := hfn (ds ++ []) (by simpa using hlen)
  have hsame : ∀ p ∈ before, W.sameAt W' p := fun p hp => same_of (hold _ (hlt p hp))
  have hA' := trodAll_carry hA hsame
  have hAs : ∀ sp : Nat → Bool, (∀ p ∈ before, sp p.block = true) → DataW.TrodAll enc E.P W' 0 sp true fn.params.toList args.toList ds before :=
    fun sp hsp => DataW.TrodAll.respare K hz hT hA' hsp
  have hbool : ∀ (b : Nat) (sp : Nat → Bool) (hd : Bool), DataW.TrodAll enc E.P W' b sp hd fn.resultTypes.toList ((Value.bool true).resultList fn.resultTypes.size) [.lit (.bool true)] [] := fun b sp hd => by
    rw [hres]
    exact trodAll_mk1 (shut_bool hu true)
  refine ⟨_, rfl, ds, [], before, [], before, [], hW0, ?_, ?_, ?_, ?_, ?_⟩
  · rw [hspec]; exact hbool _ _ _
  · rw [hspec, List.append_nil]; exact hAs _ fun p hp => by simpa using hlt p hp
  · rw [hspec, hvars]; exact rfl
  · refine ⟨henv.1, henv.2, fun i hi => ?_⟩
    rw [hold i hi]
    rcases hx : W.heap[i]? with _ | o
    · rfl
    · cases o <;> simp
  · intro _
    refine ⟨ok_one hres rfl (okWide_bool_mk hu true), [.lit (.bool true)] ++ ds, [], [] ++ before, ⟨[] ++ before, [], trodAll_append (hAs _ fun _ _ => rfl) (hbool _ _ _), ?_, by simp, ?_, ?_⟩, ?_⟩
    · rw [hvars]; exact rfl
    · intro b off hb
      have hb' : MemPlace.cell b off ∈ before := by simpa using hb
      have := hfz b off hb'
      simp only [World.frozen?, hold b (hlt _ hb')] at this ⊢
      exact this
    · intro ha; simpa using hnd ha
    · intro p hp _; simpa using hp
end
end Iv
/- Tools for laws on typed values: loops, slices that came in, contracts out of texts. Conditions: none. -/
set_option linter.unusedVariables false
set_option linter.unusedSimpArgs false
namespace Iv
open Go

theorem iterN_mono {α ρ : Type} {f : α → Option (α ⊕ ρ)} : ∀ {n k : Nat} {v : α} {r : ρ}, iterN f n v = some r → iterN f (n + k) v = some r
  | 0, k, v, r, h => by simp [iterN] at h
  | n + 1, k, v, r, h => by
    rw [Nat.add_right_comm]
    simp only [iterN] at h ⊢
    split at h
    · rename_i w hw; exact iterN_mono h
    · exact h
    · cases h

theorem loopD_of {α ρ : Type} {f : α → Option (α ⊕ ρ)} {n : Nat} {v : α} {r : ρ} (h : iterN f n v = some r) : loopD f v = some r := by
  unfold loopD
  have hx : ∃ n, (iterN f n v).isSome = true := ⟨n, by rw [h]; rfl⟩
  rw [dif_pos hx]
  obtain ⟨r', hr'⟩ := Option.isSome_iff_exists.1 hx.choose_spec
  have h1 := iterN_mono (k := hx.choose) h
  have h2 := iterN_mono (k := n) hr'
  rw [Nat.add_comm, h2] at h1
  rw [hr', h1]

theorem loop_done {α ρ : Type} {f : α → Option (α ⊕ ρ)} {v : α} {r : ρ} (h : f v = some (.inr r)) : lpD.run f v = some r :=
  loopD_of (n := 1) (by simp [iterN, h])

theorem loop_step {α ρ : Type} {f : α → Option (α ⊕ ρ)} {v w : α} (h : f v = some (.inl w)) : lpD.run f v = lpD.run f w := by
  show loopD f v = loopD f w
  cases hw : loopD f w with
  | some r =>
    obtain ⟨n, hn⟩ := loopD_some hw
    exact loopD_of (n := n + 1) (by simp [iterN, h, hn])
  | none =>
    cases hv : loopD f v with
    | none => rfl
    | some r =>
      obtain ⟨n, hn⟩ := loopD_some hv
      cases n with
      | zero => simp [iterN] at hn
      | succ n =>
        simp only [iterN, h] at hn
        rw [loopD_of hn] at hw
        cases hw

/-- A loop that counts down to its end. -/
theorem loop_to {α ρ : Type} {f : α → Option (α ⊕ ρ)} {st : Nat → α} {n : Nat} {r : ρ} (hs : ∀ i, i < n → f (st i) = some (.inl (st (i + 1)))) (he : f (st n) = some (.inr r)) :
    ∀ k, k ≤ n → lpD.run f (st (n - k)) = some r
  | 0, _ => loop_done he
  | k + 1, hk => by
    rw [loop_step (hs (n - (k + 1)) (by omega)), show n - (k + 1) + 1 = n - k by omega]
    exact loop_to hs he k (by omega)

/-- A loop that counts, with what it comes to from each place on. -/
theorem loop_ind {α ρ : Type} {f : α → Option (α ⊕ ρ)} {st : Nat → α} {R : Nat → ρ} {n : Nat} (hs : ∀ i, i < n → (f (st i) = some (.inl (st (i + 1))) ∧ R i = R (i + 1)) ∨ f (st i) = some (.inr (R i)))
    (he : f (st n) = some (.inr (R n))) : ∀ i, i ≤ n → lpD.run f (st i) = some (R i) := by
  suffices h : ∀ k, k ≤ n → lpD.run f (st (n - k)) = some (R (n - k)) by
    intro i hi
    have := h (n - i) (by omega)
    rwa [show n - (n - i) = i by omega] at this
  intro k
  induction k with
  | zero => intro _; exact loop_done he
  | succ k ih =>
    intro hk
    have ih := ih (by omega)
    have e : n - (k + 1) + 1 = n - k := by omega
    rcases hs (n - (k + 1)) (by omega) with ⟨h1, h2⟩ | h1
    · rw [loop_step h1, h2, e]; exact ih
    · exact loop_done h1

/-- A contract out of a function's text. -/
theorem sp_tab {E : Env} (hmix : E.P.follows .mixedOrders = true) (hG : GOk E.G) {cl : CL} (hl : SureD E cl) {f : Nat} {h : Lp → CL → List D → Option D} (ht : TabE E f h) {g : List D → Option D}
    (hg : ∀ as d, g as = some d → d.dp = true ∧ D.dps as = true ∧ h lpD cl as = some d) : Sp E f g := by
  intro as d hd
  obtain ⟨h1, h2, h3⟩ := hg as d hd
  obtain ⟨H, hH, hc⟩ := ht _ _ _ _ h3
  obtain ⟨l, h4, h5, h6⟩ := castsK_some _ _ h2 hc
  unfold hOf at hH
  split at hH
  · rename_i fn hf
    cases hn : fn.name == "runtime.NumGoroutine" <;> rw [hn] at hH
    · have := runB_pure hmix (lp := lpD) (fun f v r h => loopD_some h) hl hG hf hH h5 h6
      rw [h4] at this
      exact ⟨this, callable_of hf hn hH, h1⟩
    · cases hH
  · cases hH

/-- A contract out of any oracle. -/
theorem sp_sure {E : Env} {cl : CL} (h : SureD E cl) (f : Nat) : Sp E f (cl f) := fun as d hd => h f as d hd

/-! Slices that came in. -/
def IsSl (w : Nat) (rows : List (List D)) (d : D) : Prop := (∀ r ∈ rows, r.length = w) ∧ ((d = .nils ∧ rows = []) ∨ ∃ ex, d = .sl ex rows.length rows.flatten)

theorem IsSl.lenD {w : Nat} {rows : List (List D)} {d : D} (h : IsSl w rows d) : lenD false d = some rows.length := by
  rcases h.2 with ⟨rfl, rfl⟩ | ⟨ex, rfl⟩ <;> rfl

theorem flatten_at {w : Nat} : ∀ {rows : List (List D)} {i : Nat} {r : List D}, (∀ r ∈ rows, r.length = w) → rows[i]? = some r → (rows.flatten.drop (i * w)).take w = r ∧ i * w + w ≤ rows.flatten.length
  | [], i, r, h, hr => by simp at hr
  | x :: rows, 0, r, h, hr => by
    simp only [List.getElem?_cons_zero, Option.some.injEq] at hr
    subst hr
    have := h x (by simp)
    rw [List.flatten_cons, Nat.zero_mul, List.drop_zero, ← this]
    simp
  | x :: rows, i + 1, r, h, hr => by
    have hx := h x (by simp)
    obtain ⟨h1, h2⟩ := flatten_at (w := w) (i := i) (fun r hr => h r (by simp [hr])) (show rows[i]? = some r by simpa using hr)
    refine ⟨?_, ?_⟩
    · rw [List.flatten_cons, Nat.add_mul, Nat.one_mul, Nat.add_comm, ← List.drop_drop]
      rw [show (x ++ rows.flatten).drop w = rows.flatten by rw [← hx]; simp]
      exact h1
    · rw [List.flatten_cons, List.length_append, hx, Nat.add_mul, Nat.one_mul]; omega

theorem elF_at {w : Nat} {rows : List (List D)} {d : D} (h : IsSl w rows d) {i : Int} {r : List D} (h0 : 0 ≤ i) (hr : rows[i.toNat]? = some r) : elF w d (.int .i64 i) = some (rows.flatten, i.toNat * w) := by
  have hlt : i.toNat < rows.length := (List.getElem?_eq_some_iff.1 hr).1
  rcases h.2 with ⟨rfl, rfl⟩ | ⟨ex, rfl⟩
  · simp at hr
  · simp only [elF, idxD]
    rw [if_pos ⟨h0, by omega⟩]

/-- A call's result, an element, a part: read by a getter that has a name. -/
def clT {α ρ : Type} (g : D → Option α) (r : Option D) (K : α → Option ρ) : Option ρ := bd r fun d => bd (g d) K
def ixT {α ρ : Type} (g : D → Option α) (sz : Nat) (d i : D) (o : Option Nat) (K : α → Option ρ) : Option ρ :=
  bd (elF sz d i) fun p => bd (takeAt p.1 p.2 o) fun d => bd (g d) K
def tkT {α ρ : Type} (g : D → Option α) (cs : List D) (off : Nat) (o : Option Nat) (K : α → Option ρ) : Option ρ :=
  bd (takeAt cs off o) fun d => bd (g d) K

/-- An element of one cell. -/
theorem ixT_one {α ρ : Type} {g : D → Option α} {rows : List (List D)} {d c : D} (h : IsSl 1 rows d) {i : Int} (h0 : 0 ≤ i) (hr : rows[i.toNat]? = some [c]) (K : α → Option ρ) :
    ixT g 1 d (.int .i64 i) none K = bd (g c) K := by
  unfold ixT
  rw [elF_at h h0 hr]
  have h1 := (flatten_at h.1 hr).1
  have h2 : rows.flatten[i.toNat * 1]? = some c := by
    have : ((rows.flatten.drop (i.toNat * 1)).take 1)[0]? = some c := by rw [h1]; rfl
    rw [List.getElem?_take] at this
    simpa using this
  simp only [bd, takeAt, h2]

/-- An element of some cells. -/
theorem ixT_row {α ρ : Type} {g : D → Option α} {w : Nat} {rows : List (List D)} {d : D} {r : List D} (h : IsSl w rows d) {i : Int} (h0 : 0 ≤ i) (hr : rows[i.toNat]? = some r) (K : α → Option ρ) :
    ixT g w d (.int .i64 i) (some w) K = bd (g (.agg r)) K := by
  unfold ixT
  rw [elF_at h h0 hr]
  obtain ⟨h1, h2⟩ := flatten_at h.1 hr
  simp only [bd, takeAt]
  rw [show Nat.ble (i.toNat * w + w) rows.flatten.length = true from Nat.ble_eq_true_of_le h2]
  simp only [cond_true, h1]

theorem ixStr_at {s : List UInt8} {i : Int} {b : UInt8} (h0 : 0 ≤ i) (hb : s[i.toNat]? = some b) : ixStr s (.int .i64 i) = some (b.toNat : Int) := by
  have hlt : i.toNat < s.length := (List.getElem?_eq_some_iff.1 hb).1
  simp only [ixStr, idxD]
  rw [if_pos ⟨h0, by omega⟩]
  simp only [hb]

theorem wrap_i64 {n : Int} (h1 : -9223372036854775808 ≤ n) (h2 : n ≤ 9223372036854775807) : wrapD .i64 n = n := by
  exact wrapD_fits (k := .i64) (by show -(9223372036854775808 : Int) ≤ n; exact h1) (by show n ≤ (9223372036854775807 : Int); exact h2)

@[simp] theorem bd_some_eq {α ρ : Type} (a : α) (k : α → Option ρ) : bd (some a) k = k a := rfl
@[simp] theorem bj_inl {α ρ : Type} (a : α) (k : α → Option ρ) : bj (some (.inl a)) k = k a := rfl
@[simp] theorem bj_inr {α ρ : Type} (r : ρ) (k : α → Option ρ) : bj (some (.inr r)) k = some r := rfl
@[simp] theorem rt_some_eq {α ρ : Type} (r : ρ) : rt (α := α) (some r) = some (.inr r) := rfl
@[simp] theorem clT_some {α ρ : Type} (g : D → Option α) (d : D) (K : α → Option ρ) : clT g (some d) K = bd (g d) K := rfl
theorem leZ_nat (a b : Nat) : leZ (a : Int) (b : Int) = Nat.ble a b := rfl
theorem ltZ_nat (a b : Nat) : ltZ (a : Int) (b : Int) = Nat.blt a b := rfl
theorem eqZ_nat (a b : Nat) : eqZ (a : Int) (b : Int) = Nat.beq a b := rfl
end Iv
/- The oracle of a program: what is known of some functions by other means, and what the texts of all others come to. Conditions: none. -/
set_option linter.unusedVariables false
set_option linter.unusedSimpArgs false
namespace Iv
open Go

/-- What the texts say, so many calls deep; 'kn' is known already. -/
noncomputable def evK (kn : CL) (l : List (Nat × (Lp → CL → List D → Option D))) : Nat → CL
  | 0 => kn
  | n + 1 => fun f args => match kn f args with
    | some d => some d
    | none => match tabW lpD l (evK kn l n) f args with
      | some d => bif D.dps args && d.dp then some d else none
      | none => none

theorem tabW_some {E : Env} {lp : Lp} {cl : CL} {f : Nat} {args : List D} {d : D} : ∀ {l : List (Nat × (Lp → CL → List D → Option D))}, TabEs E l → tabW lp l cl f args = some d →
    ∃ h, TabE E f h ∧ h lp cl args = some d
  | [], _, h => by cases h
  | (g, e) :: r, hl, h => by
    simp only [tabW] at h
    cases hb : Nat.beq f g <;> rw [hb] at h
    · exact tabW_some hl.2 h
    · rw [beq_eq hb]; exact ⟨e, hl.1, h⟩

theorem evK_sound {E : Env} (hmix : E.P.follows .mixedOrders = true) (hG : GOk E.G) {kn : CL} (hk : SureD E kn) {l : List (Nat × (Lp → CL → List D → Option D))} (hl : TabEs E l) : ∀ n, SureD E (evK kn l n)
  | 0 => hk
  | n + 1 => fun f as d h => by
    simp only [evK] at h
    split at h
    · rename_i d' hd
      cases h
      exact hk f as _ hd
    · split at h
      · rename_i d' hd
        obtain ⟨h2, h3⟩ := cond_some h
        cases h3
        simp only [Bool.and_eq_true] at h2
        obtain ⟨e, he, hc⟩ := tabW_some hl hd
        exact sp_tab hmix hG (evK_sound hmix hG hk hl n) he (g := fun as => (e lpD (evK kn l n) as).bind fun d => bif D.dps as && d.dp then some d else none)
          (fun as d h => by
            simp only [Option.bind_eq_some_iff] at h
            obtain ⟨d', h1, h4⟩ := h
            obtain ⟨h5, h6⟩ := cond_some h4
            cases h6
            simp only [Bool.and_eq_true] at h5
            exact ⟨h5.2, h5.1, h1⟩) as d (by simp [hc, h2])
      · cases h

/-- A fact about a function, out of its text. -/
theorem evK_at {kn : CL} {l : List (Nat × (Lp → CL → List D → Option D))} {n f : Nat} {args : List D} {d : D} (hk : kn f args = none) (h : tabW lpD l (evK kn l n) f args = some d) (h1 : D.dps args = true) (h2 : d.dp = true) :
    evK kn l (n + 1) f args = some d := by
  simp only [evK, hk, h, h1, h2, Bool.and_self, cond_true]

/-- A fact that is known. -/
theorem evK_kn {kn : CL} {l : List (Nat × (Lp → CL → List D → Option D))} {n f : Nat} {args : List D} {d : D} (hk : kn f args = some d) : evK kn l n f args = some d := by
  cases n with
  | zero => exact hk
  | succ n => simp only [evK, hk]
end Iv
/- Loops that seek, bytes as masks: plain laws for typed laws. Conditions: none. -/
set_option linter.unusedVariables false
set_option linter.unusedSimpArgs false
namespace Iv
open Go

/-- The first place that says something; or what is said behind the last one. -/
def scan {β : Type} (p : Nat → Option β) (z : β) : Nat → Nat → β
  | 0, _ => z
  | k + 1, i => match p i with
    | some r => r
    | none => scan p z k (i + 1)

theorem scan_none {β : Type} {p : Nat → Option β} {z : β} : ∀ {k i : Nat}, (∀ j, i ≤ j → j < i + k → p j = none) → scan p z k i = z
  | 0, i, h => rfl
  | k + 1, i, h => by
    simp only [scan, h i (Nat.le_refl i) (by omega)]
    exact scan_none fun j h1 h2 => h j (by omega) (by omega)

theorem scan_first {β : Type} {p : Nat → Option β} {z r : β} : ∀ {k i m : Nat}, i ≤ m → m < i + k → p m = some r → (∀ j, i ≤ j → j < m → p j = none) → scan p z k i = r
  | 0, i, m, h1, h2, hm, h => by omega
  | k + 1, i, m, h1, h2, hm, h => by
    by_cases e : i = m
    · subst e; simp only [scan, hm]
    · simp only [scan, h i (Nat.le_refl i) (by omega)]
      exact scan_first (by omega) (by omega) hm fun j h3 h4 => h j (by omega) h4

/-- Either nothing is said; or there is a first place. -/
theorem scan_cases {β : Type} (p : Nat → Option β) (z : β) : ∀ (k i : Nat), ((∀ j, i ≤ j → j < i + k → p j = none) ∧ scan p z k i = z) ∨
    ∃ m r, i ≤ m ∧ m < i + k ∧ p m = some r ∧ (∀ j, i ≤ j → j < m → p j = none) ∧ scan p z k i = r
  | 0, i => .inl ⟨fun j h1 h2 => by omega, rfl⟩
  | k + 1, i => by
    cases hp : p i with
    | some r => exact .inr ⟨i, r, Nat.le_refl i, by omega, hp, fun j h1 h2 => by omega, by simp only [scan, hp]⟩
    | none =>
      rcases scan_cases p z k (i + 1) with ⟨h1, h2⟩ | ⟨m, r, h1, h2, h3, h4, h5⟩
      · refine .inl ⟨fun j h3 h4 => ?_, by simp only [scan, hp, h2]⟩
        by_cases e : i = j
        · rw [← e]; exact hp
        · exact h1 j (by omega) (by omega)
      · refine .inr ⟨m, r, by omega, by omega, h3, fun j h6 h7 => ?_, by simp only [scan, hp, h5]⟩
        by_cases e : i = j
        · rw [← e]; exact hp
        · exact h4 j (by omega) (by omega)

theorem scan_congr {β : Type} {p q : Nat → Option β} {z : β} : ∀ {k i : Nat}, (∀ j, i ≤ j → j < i + k → p j = q j) → scan p z k i = scan q z k i
  | 0, i, h => rfl
  | k + 1, i, h => by
    simp only [scan, h i (Nat.le_refl i) (by omega)]
    rw [scan_congr (k := k) (i := i + 1) fun j h1 h2 => h j (by omega) (by omega)]

/-- A loop that seeks: at each place it is known that nothing was found before. -/
theorem loop_scan {α ρ : Type} {f : α → Option (α ⊕ ρ)} {st : Nat → α} {p : Nat → Option ρ} {z : ρ} {n : Nat} (hs : ∀ i, i < n → (∀ j, j < i → p j = none) → f (st i) = match p i with | some r => some (.inr r) | none => some (.inl (st (i + 1))))
    (he : (∀ j, j < n → p j = none) → f (st n) = some (.inr z)) : lpD.run f (st 0) = some (scan p z n 0) := by
  suffices h : ∀ k i, i + k = n → (∀ j, j < i → p j = none) → lpD.run f (st i) = some (scan p z k i) from h n 0 (by omega) (fun j hj => by omega)
  intro k
  induction k with
  | zero => intro i hi hb; rw [show i = n by omega] at hb ⊢; exact loop_done (he hb)
  | succ k ih =>
    intro i hi hb
    have h1 := hs i (by omega) hb
    cases hp : p i with
    | some r =>
      rw [hp] at h1
      simp only [scan, hp]
      exact loop_done h1
    | none =>
      rw [hp] at h1
      simp only [scan, hp]
      rw [loop_step h1]
      exact ih (i + 1) (by omega) (fun j hj => by
        by_cases e : j = i
        · rw [e]; exact hp
        · exact hb j (by omega))

/-- A loop that goes on to its end. -/
theorem loop_fold {α ρ : Type} {f : α → Option (α ⊕ ρ)} {st : Nat → α} {r : ρ} {n : Nat} (hs : ∀ i, i < n → f (st i) = some (.inl (st (i + 1)))) (he : f (st n) = some (.inr r)) : lpD.run f (st 0) = some r := by
  have := loop_to hs he n (Nat.le_refl n)
  rwa [Nat.sub_self] at this

theorem scan_map {β γ : Type} (e : β → γ) {p : Nat → Option β} {z : β} : ∀ {k i : Nat}, scan (fun j => (p j).map e) (e z) k i = e (scan p z k i)
  | 0, i => rfl
  | k + 1, i => by
    simp only [scan]
    cases p i with
    | none => exact scan_map e
    | some r => rfl

/-! Typed slices. -/
def Strs (ss : List (List UInt8)) (d : D) : Prop := IsSl 1 (ss.map fun s => [.str s]) d
def U8s (us : List Nat) (d : D) : Prop := IsSl 1 (us.map fun (u : Nat) => [.int .u8 (u : Int)]) d ∧ ∀ u ∈ us, u < 256
def I64s (us : List Int) (d : D) : Prop := IsSl 1 (us.map fun u => [.int .i64 u]) d

theorem IsSl.notAg {w : Nat} {rows : List (List D)} {d : D} (h : IsSl w rows d) : isAg d = false := by
  rcases h.2 with ⟨rfl, rfl⟩ | ⟨ex, rfl⟩ <;> rfl
theorem IsSl.len {w : Nat} {rows : List (List D)} {d : D} (h : IsSl w rows d) {ρ : Type} (K : Nat → Option ρ) : bd (Iv.lenD false d) K = K rows.length := by
  rw [h.lenD]; rfl
theorem Strs.len {ss : List (List UInt8)} {d : D} (h : Strs ss d) {ρ : Type} (K : Nat → Option ρ) : bd (lenD false d) K = K ss.length := by
  rw [IsSl.len h, List.length_map]
theorem U8s.len {us : List Nat} {d : D} (h : U8s us d) {ρ : Type} (K : Nat → Option ρ) : bd (lenD false d) K = K us.length := by
  rw [IsSl.len h.1, List.length_map]
theorem I64s.len {us : List Int} {d : D} (h : I64s us d) {ρ : Type} (K : Nat → Option ρ) : bd (lenD false d) K = K us.length := by
  rw [IsSl.len h, List.length_map]
theorem Strs.ix {ss : List (List UInt8)} {d : D} (h : Strs ss d) {i : Nat} (hi : i < ss.length) {α ρ : Type} (g : D → Option α) (K : α → Option ρ) : ixT g 1 d (.int .i64 (i : Int)) none K = bd (g (.str ss[i])) K :=
  ixT_one h (by omega) (by simp [hi]) K
theorem U8s.ix {us : List Nat} {d : D} (h : U8s us d) {i : Nat} (hi : i < us.length) {α ρ : Type} (g : D → Option α) (K : α → Option ρ) : ixT g 1 d (.int .i64 (i : Int)) none K = bd (g (.int .u8 (us[i] : Nat))) K :=
  ixT_one h.1 (by omega) (by simp [hi]) K
theorem I64s.ix {us : List Int} {d : D} (h : I64s us d) {i : Nat} (hi : i < us.length) {α ρ : Type} (g : D → Option α) (K : α → Option ρ) : ixT g 1 d (.int .i64 (i : Int)) none K = bd (g (.int .i64 us[i])) K :=
  ixT_one h (by omega) (by simp [hi]) K

theorem take_flatten {w : Nat} : ∀ {rows : List (List D)} {i : Nat}, (∀ r ∈ rows, r.length = w) → i ≤ rows.length → rows.flatten.take (i * w) = (rows.take i).flatten
  | rows, 0, h, hi => by simp
  | [], i + 1, h, hi => by simp at hi
  | x :: rows, i + 1, h, hi => by
    have hx := h x (by simp)
    rw [List.flatten_cons, List.take_succ_cons, List.flatten_cons, Nat.add_mul, Nat.one_mul, Nat.add_comm, ← hx, List.take_length_add_append, hx,
      take_flatten (fun r hr => h r (by simp [hr])) (by simpa using hi)]

theorem flatten_length {w : Nat} : ∀ {rows : List (List D)}, (∀ r ∈ rows, r.length = w) → rows.flatten.length = rows.length * w
  | [], h => by simp
  | x :: rows, h => by
    rw [List.flatten_cons, List.length_append, h x (by simp), flatten_length (fun r hr => h r (by simp [hr])), List.length_cons, Nat.add_mul, Nat.one_mul, Nat.add_comm]

/-- The beginning of a slice. -/
theorem IsSl.head {w : Nat} {rows : List (List D)} {d : D} (h : IsSl w rows d) {i : Nat} (hi : i ≤ rows.length) : ∃ d', slVF w d none (some (.int .i64 (i : Int))) none = some d' ∧ IsSl w (rows.take i) d' := by
  rcases h.2 with ⟨rfl, rfl⟩ | ⟨ex, rfl⟩
  · have : i = 0 := by simpa using hi
    subst this
    exact ⟨.nils, rfl, by simp [IsSl]⟩
  · refine ⟨_, ?_, fun r hr => h.1 r (List.mem_of_mem_take hr), .inr ⟨ex && Nat.beq i rows.length, rfl⟩⟩
    have h1 : Nat.ble (i * w) rows.flatten.length = true := by
      rw [flatten_length h.1]; exact Nat.ble_eq_true_of_le (Nat.mul_le_mul_right w hi)
    simp only [slVF, bndO, bndD, Option.bind_eq_bind, Option.bind_some]
    rw [if_pos ⟨by omega, by omega⟩]
    simp only [Int.toNat_natCast, Option.bind_some]
    simp only [Option.isSome_none, Bool.false_and, Option.isNone_none, Bool.true_and, Bool.false_or, Nat.zero_mul, List.drop_zero, Nat.sub_zero, h1, cond_true, take_flatten h.1 hi, List.length_take, Nat.min_eq_left hi]

theorem ltZ_le (a b : Nat) : ltZ (a : Int) (b : Int) = !(Nat.ble b a) := by
  rw [ltZ_nat, Bool.eq_iff_iff, Nat.blt_eq, Bool.not_eq_true', ← Bool.not_eq_true, Nat.ble_eq]; omega
theorem ltZ_lt {a b : Nat} (h : a < b) : ltZ (a : Int) (b : Int) = true := by rw [ltZ_nat, Nat.blt_eq]; exact h
theorem ltZ_ge {a b : Nat} (h : b ≤ a) : ltZ (a : Int) (b : Int) = false := by rw [ltZ_le, Nat.ble_eq_true_of_le h]; rfl
theorem inc_i64 {a : Nat} (h : a < 9223372036854775807) : wrapD .i64 ((a : Int) + 1) = ((a + 1 : Nat) : Int) := wrap_i64 (by omega) (by omega)

theorem u8_of_nat (x : Nat) (h : x < 256) : wrapD .u8 (x : Int) = (x : Int) :=
  wrapD_fits (k := .u8) (by show -(0 : Int) ≤ _; omega) (by show _ ≤ (255 : Int); omega)
end Iv
/- Plain law: finite lattices as masks. Conditions: none. -/
set_option linter.unusedVariables false
set_option linter.unusedSimpArgs false
namespace Iv

/-- A lattice of n labels: for each label the mask of those at or above it. -/
structure LatT where
  n : Nat
  u : Nat → Nat
  refl : ∀ a, a < n → (u a).testBit a = true
  anti : ∀ a b, a < n → b < n → (u a).testBit b = true → (u b).testBit a = true → a = b
  trans : ∀ a b, a < n → b < n → (u a).testBit b = true → u b &&& u a = u b
  joins : ∀ a b, a < n → b < n → ∃ c, c < n ∧ u c = u a &&& u b
  bots : ∃ c, c < n ∧ ∀ a, a < n → u a &&& u c = u a

namespace LatT
variable {T : LatT}

theorem inj {a b : Nat} (ha : a < T.n) (hb : b < T.n) (h : T.u a = T.u b) : a = b :=
  T.anti a b ha hb (by rw [h]; exact T.refl b hb) (by rw [← h]; exact T.refl a ha)

abbrev Lab (T : LatT) := {a : Nat // a < T.n}

theorem Lab.ext {a b : Lab T} (h : T.u a.1 = T.u b.1) : a = b := Subtype.ext (inj a.2 b.2 h)

noncomputable def J (a b : Lab T) : Lab T := ⟨(T.joins a.1 b.1 a.2 b.2).choose, (T.joins a.1 b.1 a.2 b.2).choose_spec.1⟩
theorem u_J (a b : Lab T) : T.u (J a b).1 = T.u a.1 &&& T.u b.1 := (T.joins a.1 b.1 a.2 b.2).choose_spec.2
noncomputable def bot (T : LatT) : Lab T := ⟨T.bots.choose, T.bots.choose_spec.1⟩
theorem u_bot (a : Lab T) : T.u a.1 &&& T.u (bot T).1 = T.u a.1 := T.bots.choose_spec.2 a.1 a.2

theorem J_comm (a b : Lab T) : J a b = J b a := Lab.ext (by rw [u_J, u_J, Nat.and_comm])
theorem J_assoc (a b c : Lab T) : J (J a b) c = J a (J b c) := Lab.ext (by simp only [u_J, Nat.and_assoc])
theorem J_idem (a : Lab T) : J a a = a := Lab.ext (by rw [u_J, Nat.and_self])
theorem J_bot (a : Lab T) : J a (bot T) = a := Lab.ext (by rw [u_J, u_bot])
theorem bot_J (a : Lab T) : J (bot T) a = a := by rw [J_comm, J_bot]

instance : Std.Commutative (J (T := T)) := ⟨J_comm⟩
instance : Std.Associative (J (T := T)) := ⟨J_assoc⟩
instance : Std.IdempotentOp (J (T := T)) := ⟨J_idem⟩
instance : Std.LawfulIdentity (J (T := T)) (bot T) where
  left_id := bot_J
  right_id := J_bot

/-- At or below. -/
def le (a b : Lab T) : Prop := (T.u a.1).testBit b.1 = true
theorem le_iff (a b : Lab T) : le a b ↔ J a b = b := by
  constructor
  · intro h
    exact Lab.ext (by rw [u_J, Nat.and_comm]; exact T.trans a.1 b.1 a.2 b.2 h)
  · intro h
    have h1 : T.u a.1 &&& T.u b.1 = T.u b.1 := by rw [← u_J, h]
    have h2 := T.refl b.1 b.2
    rw [← h1, Nat.testBit_and, Bool.and_eq_true] at h2
    exact h2.1
theorem le_refl (a : Lab T) : le a a := (le_iff a a).2 (J_idem a)
theorem le_J (a b : Lab T) : le a (J a b) := (le_iff _ _).2 (by rw [← J_assoc, J_idem])
theorem J_mono {a b c d : Lab T} (h1 : le a b) (h2 : le c d) : le (J a c) (J b d) := by
  rw [le_iff] at *
  calc J (J a c) (J b d) = J (J a b) (J c d) := by ac_rfl
    _ = J b d := by rw [h1, h2]
theorem bot_le (a : Lab T) : le (bot T) a := (le_iff _ _).2 (bot_J a)
theorem le_trans {a b c : Lab T} (h1 : le a b) (h2 : le b c) : le a c := by
  rw [le_iff] at *
  calc J a c = J a (J b c) := by rw [h2]
    _ = J (J a b) c := by rw [J_assoc]
    _ = c := by rw [h1, h2]
end LatT
end Iv
/- Bytes as masks: what the operations on numbers come to. Conditions: none. -/
set_option linter.unusedVariables false
set_option linter.unusedSimpArgs false
namespace Iv
open Go

theorem wrap_u8 {x : Nat} (h : x < 256) : IntKind.wrap .u8 (x : Int) = (x : Int) := by
  rw [← wrapD_eq]; exact u8_of_nat x h
theorem wrap_i64' {x : Nat} (h : x < 9223372036854775808) : IntKind.wrap .i64 (x : Int) = (x : Int) := by
  rw [← wrapD_eq]; exact wrap_i64 (by omega) (by omega)

theorem andZ_u8 {x y : Nat} (hx : x < 256) (hy : y < 256) : andZ .u8 (x : Int) (y : Int) = ((x &&& y : Nat) : Int) := by
  have h : x &&& y < 256 := Nat.lt_of_le_of_lt Nat.and_le_left hx
  simp only [andZ, BitVec.ofInt_natCast, BitVec.toNat_and, BitVec.toNat_ofNat]
  rw [Nat.mod_eq_of_lt (show x < 2 ^ IntKind.bits .u8 from hx), Nat.mod_eq_of_lt (show y < 2 ^ IntKind.bits .u8 from hy)]
  exact wrap_u8 h
theorem orZ_u8 {x y : Nat} (hx : x < 256) (hy : y < 256) : orZ .u8 (x : Int) (y : Int) = ((x ||| y : Nat) : Int) := by
  have h : x ||| y < 256 := Nat.or_lt_two_pow (n := 8) hx hy
  simp only [orZ, BitVec.ofInt_natCast, BitVec.toNat_or, BitVec.toNat_ofNat]
  rw [Nat.mod_eq_of_lt (show x < 2 ^ IntKind.bits .u8 from hx), Nat.mod_eq_of_lt (show y < 2 ^ IntKind.bits .u8 from hy)]
  exact wrap_u8 h
theorem andZ_i64 {x y : Nat} (hx : x < 9223372036854775808) (hy : y < 9223372036854775808) : andZ .i64 (x : Int) (y : Int) = ((x &&& y : Nat) : Int) := by
  have h : x &&& y < 9223372036854775808 := Nat.lt_of_le_of_lt Nat.and_le_left hx
  simp only [andZ, BitVec.ofInt_natCast, BitVec.toNat_and, BitVec.toNat_ofNat]
  rw [Nat.mod_eq_of_lt (show x < 2 ^ IntKind.bits .i64 by show x < 18446744073709551616; omega), Nat.mod_eq_of_lt (show y < 2 ^ IntKind.bits .i64 by show y < 18446744073709551616; omega)]
  exact wrap_i64' h

theorem fdiv_nat (x y : Nat) : Int.fdiv (x : Int) (y : Int) = ((x / y : Nat) : Int) := by
  exact Int.fdiv_eq_ediv_of_nonneg _ (by omega)

theorem shr_small {x : Nat} (b w : Nat) (hx : x < 2 ^ w) : x / 2 ^ (min b w) = x >>> b := by
  rw [Nat.shiftRight_eq_div_pow]
  by_cases h : b ≤ w
  · rw [Nat.min_eq_left h]
  · rw [Nat.min_eq_right (by omega), Nat.div_eq_of_lt hx, Nat.div_eq_of_lt]
    exact Nat.lt_of_lt_of_le hx (Nat.pow_le_pow_right (by omega) (by omega))

theorem shrD_u8 {x : Nat} (b : Nat) (hx : x < 256) : shrD .u8 (x : Int) (b : Int) = some ((x >>> b : Nat) : Int) := by
  simp only [shrD]
  rw [if_neg (by omega), Int.toNat_natCast, show ((2 : Int) ^ (min b (IntKind.bits .u8))) = ((2 ^ (min b 8) : Nat) : Int) by rw [Int.natCast_pow]; rfl, fdiv_nat, shr_small b 8 hx]
theorem shrD_i64 {x : Nat} (b : Nat) (hx : x < 9223372036854775808) : shrD .i64 (x : Int) (b : Int) = some ((x >>> b : Nat) : Int) := by
  simp only [shrD]
  rw [if_neg (by omega), Int.toNat_natCast, show ((2 : Int) ^ (min b (IntKind.bits .i64))) = ((2 ^ (min b 64) : Nat) : Int) by rw [Int.natCast_pow]; rfl, fdiv_nat, shr_small b 64 (by omega)]

theorem bit_eq (x b : Nat) : (x >>> b) &&& 1 = if x.testBit b then 1 else 0 := by
  rw [Nat.and_comm, Nat.testBit]
  have : 1 &&& x >>> b = (x >>> b) % 2 := by rw [Nat.and_comm, Nat.and_one_is_mod]
  rw [this]
  have h2 : (x >>> b) % 2 < 2 := Nat.mod_lt _ (by omega)
  have h3 : (x >>> b) % 2 = 0 ∨ (x >>> b) % 2 = 1 := by omega
  rcases h3 with h | h <;> simp [h]

theorem shr_lt {x w : Nat} (b : Nat) (h : x < w) : x >>> b < w := Nat.lt_of_le_of_lt (Nat.shiftRight_le x b) h

/-- A bit, as it is asked for. -/
theorem bit_u8 {x : Nat} (b : Nat) (hx : x < 256) : andZ .u8 ((x >>> b : Nat) : Int) 1 = ((if x.testBit b then 1 else 0 : Nat) : Int) := by
  rw [show (1 : Int) = ((1 : Nat) : Int) from rfl, andZ_u8 (shr_lt b hx) (by omega), bit_eq]
theorem bit_u8_0 {x : Nat} (b : Nat) (hx : x < 256) : eqZ (andZ .u8 ((x >>> b : Nat) : Int) 1) 0 = !x.testBit b := by
  rw [bit_u8 b hx]; cases x.testBit b <;> rfl
theorem bit_u8_1 {x : Nat} (b : Nat) (hx : x < 256) : eqZ (andZ .u8 ((x >>> b : Nat) : Int) 1) 1 = x.testBit b := by
  rw [bit_u8 b hx]; cases x.testBit b <;> rfl
theorem rem_2 (x b : Nat) : remD ((x >>> b : Nat) : Int) 2 = some ((if x.testBit b then 1 else 0 : Nat) : Int) := by
  have h : (x >>> b) % 2 = if x.testBit b then 1 else 0 := by rw [← bit_eq, Nat.and_one_is_mod]
  simp only [remD]
  rw [if_neg (by omega), show (2 : Int) = ((2 : Nat) : Int) from rfl, ← Int.ofNat_tmod, h]

theorem andNot_u8 {x y : Nat} (hx : x < 256) (hy : y < 256) : eqZ (andNotZ .u8 (x : Int) (y : Int)) 0 = (x &&& y == x) := by
  have e : andNotZ .u8 (x : Int) (y : Int) = (((BitVec.ofNat 8 x) &&& ~~~(BitVec.ofNat 8 y)).toNat : Int) := by
    simp only [andNotZ, BitVec.ofInt_natCast]
    exact wrap_u8 (BitVec.isLt _)
  rw [e]
  have h1 : eqZ (((BitVec.ofNat 8 x) &&& ~~~(BitVec.ofNat 8 y)).toNat : Int) 0 = decide ((BitVec.ofNat 8 x) &&& ~~~(BitVec.ofNat 8 y) = 0) := by
    rw [eqZ_eq, Bool.eq_iff_iff, beq_iff_eq, decide_eq_true_eq, ← BitVec.toNat_inj]
    simp only [BitVec.toNat_zero, BitVec.ofNat_eq_ofNat]
    omega
  rw [h1, Bool.eq_iff_iff, decide_eq_true_eq, beq_iff_eq]
  constructor
  · intro h
    apply Nat.eq_of_testBit_eq
    intro i
    rw [Nat.testBit_and]
    by_cases hi : i < 8
    · have := congrArg (fun v => v.getLsbD i) h
      simp only [BitVec.getLsbD_and, BitVec.getLsbD_not, BitVec.getLsbD_ofNat, hi, decide_true, Bool.true_and] at this
      simp at this
      cases hxi : x.testBit i <;> simp_all
    · have : x.testBit i = false := Nat.testBit_lt_two_pow (Nat.lt_of_lt_of_le (show x < 2 ^ 8 from hx) (Nat.pow_le_pow_right (by omega) (by omega)))
      simp [this]
  · intro h
    apply BitVec.eq_of_getLsbD_eq
    intro i hi
    have := congrArg (fun v => v.testBit i) h
    simp only [Nat.testBit_and] at this
    simp only [BitVec.getLsbD_and, BitVec.getLsbD_not, BitVec.getLsbD_ofNat, hi, decide_true, Bool.true_and]
    cases hxi : x.testBit i <;> simp_all

/-- All labels. -/
theorem all_u8 : ∀ n : Nat, 1 ≤ n → n ≤ 8 → ∃ v, shlD .u8 1 (n : Int) = some v ∧ wrapD .u8 (v - 1) = ((2 ^ n - 1 : Nat) : Int)
  | 1, _, _ => ⟨_, rfl, rfl⟩
  | 2, _, _ => ⟨_, rfl, rfl⟩
  | 3, _, _ => ⟨_, rfl, rfl⟩
  | 4, _, _ => ⟨_, rfl, rfl⟩
  | 5, _, _ => ⟨_, rfl, rfl⟩
  | 6, _, _ => ⟨_, rfl, rfl⟩
  | 7, _, _ => ⟨_, rfl, rfl⟩
  | 8, _, _ => ⟨_, rfl, rfl⟩
  | 0, h, _ => by omega
  | n + 9, _, h => by omega
theorem all_i64 : ∀ n : Nat, 1 ≤ n → n ≤ 8 → ∃ v, shlD .i64 1 (n : Int) = some v ∧ wrapD .i64 (v - 1) = ((2 ^ n - 1 : Nat) : Int)
  | 1, _, _ => ⟨_, rfl, rfl⟩
  | 2, _, _ => ⟨_, rfl, rfl⟩
  | 3, _, _ => ⟨_, rfl, rfl⟩
  | 4, _, _ => ⟨_, rfl, rfl⟩
  | 5, _, _ => ⟨_, rfl, rfl⟩
  | 6, _, _ => ⟨_, rfl, rfl⟩
  | 7, _, _ => ⟨_, rfl, rfl⟩
  | 8, _, _ => ⟨_, rfl, rfl⟩
  | 0, h, _ => by omega
  | n + 9, _, h => by omega
/-- One label. -/
theorem one_u8 : ∀ n : Nat, n < 8 → shlD .u8 1 (n : Int) = some ((2 ^ n : Nat) : Int)
  | 0, _ => rfl
  | 1, _ => rfl
  | 2, _ => rfl
  | 3, _ => rfl
  | 4, _ => rfl
  | 5, _ => rfl
  | 6, _ => rfl
  | 7, _ => rfl
  | n + 8, h => by omega
theorem bitsh_u8 (b : Bool) (n : Nat) (h : n < 8) : shlD .u8 ((if b then 1 else 0 : Nat) : Int) (n : Int) = some ((if b then 2 ^ n else 0 : Nat) : Int) := by
  cases b
  · match n, h with
    | 0, _ => rfl
    | 1, _ => rfl
    | 2, _ => rfl
    | 3, _ => rfl
    | 4, _ => rfl
    | 5, _ => rfl
    | 6, _ => rfl
    | 7, _ => rfl
  · exact one_u8 n h
theorem two_pow_lt {a : Nat} (h : a < 8) : 2 ^ a < 256 := show 2 ^ a < 2 ^ 8 from Nat.pow_lt_pow_right (by omega) h

/-! Rows of eight. -/
def row8 (f : Nat → Nat) : List D := [.int .u8 (f 0 : Nat), .int .u8 (f 1 : Nat), .int .u8 (f 2 : Nat), .int .u8 (f 3 : Nat), .int .u8 (f 4 : Nat), .int .u8 (f 5 : Nat), .int .u8 (f 6 : Nat), .int .u8 (f 7 : Nat)]
def upd (f : Nat → Nat) (k v : Nat) : Nat → Nat := fun j => if j = k then v else f j
theorem row8_at (f : Nat → Nat) : ∀ k, k < 8 → (row8 f)[k]? = some (.int .u8 (f k : Nat))
  | 0, _ => rfl
  | 1, _ => rfl
  | 2, _ => rfl
  | 3, _ => rfl
  | 4, _ => rfl
  | 5, _ => rfl
  | 6, _ => rfl
  | 7, _ => rfl
  | k + 8, h => by omega
theorem row8_congr {f g : Nat → Nat} (h : ∀ k, k < 8 → f k = g k) : row8 f = row8 g := by
  simp only [row8, h 0 (by omega), h 1 (by omega), h 2 (by omega), h 3 (by omega), h 4 (by omega), h 5 (by omega), h 6 (by omega), h 7 (by omega)]
theorem idx8 {k : Nat} (h : k < 8) : idxD 8 (.int .i64 (k : Int)) = some k := by
  simp only [idxD]; rw [if_pos ⟨by omega, by omega⟩]; simp

def ord17 (n : Nat) (f g : Nat → Nat) : List D := .int .i64 (n : Int) :: (row8 f ++ row8 g)
theorem ord17_up (n : Nat) (f g : Nat → Nat) : ∀ k, k < 8 → (ord17 n f g)[1 + k * 1]? = some (.int .u8 (f k : Nat))
  | 0, _ => rfl
  | 1, _ => rfl
  | 2, _ => rfl
  | 3, _ => rfl
  | 4, _ => rfl
  | 5, _ => rfl
  | 6, _ => rfl
  | 7, _ => rfl
  | k + 8, h => by omega
theorem ord17_down (n : Nat) (f g : Nat → Nat) : ∀ k, k < 8 → (ord17 n f g)[9 + k * 1]? = some (.int .u8 (g k : Nat))
  | 0, _ => rfl
  | 1, _ => rfl
  | 2, _ => rfl
  | 3, _ => rfl
  | 4, _ => rfl
  | 5, _ => rfl
  | 6, _ => rfl
  | 7, _ => rfl
  | k + 8, h => by omega
theorem ord17_setup (n : Nat) (f g : Nat → Nat) (v : Nat) : ∀ k, k < 8 → setQ (ord17 n f g) (1 + k * 1) [.int .u8 (v : Int)] = ord17 n (upd f k v) g
  | 0, _ => rfl
  | 1, _ => rfl
  | 2, _ => rfl
  | 3, _ => rfl
  | 4, _ => rfl
  | 5, _ => rfl
  | 6, _ => rfl
  | 7, _ => rfl
  | k + 8, h => by omega
theorem ord17_setdown (n : Nat) (f g : Nat → Nat) (v : Nat) : ∀ k, k < 8 → setQ (ord17 n f g) (9 + k * 1) [.int .u8 (v : Int)] = ord17 n f (upd g k v)
  | 0, _ => rfl
  | 1, _ => rfl
  | 2, _ => rfl
  | 3, _ => rfl
  | 4, _ => rfl
  | 5, _ => rfl
  | 6, _ => rfl
  | 7, _ => rfl
  | k + 8, h => by omega
end Iv
