/- What a call is handed, read as data: values of the layer. Conditions: none. -/
import Derived.Test.YtokalomjnmgdpaaGreatDoorCH
import Derived.ChangeArms
import Derived.OpenShut
import Derived.ReadAgain
import Derived.ChangeCalls
import Derived.RowKit
import Derived.WalkKit
import Derived.ProofKit
set_option linter.unusedVariables false
set_option linter.unusedSimpArgs false
namespace Zv
open Go

mutual
/-- Nothing of our own is reached, however deep one looks. -/
def D.dp : D → Bool
  | .agg cs => D.dps cs
  | .tup cs => D.dps cs
  | .sl _ _ cs => D.dps cs
  | .iptr cs _ => D.dps cs
  | .ms .. => false
  | .gs .. => false
  | .ptr .. => false
  | .it .. => false
  | .iface _ d => D.dp d
  | .fn _ a b => D.dps a && D.dps b
  | _ => true
def D.dps : List D → Bool
  | [] => true
  | d :: r => D.dp d && D.dps r
end

inductive TY where
  | bool
  | int (k : IntKind)
  | str
  | sl (l : List TY)

/-- The cells of a struct's fields, one behind the other. -/
def tyFs (P : Program) (g : TypeId → Option (List TY)) : List Field → Nat → Option (List TY)
  | [], _ => some []
  | f :: r, off => if f.offset = off then
      (g f.type).bind fun l => if l.length = P.cellsOf f.type then (tyFs P g r (off + l.length)).map (l ++ ·) else none
    else none

def tyOf (P : Program) : Nat → TypeId → Option (List TY)
  | 0, _ => none
  | n + 1, t => match P.underlying t with
    | some .bool => some [.bool]
    | some (.int k) => some [.int k]
    | some .string => some [.str]
    | some (.slice e) => (tyOf P n e).bind fun l => if l.length = P.cellsOf e ∧ 0 < l.length then some [.sl l] else none
    | some (.struct fs) => (tyFs P (tyOf P n) fs.toList 0).bind fun l => if l.length = P.cellsOf t then some l else none
    | some (.array m e) => (tyOf P n e).bind fun l => if l.length = P.cellsOf e ∧ m * l.length = P.cellsOf t then some (List.replicate m l).flatten else none
    | _ => none

mutual
def TY.ok : TY → D → Prop
  | .bool, d => ∃ b, d = .bool b
  | .int k, d => ∃ n, d = .int k n ∧ k.min ≤ n ∧ n ≤ k.max
  | .str, d => ∃ s, d = .str s ∧ s.length ≤ maxLen
  | .sl l, d => d = .nils ∨ ∃ rows : List (List D), d = .sl false rows.length rows.flatten ∧ rows.length ≤ maxLen ∧ ∀ r ∈ rows, TY.oks l r
def TY.oks : List TY → List D → Prop
  | [], ds => ds = []
  | t :: ts, ds => ∃ d r, ds = d :: r ∧ TY.ok t d ∧ TY.oks ts r
end

theorem TY.oks_length : ∀ {l : List TY} {ds : List D}, TY.oks l ds → ds.length = l.length
  | [], ds, h => by simp only [TY.oks] at h; simp [h]
  | t :: ts, ds, h => by
    simp only [TY.oks] at h
    obtain ⟨d, r, rfl, _, h⟩ := h
    simp [TY.oks_length h]

theorem TY.oks_append : ∀ {l l' : List TY} {ds ds' : List D}, TY.oks l ds → TY.oks l' ds' → TY.oks (l ++ l') (ds ++ ds')
  | [], l', ds, ds', h, h' => by simp only [TY.oks] at h; simpa [h] using h'
  | t :: ts, l', ds, ds', h, h' => by
    simp only [TY.oks] at h
    obtain ⟨d, r, rfl, hd, h⟩ := h
    simp only [List.cons_append, TY.oks]
    exact ⟨d, _, rfl, hd, TY.oks_append h h'⟩

def NoM : Nat → Prop := fun _ => False

section
variable {H : Type} {enc : TypeId × Value → H} {P : Program} {w : World} {base : Nat} {spare : Nat → Bool} {held : Bool}

theorem VRels.nth {M : Nat → Prop} {μ : Mu} : ∀ {ds : List D} {vs : List Value} (i : Nat) (d : D), VRels M w μ ds vs → ds[i]? = some d → ∃ v, vs[i]? = some v ∧ VRel M w μ d v
  | [], vs, i, d, h, hd => by simp at hd
  | e :: ds, vs, i, d, h, hd => by
    simp only [VRels] at h
    obtain ⟨v, r, rfl, hv, h⟩ := h
    cases i with
    | zero => simp at hd; subst hd; exact ⟨v, rfl, hv⟩
    | succ i => simpa using VRels.nth i d h (by simpa using hd)

theorem dps_append : ∀ {a b : List D}, D.dps a = true → D.dps b = true → D.dps (a ++ b) = true
  | [], b, _, h => h
  | d :: a, b, h, h' => by
    simp only [D.dps, List.cons_append, Bool.and_eq_true] at h ⊢
    exact ⟨h.1, dps_append h.2 h'⟩

mutual
/-- What a datum is to the layer. -/
def dOf {H : Type} : DataW H → List D
  | .lit (.bool b) => [.bool b]
  | .lit (.int k n) => [.int k n]
  | .lit (.string s) => [.str s]
  | .slice xs _ => [.sl false xs.length (dOfs xs)]
  | .agg xs => dOfs xs
  | _ => [.nils]
def dOfs {H : Type} : List (DataW H) → List D
  | [] => []
  | x :: r => dOf x ++ dOfs r
end

/-- A run of cells that reads as these types. -/
def Reads (w : World) (l : List TY) (cs : List Value) (ds : List D) : Prop := VRels NoM w mu0 ds cs ∧ D.dps ds = true ∧ TY.oks l ds

theorem Reads.append {l l' : List TY} {cs cs' : List Value} {ds ds' : List D} (h : Reads w l cs ds) (h' : Reads w l' cs' ds') : Reads w (l ++ l') (cs ++ cs') (ds ++ ds') :=
  ⟨VRels.append h.1 h'.1, dps_append h.2.1 h'.2.1, TY.oks_append h.2.2 h'.2.2⟩

theorem Reads.nil : Reads w [] [] [] := ⟨by simp [VRels], rfl, by simp [TY.oks]⟩

theorem reads_fs {g : TypeId → Option (List TY)} {cs : List Value} : ∀ (fs : List Field) (xs : List (DataW H × List MemPlace)) (off : Nat) (L : List TY), tyFs P g fs off = some L → xs.length = fs.length →
    (∀ (i : Nat) f y, fs[i]? = some f → xs[i]? = some y → ∀ l, g f.type = some l → Reads w l ((cs.drop f.offset).take (P.cellsOf f.type)) (dOf y.1)) → Reads w L ((cs.drop off).take L.length) (dOfs (xs.map (·.1)))
  | [], xs, off, L, h, hl, hh => by
    simp only [tyFs, Option.some.injEq] at h
    subst h
    obtain rfl : xs = [] := List.eq_nil_of_length_eq_zero hl
    simpa [dOfs] using Reads.nil
  | f :: r, [], off, L, h, hl, hh => by simp at hl
  | f :: r, x :: xs, off, L, h, hlx, hh => by
    simp only [tyFs] at h
    split at h
    · rename_i ho
      simp only [Option.bind_eq_some_iff] at h
      obtain ⟨l, hl, h⟩ := h
      split at h
      · rename_i hc
        simp only [Option.map_eq_some_iff] at h
        obtain ⟨L', h', rfl⟩ := h
        have h1 := hh 0 f x rfl rfl l hl
        have h2 := reads_fs r xs _ L' h' (by simpa using hlx) (fun i f y hf hy => hh (i + 1) f y (by simpa using hf) (by simpa using hy))
        rw [← hc, ho] at h1
        have := h1.append h2
        rw [List.length_append, List.take_add, List.drop_drop]
        simpa [dOfs] using this
      · cases h
    · cases h

theorem reads_rep {l : List TY} {cs : List Value} : ∀ (m off : Nat) (xs : List (DataW H × List MemPlace)), xs.length = m → (∀ (i : Nat) y, xs[i]? = some y → Reads w l ((cs.drop (off + i * l.length)).take l.length) (dOf y.1)) →
    Reads w (List.replicate m l).flatten ((cs.drop off).take (m * l.length)) (dOfs (xs.map (·.1)))
  | 0, off, xs, hl, hh => by
    obtain rfl : xs = [] := List.eq_nil_of_length_eq_zero hl
    simpa [dOfs] using Reads.nil
  | m + 1, off, [], hl, hh => by simp at hl
  | m + 1, off, x :: xs, hl, hh => by
    have h1 := hh 0 x rfl
    have h2 := reads_rep (l := l) (cs := cs) m (off + l.length) xs (by simpa using hl) (fun i y hi => by
      have := hh (i + 1) y (by simpa using hi)
      rwa [Nat.add_mul, Nat.one_mul, Nat.add_comm (i * l.length), ← Nat.add_assoc] at this)
    rw [Nat.zero_mul, Nat.add_zero] at h1
    have := h1.append h2
    rw [List.replicate_succ, List.flatten_cons, Nat.add_mul, Nat.one_mul, Nat.add_comm (m * l.length), List.take_add, List.drop_drop]
    simpa [dOfs] using this

theorem dOfs_rows : ∀ (xs : List (DataW H × List MemPlace)), dOfs (xs.map (·.1)) = (xs.map fun y => dOf y.1).flatten
  | [] => rfl
  | x :: xs => by simp [dOfs, dOfs_rows xs]

theorem CRel.append {M : Nat → Prop} {b : Nat} : ∀ {ds ds' : List D} {o : Nat}, CRel M w b o ds → CRel M w b (o + ds.length) ds' → CRel M w b o (ds ++ ds')
  | [], ds', o, h, h' => by simpa using h'
  | d :: ds, ds', o, h, h' => by
    simp only [CRel, List.cons_append] at h ⊢
    refine ⟨h.1, CRel.append h.2 ?_⟩
    rwa [List.length_cons, Nat.add_comm ds.length, ← Nat.add_assoc] at h'

theorem CRel.rows {M : Nat → Prop} {b c : Nat} : ∀ {rows : List (List D)} {o : Nat}, (∀ (i : Nat) (r : List D), rows[i]? = some r → r.length = c ∧ CRel M w b (o + i * c) r) → CRel M w b o rows.flatten
  | [], o, h => by simp [CRel]
  | r :: rows, o, h => by
    rw [List.flatten_cons]
    obtain ⟨h1, h2⟩ := h 0 r rfl
    rw [Nat.zero_mul, Nat.add_zero] at h2
    refine CRel.append h2 (CRel.rows (c := c) fun i r' hr => ?_)
    obtain ⟨h3, h4⟩ := h (i + 1) r' (by simpa using hr)
    rw [h1]
    rw [Nat.add_mul, Nat.one_mul, Nat.add_comm (i * c), ← Nat.add_assoc] at h4
    exact ⟨h3, h4⟩

theorem rows_of {α : Type} {Q : Nat → α → Prop} : ∀ n, (∀ i, i < n → ∃ r, Q i r) → ∃ rows : List α, rows.length = n ∧ ∀ i r, rows[i]? = some r → Q i r
  | 0, _ => ⟨[], rfl, fun i r h => by simp at h⟩
  | n + 1, h => by
    obtain ⟨rows, h1, h2⟩ := rows_of n (fun i hi => h i (by omega))
    obtain ⟨r, hr⟩ := h n (by omega)
    refine ⟨rows ++ [r], by simp [h1], fun i r' hi => ?_⟩
    rw [List.getElem?_append] at hi
    split at hi
    · exact h2 i r' hi
    · rename_i hlt
      have : i - rows.length = 0 := by
        rcases Nat.eq_zero_or_pos (i - rows.length) with e | e
        · exact e
        · rw [List.getElem?_eq_none (by simp; omega)] at hi; cases hi
      rw [this] at hi
      simp at hi
      subst hi
      obtain rfl : i = n := by omega
      exact hr

theorem dps_flatten : ∀ {rows : List (List D)}, (∀ r ∈ rows, D.dps r = true) → D.dps rows.flatten = true
  | [], _ => rfl
  | r :: rows, h => by
    rw [List.flatten_cons]
    exact dps_append (h r (by simp)) (dps_flatten fun r hr => h r (by simp [hr]))

theorem cell_spot {a : Addr} {v : Value} (h : w.cell? a = some v) : a.spot = none ∧ a.block < w.heap.size := by
  unfold World.cell? at h
  split at h
  · rename_i c _ _ he
    by_cases hs : a.spot.isSome = true
    · simp [hs] at h
    · exact ⟨by simpa using hs, (Array.getElem?_eq_some_iff.1 he).1⟩
  · cases h

theorem cells_crel {b o n : Nat} {vs : List Value} {ds : List D} (h : w.cells? base ⟨b, o, none⟩ n = some vs) (hv : VRels NoM w mu0 ds vs) : CRel NoM w b o ds := by
  unfold World.cells? at h
  split at h
  · refine CRel.mk fun i d hd => ?_
    obtain ⟨v, h1, h2⟩ := VRels.nth i d hv hd
    have hn : i < n := by
      have := mapM_some_length h
      have := (List.getElem?_eq_some_iff.1 h1).1
      simp_all
    have h3 := mapM_some_get h i i (by simp [hn])
    rw [h1, Addr.add_lit] at h3
    exact ⟨v, h3, h2⟩
  · cases h

theorem cells_spot {a : Addr} {n : Nat} {vs : List Value} (h : w.cells? base a n = some vs) (hn : 0 < n) : a.spot = none ∧ a.block < w.heap.size := by
  unfold World.cells? at h
  split at h
  · have h3 := mapM_some_get h 0 0 (by simp [hn])
    obtain ⟨v, hv⟩ : ∃ v, vs[0]? = some v := by
      have := mapM_some_length h
      exact ⟨vs[0]'(by simp_all), by simp⟩
    rw [hv] at h3
    exact cell_spot h3
  · cases h

theorem cells_length {a : Addr} {n : Nat} {vs : List Value} (h : w.cells? base a n = some vs) : vs.length = n := by
  unfold World.cells? at h
  split at h
  · simpa using mapM_some_length h
  · cases h

/-- What reads as data of a type that the layer knows, is a value of the layer. -/
theorem read_in : ∀ (m fuel : Nat) (t : TypeId) (l : List TY) (cs : List Value) (x : DataW H × List MemPlace), DataW.trod enc P w base spare held fuel t cs = some x → tyOf P m t = some l → Reads w l cs (dOf x.1)
  | 0, fuel, t, l, cs, x, h, ht => by simp [tyOf] at ht
  | m + 1, fuel, t, l, cs, x, h, ht => by
    unfold tyOf at ht
    split at ht
    · rename_i hu
      cases ht
      obtain ⟨b, rfl, rfl⟩ := DataW.trod_bool hu h
      exact ⟨by simp [dOf, VRels, VRel], rfl, by simp [dOf, TY.oks, TY.ok]⟩
    · rename_i k hu
      cases ht
      obtain ⟨n, rfl, rfl, hw⟩ := DataW.trod_int hu h
      simp only [Lit.wf, Bool.and_eq_true, decide_eq_true_eq] at hw
      exact ⟨by simp [dOf, VRels, VRel], rfl, by simp [dOf, TY.oks, TY.ok, hw]⟩
    · rename_i hu
      cases ht
      obtain ⟨s, rfl, rfl, hs⟩ := DataW.trod_string hu h
      exact ⟨by simp [dOf, VRels, VRel], rfl, by simpa [dOf, TY.oks, TY.ok] using hs⟩
    · rename_i e hu
      simp only [Option.bind_eq_some_iff] at ht
      obtain ⟨l', hl', ht⟩ := ht
      split at ht
      · rename_i hc
        cases ht
        rcases DataW.trod_slice hu h with ⟨rfl, rfl⟩ | ⟨a, len, cap, elems, rest, n, rfl, rfl, rfl, hb, hlc, hcm, hel, hi, _⟩
        · exact ⟨by simp [dOf, VRels, VRel], rfl, by simp [dOf, TY.oks, TY.ok]⟩
        · rcases Nat.eq_zero_or_pos len with e0 | e0
          · subst e0
            obtain rfl : elems = [] := List.eq_nil_of_length_eq_zero hel
            refine ⟨?_, rfl, ?_⟩
            · simp only [dOf, List.map_nil, dOfs, VRels, VRel]
              exact ⟨_, _, rfl, ⟨some a, cap, rfl, hlc, by simp, .inl rfl⟩, rfl⟩
            · simp only [dOf, TY.oks, TY.ok]
              exact ⟨_, _, rfl, .inr ⟨[], rfl, by simp, by simp⟩, rfl⟩
          · have hsp : a.spot = none ∧ a.block < w.heap.size := by
              have h1 := hi 0 e0
              obtain ⟨y, hy⟩ : ∃ y, elems[0]? = some y := ⟨elems[0]'(by omega), by simp⟩
              rw [hy, Option.bind_eq_some_iff] at h1
              obtain ⟨vs, hv, h1⟩ := h1
              rw [Nat.zero_mul] at hv
              exact cells_spot (a := a.add 0) hv (by omega)
            obtain ⟨ab, ao, asp⟩ := a
            simp only at hsp
            obtain ⟨rfl, hab⟩ := hsp
            have hr2 : ∀ (i : Nat) r, (elems.map fun y => dOf y.1)[i]? = some r → TY.oks l' r ∧ D.dps r = true ∧ CRel NoM w ab (ao + i * P.cellsOf e) r := fun i r hr => by
              rw [List.getElem?_map, Option.map_eq_some_iff] at hr
              obtain ⟨y, hy, rfl⟩ := hr
              have h1 := hi i (by rw [← hel]; exact (List.getElem?_eq_some_iff.1 hy).1)
              rw [hy, Option.bind_eq_some_iff] at h1
              obtain ⟨vs, hv, h1⟩ := h1
              obtain ⟨hd1, hd2, hd3⟩ := read_in m n e l' vs y h1 hl'
              rw [Addr.add_lit] at hv
              exact ⟨hd3, hd2, cells_crel hv hd1⟩
            simp only [dOf, dOfs_rows, List.length_map]
            refine ⟨?_, ?_, ?_⟩
            · simp only [VRels, VRel]
              refine ⟨_, _, rfl, ⟨_, cap, by rw [hel], by omega, by simp, .inr ⟨ab, ao, rfl, id, hab, CRel.rows (c := P.cellsOf e) fun i r hir => ?_⟩⟩, rfl⟩
              obtain ⟨h1, _, h5⟩ := hr2 i r hir
              exact ⟨by rw [TY.oks_length h1]; exact hc.1, h5⟩
            · simp only [D.dps, D.dp, Bool.and_true]
              refine dps_flatten fun r hr => ?_
              obtain ⟨i, hi⟩ := List.mem_iff_getElem?.1 hr
              exact (hr2 i r hi).2.1
            · simp only [TY.oks, TY.ok]
              refine ⟨_, _, rfl, .inr ⟨elems.map fun y => dOf y.1, by simp, by simp; omega, fun r hr => ?_⟩, rfl⟩
              obtain ⟨i, hi⟩ := List.mem_iff_getElem?.1 hr
              exact (hr2 i r hi).1
      · cases ht
    · rename_i fs hu
      simp only [Option.bind_eq_some_iff] at ht
      obtain ⟨L, hL, ht⟩ := ht
      split at ht
      · rename_i hc
        cases ht
        obtain ⟨xs, n, rfl, rfl, hlen, hxl, hf⟩ := DataW.trod_struct hu h
        have := reads_fs (w := w) (P := P) (g := tyOf P m) (cs := cs) fs.toList xs 0 l hL (by simpa using hxl) (fun i f y hfm hy l' hl' => by
          have h1 := hf i f (by simpa using hfm)
          rw [hy] at h1
          exact read_in m n f.type l' _ y h1 hl')
        rw [List.drop_zero, List.take_of_length_le (by omega)] at this
        simpa [dOf] using this
      · cases ht
    · rename_i k e hu
      simp only [Option.bind_eq_some_iff] at ht
      obtain ⟨l', hl', ht⟩ := ht
      split at ht
      · rename_i hc
        cases ht
        obtain ⟨xs, n, rfl, rfl, hlen, hxl, hf⟩ := DataW.trod_array hu h
        have := reads_rep (w := w) (l := l') (cs := cs) k 0 xs hxl (fun i y hy => by
          have h1 := hf i (by have := (List.getElem?_eq_some_iff.1 hy).1; omega)
          rw [hy] at h1
          rw [Nat.zero_add, hc.1]
          exact read_in m n e l' _ y h1 hl')
        rw [List.drop_zero, List.take_of_length_le (by omega)] at this
        simpa [dOf] using this
      · cases ht
    · cases ht
end
end Zv
/- From what a function comes to on values of the layer, to what a row says of it: the arguments are read as values of the layer; the function leaves all as it was. Conditions: none. -/
set_option linter.unusedVariables false
set_option linter.unusedSimpArgs false
namespace Zv
open Go Go.ChangeShapes Go.WideShapes Go.ChangeAt Go.RowKit

/-- What a parameter's type is to the layer: is it an aggregate, and its cells. -/
def argsOf (P : Program) (n : Nat) : List TypeId → Option (List (Bool × List TY))
  | [] => some []
  | t :: ts => (tyOf P n t).bind fun l => (argsOf P n ts).map fun r => ((match P.underlying t with | some (.struct _) | some (.array _ _) => true | _ => false), l) :: r

def AOk (a : Bool × List TY) (d : D) : Prop := match a.1 with
  | true => ∃ ds, d = .agg ds ∧ TY.oks a.2 ds
  | false => TY.oks a.2 [d]

def AOks : List (Bool × List TY) → List D → Prop
  | [], ds => ds = []
  | a :: r, ds => ∃ d ds', ds = d :: ds' ∧ AOk a d ∧ AOks r ds'

section
variable {H : Type} {enc : TypeId × Value → H} {P : Program} {w w' : World} {base : Nat} {spare : Nat → Bool} {held : Bool}

theorem not_agg {r : Reach} {b0 : Nat} {t : TypeId} {m : Nat} {l : List TY} {v : Value} (ht : tyOf P m t = some l)
    (hn : (match P.underlying t with | some (.struct _) | some (.array _ _) => true | _ => false) = false) (hv : Value.okWide P w r b0 t v) : v.cells = #[v] := by
  cases v <;> try rfl
  exfalso
  cases m with
  | zero => simp [tyOf] at ht
  | succ m =>
    unfold tyOf at ht
    unfold Value.okWide Cell.okWide Cell.ok at hv
    split at ht <;> simp_all

theorem args_in {r : Reach} {b0 : Nat} {n : Nat} : ∀ {ts : List TypeId} {L : List (Bool × List TY)} {vs : List Value} {ds : List (DataW H)} {ps : List MemPlace}, argsOf P n ts = some L →
    DataW.TrodAll enc P w base spare held ts vs ds ps → (∀ (j : Nat) t v, ts[j]? = some t → vs[j]? = some v → Value.okWide P w r b0 t v) →
    ∃ as, VRels NoM w mu0 as vs ∧ D.dps as = true ∧ AOks L as
  | [], L, vs, ds, ps, ht, h, hv => by
    obtain ⟨rfl, _, _⟩ := trodAll_nil h
    simp only [argsOf, Option.some.injEq] at ht
    subst ht
    exact ⟨[], by simp [VRels], rfl, by simp [AOks]⟩
  | t :: ts, L, vs, ds, ps, ht, h, hv => by
    obtain ⟨v, vs', d, ds', p, q, rfl, rfl, rfl, ⟨fuel, h1⟩, h2⟩ := trodAll_cons h
    simp only [argsOf, Option.bind_eq_some_iff, Option.map_eq_some_iff] at ht
    obtain ⟨l, hl, L', hL, rfl⟩ := ht
    obtain ⟨as, ha1, ha2, ha3⟩ := args_in hL h2 (fun j t v h3 h4 => hv (j + 1) t v (by simpa using h3) (by simpa using h4))
    obtain ⟨cs, hc1, hc2, hc3⟩ : ∃ cs, Reads w l v.cells.toList cs := ⟨_, read_in n fuel t l _ _ h1 hl⟩
    have hv0 := hv 0 t v rfl rfl
    cases hb : (match P.underlying t with | some (.struct _) | some (.array _ _) => true | _ => false) with
    | false =>
      rw [not_agg hl hb hv0] at hc1
      cases cs with
      | nil => simp [VRels] at hc1
      | cons c cs =>
        simp only [VRels] at hc1
        obtain ⟨v', r', he, hc, hr⟩ := hc1
        cases he
        cases cs with
        | cons _ _ => simp [VRels] at hr
        | nil =>
          simp only [D.dps, Bool.and_true] at hc2
          refine ⟨c :: as, by simp only [VRels]; exact ⟨_, _, rfl, hc, ha1⟩, by simp [D.dps, hc2, ha2], ?_⟩
          simp only [AOks]
          exact ⟨_, _, rfl, by simpa [AOk] using hc3, ha3⟩
    | true =>
      have hag : ∃ xs, v = .agg xs := by
        unfold Value.okWide at hv0
        split at hb
        · rename_i e; rw [e] at hv0; obtain ⟨xs, e', _⟩ := hv0; exact ⟨xs, e'⟩
        · rename_i e; rw [e] at hv0; obtain ⟨xs, e', _⟩ := hv0; exact ⟨xs, e'⟩
        · cases hb
      obtain ⟨xs, rfl⟩ := hag
      simp only [Value.cells] at hc1
      refine ⟨.agg cs :: as, ?_, by simp [D.dps, D.dp, hc2, ha2], ?_⟩
      · simp only [VRels, VRel]
        exact ⟨_, _, rfl, ⟨_, rfl, hc1⟩, ha1⟩
      · simp only [AOks]
        exact ⟨_, _, rfl, by simpa [AOk] using hc3, ha3⟩

/-- What a list of package-level variables says of one of them. -/
theorem glob_of {m : Nat} {n : String} {d : DataW Unit} {g : Nat} {t : TypeId} {l : List TY} (hg : P.globalNamed n = some g) (ht : (P.globals[g]?).map (·.type) = some t) (hl : tyOf P m t = some l) :
    ∀ {laid : List (String × DataW Unit)} {ps : List MemPlace}, DataW.LaidVars P w laid ps → (n, d) ∈ laid → g < w.heap.size ∧ CRel NoM w g 0 (dOf d)
  | [], ps, h, hm => by cases hm
  | (n', d') :: r, ps, h, hm => by
    obtain ⟨g', t', cs, fuel, p, q, h1, h2, h3, h4, h5, _⟩ := h
    rcases List.mem_cons.1 hm with e | hm
    · cases e
      rw [hg] at h1; cases h1
      rw [ht] at h2; cases h2
      have hr := (read_in m fuel t l _ _ h4 hl).1
      simp only [World.var?, hg, Option.bind_some] at h3
      split at h3
      · rename_i e
        cases h3
        refine ⟨(Array.getElem?_eq_some_iff.1 e).1, CRel.mk fun i d hd => ?_⟩
        obtain ⟨v, hv, hvr⟩ := VRels.nth i d hr hd
        refine ⟨v, ?_, hvr⟩
        simp only [World.cell?, e]
        simpa using hv
      · cases h3
    · exact glob_of hg ht hl h5 hm

theorem laid_of {laid : List (String × DataW Unit)} (hf : (laid.filter fun x => x.2.handleName?.isSome) = []) (h : laidMetH P laid w) : ∃ ps, DataW.LaidVars P w laid ps := by
  unfold laidMetH at h
  rw [hf] at h
  obtain ⟨ps, h, _⟩ := h
  exact ⟨ps, h⟩

theorem trodAll_carry : ∀ {ts : List TypeId} {vs : List Value} {ds : List (DataW H)} {ps : List MemPlace}, DataW.TrodAll enc P w base spare held ts vs ds ps →
    (∀ p ∈ ps, w.sameAt w' p) → DataW.TrodAll enc P w' base spare held ts vs ds ps
  | [], vs, ds, ps, h, hs => by
    obtain ⟨rfl, rfl, rfl⟩ := trodAll_nil h
    exact rfl
  | t :: ts, vs, ds, ps, h, hs => by
    obtain ⟨v, vs', d, ds', p, q, rfl, rfl, rfl, ⟨fuel, h1⟩, h2⟩ := trodAll_cons h
    exact trodAll_cons_mk ⟨fuel, DataW.trod_carry fuel _ _ _ h1 fun p hp => hs p (by simp at hp; simp [hp])⟩ (trodAll_carry h2 fun p hp => hs p (by simp [hp]))

theorem same_of {p : MemPlace} (hb : w'.heap[p.block]? = w.heap[p.block]?) : w.sameAt w' p := by
  cases p with
  | cell b o => simp only [MemPlace.block] at hb; simp only [World.sameAt, World.cell?, hb]
  | map b => exact hb

/-- A function that comes to 'true' and writes nothing that was there. -/
theorem row_true {E : Env} {f : FuncId} {fn : Func} {s : ChangeSpec} {W : World} {args : Array Value} {ds gs : List (DataW H)} {before : List MemPlace} {as : List D} {t : TypeId} {apart fresh again : Bool} {held' : Bool}
    (K : Kids E.P (· < E.P.types.size)) (hz : ∀ t e, t < E.P.types.size → E.P.underlying t = some (.slice e) → 0 < E.P.cellsOf e) (hT : ∀ t ∈ fn.params.toList, t < E.P.types.size)
    (hvars : s.vars = []) (hfn : ∀ (d0 : List (DataW H)), d0.length = fn.params.size → s.fn H d0 = { results := [.lit (.bool true)], args := d0 })
    (hres : fn.resultTypes = #[t]) (hu : E.P.underlying t = some .bool)
    (hW : DataW.Whole enc E.P fn.params.toList s.vars apart W args.toList ds gs before)
    (hp : PureC E f as (.bool true)) (hG : GRel E NoM W) (hv : VRels NoM W mu0 as args.toList) :
    Calls E.P f args W fun e W' => ∃ v, e = .returned v ∧ s.post enc E.P fn apart fresh held' again W args v W' := by
  have hp' := hp NoM W args.toList (fun b hb => hb.elim) hG hv
  refine hp'.mono ?_
  rintro e W' ⟨v, rfl, hr, hsz, henv, hold⟩
  simp only [VRel] at hr
  subst hr
  have hlt := hW.lt
  have hW0 := hW
  obtain ⟨p, q, hA, hV, hbe, hfz, hnd⟩ := hW
  rw [hvars] at hV
  obtain ⟨rfl, rfl⟩ := trodVars_none hV
  rw [List.append_nil] at hbe
  subst hbe
  have hlen := (trodAll_length hA).2
  simp only [Array.length_toList] at hlen
  have hspec := hfn (ds ++ []) (by simpa using hlen)
  have hsame : ∀ p ∈ before, W.sameAt W' p := fun p hp => same_of (hold _ (hlt p hp))
  have hA' := trodAll_carry hA hsame
  have hAs : ∀ sp : Nat → Bool, (∀ p ∈ before, sp p.block = true) → DataW.TrodAll enc E.P W' 0 sp true fn.params.toList args.toList ds before :=
    fun sp hsp => DataW.TrodAll.respare K hz hT hA' hsp
  have hbool : ∀ (b : Nat) (sp : Nat → Bool) (hd : Bool), DataW.TrodAll enc E.P W' b sp hd fn.resultTypes.toList ((Value.bool true).resultList fn.resultTypes.size) [.lit (.bool true)] [] := fun b sp hd => by
    rw [hres]
    exact trodAll_mk1 (shut_bool hu true)
  refine ⟨_, rfl, ds, [], before, [], before, [], hW0, ?_, ?_, ?_, ?_, ?_⟩
  · rw [hspec]; exact hbool _ _ _
  · rw [hspec, List.append_nil]; exact hAs _ fun p hp => by simpa using hlt p hp
  · rw [hspec, hvars]; exact rfl
  · refine ⟨henv.1, henv.2, fun i hi => ?_⟩
    rw [hold i hi]
    rcases hx : W.heap[i]? with _ | o
    · rfl
    · cases o <;> simp
  · intro _
    refine ⟨ok_one hres rfl (okWide_bool_mk hu true), [.lit (.bool true)] ++ ds, [], [] ++ before, ⟨[] ++ before, [], trodAll_append (hAs _ fun _ _ => rfl) (hbool _ _ _), ?_, by simp, ?_, ?_⟩, ?_⟩
    · rw [hvars]; exact rfl
    · intro b off hb
      have hb' : MemPlace.cell b off ∈ before := by simpa using hb
      have := hfz b off hb'
      simp only [World.frozen?, hold b (hlt _ hb')] at this ⊢
      exact this
    · intro ha; simpa using hnd ha
    · intro p hp _; simpa using hp
end
end Zv
