/- The operations of the model do what the abstract ones say: appends, copies, strings and bytes. Conditions: none. -/
import Derived.Test.YtegkflfbpidipaaGreatDoorCC
import Derived.Laws.Externs
import Derived.Lib.Bytealg
import Derived.Lib.AppendZeros
import Derived.Lib.Builder
import Derived.Lib.UnsafeStr
import Derived.Lib.MakeNoZero
set_option linter.unusedSimpArgs false
set_option linter.unusedVariables false
namespace Zv
open Go

section
variable {E : Env} {M0 : Nat → Prop} {w0 : World} {N : Nat} {μ : Mu} {M : Nat → Prop} {a : Act} {w : World} {x : AS}

theorem run_loadCells_rel {P : Program} {b o : Nat} {cs : List D} (hc : ∀ (i : Nat) (e : D), cs[i]? = some e → ∃ v', w.cell? ⟨b, o + i, none⟩ = some v' ∧ VRel M w μ e v') (n : Nat) (hn : n ≤ cs.length) :
    ∃ arr : Array Value, (loadCells ⟨b, o, none⟩ n).run P w = .ok arr w ∧ VRels M w μ (cs.take n) arr.toList := by
  have hall : ∀ j, j < n → ∃ v', w.cell? ⟨b, o + j, none⟩ = some v' ∧ ∀ e, cs[j]? = some e → VRel M w μ e v' := by
    intro j hj
    obtain ⟨v', hv', hr⟩ := hc j cs[j] (List.getElem?_eq_getElem (by omega))
    refine ⟨v', hv', fun e he => ?_⟩
    rw [List.getElem?_eq_getElem (by omega)] at he; cases he; exact hr
  let f : Nat → Value := fun j => (w.cell? ⟨b, o + j, none⟩).getD undef
  have hrun := run_loadCells (P := P) w ⟨b, o, none⟩ n f (fun j hj => by
    obtain ⟨v', hv', _⟩ := hall j hj
    rw [Addr.add_lit, hv']; simp [f, hv'])
  refine ⟨_, hrun, VRels.mk (by simp; omega) fun j e v he hv => ?_⟩
  simp only [List.getElem?_map, Option.map_eq_some_iff] at hv
  obtain ⟨k, hk, rfl⟩ := hv
  have hk' : k = j ∧ j < n := by
    rw [List.getElem?_eq_some_iff] at hk
    obtain ⟨h3, h4⟩ := hk
    simp at h3 h4
    exact ⟨h4.symm, h3⟩
  obtain ⟨rfl, hj⟩ := hk'
  obtain ⟨v', hv', hr⟩ := hall k hj
  have : f k = v' := by simp [f, hv']
  rw [this]
  refine hr e ?_
  rw [List.getElem?_take, if_pos hj] at he
  exact he

theorem blk_at (h : Rel E M0 w0 N μ M a w x) {nm : Nat} {blk : Blk} {cs : List D} (hs : sget x.s nm = some blk) (hb : blkCells blk = some cs) {l : Loc} (hl : μ nm = some l) {b : Nat} (hlb : l.blk = some b) (off : Nat) :
    ∀ (i : Nat) (e : D), (cs.drop off)[i]? = some e → ∃ v', w.cell? ⟨b, off + i, none⟩ = some v' ∧ VRel M w μ e v' := by
  obtain ⟨l', h1, h2, h3⟩ := blk_cells h hl hs hb
  rw [hl] at h1; cases h1
  obtain ⟨_, _, vs, e, fz, h6, h7, h8, h9, h10⟩ := h3 b hlb
  intro i d hi
  rw [List.getElem?_drop] at hi
  obtain ⟨v', hv', hr⟩ := VRels.get _ d h10 hi
  rw [List.getElem?_take] at hv'
  split at hv'
  · exact ⟨v', cell_in h6 hv', hr⟩
  · cases hv'

theorem firstCells_nil {P : Program} {sz n : Nat} {ad : Option Addr} {len cap : Nat} (h0 : n * sz = 0) (w : World) : (Builtin.firstCells sz n (.slice ad len cap)).run P w = .ok #[] w := by
  cases ad <;> simp [Builtin.firstCells, loadCells, loadCellsFrom, h0]

/-- What an operand brings along: its cells, the first ones of them too. -/
theorem src_rel (h : Rel E M0 w0 N μ M a w x) {sz : Nat} {d : D} {cs : List D} {n : Nat} {v : Value} (hs : sliceCells x.s sz d = some (cs, n)) (hv : VRel M w μ d v) (P : Program) :
    (Builtin.lenOf v).run P w = .ok n w ∧ cs.length = n * sz ∧ ∀ k, k ≤ n → ∃ arr : Array Value, (Builtin.firstCells sz k v).run P w = .ok arr w ∧ VRels M w μ (cs.take (k * sz)) arr.toList := by
  cases d <;> simp only [sliceCells, Option.some.injEq, Prod.mk.injEq, reduceCtorEq] at hs
  · rename_i s
    cases hz : Nat.beq sz 1 <;> rw [hz] at hs
    · cases hs
    have hz' := Nat.eq_of_beq_eq_true hz
    subst hz'
    simp only [cond_true, Option.some.injEq, Prod.mk.injEq] at hs
    obtain ⟨rfl, rfl⟩ := hs
    simp only [VRel] at hv; subst hv
    refine ⟨by simp [Builtin.lenOf]; rfl, by simp [bytesOf], fun k hk => ⟨_, rfl, ?_⟩⟩
    refine VRels.mk ?_ fun i d v hd hv => ?_
    · simp [bytesOf, ByteArray.size, ByteArray.data_extract, Array.size_extract]
    · simp only [bytesOf, Nat.mul_one] at hd
      rw [List.getElem?_take] at hd
      split at hd
      · rename_i hik
        simp only [List.getElem?_map, Option.map_eq_some_iff] at hd
        obtain ⟨b, hb, rfl⟩ := hd
        have : v = .int .u8 b.toNat := by
          simp [ByteArray.data_extract, Array.toList_extract, List.extract_eq_take_drop, List.getElem?_take, hik, hb] at hv
          exact hv.symm
        rw [this]; simp only [VRel]
      · cases hd
  · obtain ⟨rfl, rfl⟩ := hs
    simp only [VRel] at hv; subst hv
    refine ⟨by simp [Builtin.lenOf], by simp, fun k hk => ?_⟩
    have hk0 : k = 0 := by omega
    subst hk0
    exact ⟨#[], firstCells_nil (by simp) w, by simp; exact VRels.nil⟩
  · rename_i ex len c
    cases hle : Nat.ble (len * sz) c.length <;> rw [hle] at hs
    · cases hs
    have hle' := Nat.le_of_ble_eq_true hle
    simp only [cond_true, Option.some.injEq, Prod.mk.injEq] at hs
    obtain ⟨rfl, rfl⟩ := hs
    simp only [VRel] at hv
    obtain ⟨ad, cap, rfl, h1, h2, h3⟩ := hv
    refine ⟨by simp [Builtin.lenOf], by simp; omega, fun k hk => ?_⟩
    by_cases h0 : k * sz = 0
    · exact ⟨#[], firstCells_nil h0 w, by rw [h0]; simp; exact VRels.nil⟩
    rcases h3 with h3 | ⟨b, o, rfl, h4, h5, h6⟩
    · have : k = 0 := by omega
      subst this; simp at h0
    have hkl : k * sz ≤ len * sz := Nat.mul_le_mul_right _ hk
    obtain ⟨arr, hrun, hr⟩ := run_loadCells_rel (P := P) (M := M) (μ := μ) (cs := c) (b := b) (o := o) (w := w) (fun i e hi => by
      obtain ⟨v', hv', hr⟩ := CRel.get i e h6 hi
      exact ⟨v', hv', VRel.mono (Ext.refl M w) e v' (mu0_le μ) hr⟩) (k * sz) (by omega)
    refine ⟨arr, by simpa [Builtin.firstCells] using hrun, ?_⟩
    rw [List.take_take, Nat.min_eq_left hkl]
    exact hr
  · rename_i nm off z len cap
    simp only [Option.bind_eq_bind, Option.bind_eq_some_iff] at hs
    obtain ⟨blk, hg, c, hb, hs⟩ := hs
    cases hle : (Nat.beq z sz && Nat.ble (off + len * sz) c.length) <;> rw [hle] at hs
    · cases hs
    simp only [Bool.and_eq_true] at hle
    have hz' := Nat.eq_of_beq_eq_true hle.1
    have hle' := Nat.le_of_ble_eq_true hle.2
    subst hz'
    simp only [cond_true, Option.some.injEq, Prod.mk.injEq] at hs
    obtain ⟨rfl, rfl⟩ := hs
    simp only [VRel] at hv
    obtain ⟨l, b, h1, h2, rfl, h3, h4⟩ := hv
    refine ⟨by simp [Builtin.lenOf], by simp; omega, fun k hk => ?_⟩
    have hkl : k * z ≤ len * z := Nat.mul_le_mul_right _ hk
    obtain ⟨arr, hrun, hr⟩ := run_loadCells_rel (P := P) (cs := c.drop off) (blk_at h hg hb h1 h2 off) (k * z) (by simp; omega)
    refine ⟨arr, by simpa [Builtin.firstCells] using hrun, ?_⟩
    rw [List.take_take, Nat.min_eq_left hkl]
    exact hr
  · rename_i nm off z len
    simp only [Option.bind_eq_bind, Option.bind_eq_some_iff] at hs
    obtain ⟨blk, hg, c, hb, hs⟩ := hs
    cases hle : (Nat.beq z sz && Nat.ble (off + len * sz) c.length) <;> rw [hle] at hs
    · cases hs
    simp only [Bool.and_eq_true] at hle
    have hz' := Nat.eq_of_beq_eq_true hle.1
    have hle' := Nat.le_of_ble_eq_true hle.2
    subst hz'
    simp only [cond_true, Option.some.injEq, Prod.mk.injEq] at hs
    obtain ⟨rfl, rfl⟩ := hs
    simp only [VRel] at hv
    obtain ⟨⟨lb, lc⟩, cap, h1, rfl, h3, h4, h5⟩ := hv
    refine ⟨by simp [Builtin.lenOf], by simp; omega, fun k hk => ?_⟩
    have hkl : k * z ≤ len * z := Nat.mul_le_mul_right _ hk
    cases lb with
    | none =>
      have : cap = 0 := h5 rfl
      have : k = 0 := by omega
      subst this
      exact ⟨#[], firstCells_nil (by simp) w, by simp; exact VRels.nil⟩
    | some b =>
      obtain ⟨arr, hrun, hr⟩ := run_loadCells_rel (P := P) (cs := c.drop off) (blk_at h hg hb h1 rfl off) (k * z) (by simp; omega)
      refine ⟨arr, by simpa [Builtin.firstCells] using hrun, ?_⟩
      rw [List.take_take, Nat.min_eq_left hkl]
      exact hr

theorem growBy_le (need : Nat) : ∀ (r c : Nat), c ≤ 2 * need + 768 → Builtin.growBy need r c ≤ 2 * need + 768
  | 0, c, h => by simpa [Builtin.growBy] using h
  | r + 1, c, h => by
    simp only [Builtin.growBy]
    split
    · exact h
    · exact growBy_le need r _ (by omega)

theorem nextslicecap_le {need cap : Nat} (h : cap < need) : Builtin.nextslicecap need cap ≤ 2 * need + 768 := by
  unfold Builtin.nextslicecap
  split
  · omega
  · split
    · omega
    · exact growBy_le need 4 cap (by omega)

/-- What 'append' is told of its operand types. -/
structure AppT (P : Program) (t u e : TypeId) (i : TypeInfo) (z : Value) : Prop where
  tu : P.underlying t = some (.slice e)
  uu : (∃ e', P.underlying u = some (.slice e')) ∨ P.underlying u = some .string
  ei : P.info? e = some i
  zv : i.zero = some z
  zs : z.cells.size = i.size

theorem run_append_in {P : Program} {t u e ty : TypeId} {i : TypeInfo} {z : Value} (ht : AppT P t u e i z) {base : Option Addr} {len cap n : Nat} {y : Value} {w : World} (hn : (Builtin.lenOf y).run P w = .ok n w)
    (hle : len + n ≤ cap) {new : Array Value} (hf : (Builtin.firstCells i.size n y).run P w = .ok new w) :
    (Builtin.append_ #[t, u] ty #[.slice base len cap, y]).run P w =
      (do if let some a := base then storeCells (a.add (len * i.size)) new.toList
          pure (.slice base (len + n) cap) : Sem Value).run P w := by
  have hsz : szOf P e = some i.size := by simp [szOf, ht.ei]
  rcases ht.uu with ⟨e', he⟩ | he
  all_goals
    simp only [Builtin.append_, List.getElem?_toArray, List.getElem?_cons_zero, List.getElem?_cons_succ, Sem.run_bind, run_underlying ht.tu, Result.andThen_ok, run_sizeOf' hsz, run_underlying he, Sem.run_pure, Bool.false_eq_true, if_false, hn,
      Bool.not_false, if_true]
    rw [if_pos hle]
    simp only [Sem.run_bind, hf, Result.andThen_ok]
    cases base <;> rfl

theorem run_append_grow {P : Program} {t u e ty : TypeId} {i : TypeInfo} {z : Value} (ht : AppT P t u e i z) {base : Option Addr} {len cap n : Nat} {y : Value} {w : World} (hn : (Builtin.lenOf y).run P w = .ok n w)
    (hle : cap < len + n) (hroom : room (len + n) i.bytes = true) {old new : Array Value}
    (ho : (Builtin.firstCells i.size len (.slice base len cap)).run P { w with drawn := w.drawn + 1 } = .ok old { w with drawn := w.drawn + 1 })
    (hf : (Builtin.firstCells i.size n y).run P { w with drawn := w.drawn + 1 } = .ok new { w with drawn := w.drawn + 1 }) :
    ∃ c, len + n ≤ c ∧ (Builtin.append_ #[t, u] ty #[.slice base len cap, y]).run P w =
      .ok (.slice (some ⟨w.heap.size, 0, none⟩) (len + n) c) { w with drawn := w.drawn + 1, heap := w.heap.push (.cells (old ++ new ++ Builtin.zeroCells z.cells (c - (len + n))) e) } := by
  have hsz : szOf P e = some i.size := by simp [szOf, ht.ei]
  simp only [room, Bool.and_eq_true] at hroom
  have r1 := Nat.le_of_ble_eq_true hroom.1
  have r2 := Nat.le_of_ble_eq_true hroom.2
  have h1 : ¬ (((len + n : Nat) : Int) > IntKind.i64.max ∧ i.bytes = 0) := by
    simp only [IntKind.max_i64]; omega
  have h1' : ¬ (((len + n : Nat) : Int) > IntKind.i64.max ∧ (False ∨ i.bytes = 0)) := by simpa using h1
  have h2 : ¬ Builtin.nextslicecap (len + n) cap * i.bytes > 2 ^ 48 := by
    have h3 := nextslicecap_le hle
    have h4 : Builtin.nextslicecap (len + n) cap * i.bytes ≤ (2 * (len + n) + 768) * 4096 := Nat.mul_le_mul h3 r2
    omega
  refine ⟨len + n + (w.tape w.drawn (.appendCap (len + n) cap e)) % (2 ^ 63 - (len + n)), by omega, ?_⟩
  rcases ht.uu with ⟨e', he⟩ | he
  all_goals
    simp only [Builtin.append_, List.getElem?_toArray, List.getElem?_cons_zero, List.getElem?_cons_succ, Sem.run_bind, run_underlying ht.tu, Result.andThen_ok, run_sizeOf' hsz, run_underlying he, Sem.run_pure, Bool.false_eq_true, if_false, hn,
      Bool.not_false, if_true, run_typeInfo' ht.ei]
    rw [if_neg (by omega)]
    simp only [Sem.run_bind, Sem.run_ite, run_typeInfo' ht.ei, Result.andThen_ok]
    rw [if_neg h1', if_neg h2]
    simp only [Sem.run_bind, run_choose, Question.forced, Bool.false_eq_true, if_false, Result.andThen_ok, Question.cut, run_askRoom, run_typeInfo' ht.ei, ho, hf, zeroValue, ht.zv, Sem.run_pure, newRow, run_newObj]

/-- A row of our own goes on under another name. -/
theorem Rel.grown (h : Rel E M0 w0 N μ M a w x) (m : Nat) (l : Loc) (b : Nat) (hl : μ m = some l) (hlb : l.blk = some b) (hlive : (sget x.s m).isSome = true) (blk : Blk) {w' : World} {x' : AS}
    (hsz : w'.heap.size = w.heap.size) (hheap : ∀ k, k ≠ b → w'.heap[k]? = w.heap[k]?)
    (ht : ∀ n, tget x'.t n = tget x.t n) (hs : ∀ n, sget x'.s n = if n = x.c then some blk else if n = m then none else sget x.s n) (hc : x'.c = x.c + 1) (hd : x'.d = x.d)
    (hB : Ext M w M w' → muLe μ (muSet μ x.c (some l)) → BRel E.P M w' (muSet μ x.c (some l)) x.c blk) (he : Env0 w w' := by exact ⟨rfl, rfl⟩) :
    Ext M w M w' ∧ Rel E M0 w0 N (muSet μ x.c (some l)) M a w' x' ∧ Fr x.c x.s μ w x'.c x'.s (muSet μ x.c (some l)) w' := by
  have hM := h.isM hl hlb
  have hle := h.free_le (Nat.le_refl _) (some l)
  have hx : Ext M w M w' := ⟨by omega, fun k _ hk => hheap k fun e => hk (e ▸ hM), fun _ _ hm => hm⟩
  have hi : ∀ n, n ≠ x.c → (sget x'.s n).isSome = true → n ≠ m ∧ (sget x.s n).isSome = true := fun n hn h1 => by
    rw [hs, if_neg hn] at h1
    by_cases e : n = m
    · rw [if_pos e] at h1; cases h1
    · rw [if_neg e] at h1; exact ⟨e, h1⟩
  have hmu : ∀ n, n ≠ x.c → muSet μ x.c (some l) n = μ n := fun n hn => by simp [muSet, hn]
  have hmc : muSet μ x.c (some l) x.c = some l := by simp [muSet]
  refine ⟨hx, { h with
    size := by have := h.size; omega
    old := fun k hk => by rw [hheap k fun e => by have := h.own m l b hl hlb; omega]; exact h.old k hk
    env := ⟨he.1.trans h.env.1, he.2.trans h.env.2⟩
    defers := by rw [hd]; exact DfRel.mono hx hle h.defers
    tm := fun n => by rw [ht]; exact VRel.mono hx _ _ hle (h.tm n)
    own := fun nm l' b' h1 h2 => by
      rw [hsz]
      by_cases e : nm = x.c
      · rw [e, hmc] at h1; cases h1; exact h.own m _ b' hl h2
      · rw [hmu nm e] at h1; exact h.own nm l' b' h1 h2
    lt := fun nm l' hl' => by
      rw [hc]
      by_cases e : nm = x.c
      · omega
      · rw [hmu nm e] at hl'; have := h.lt nm l' hl'; omega
    inj := fun n k l1 l2 b' s1 s2 h1 h2 h3 h4 => by
      by_cases e1 : n = x.c
      · by_cases e2 : k = x.c
        · rw [e1, e2]
        · rw [e1, hmc] at h1; cases h1
          rw [hmu k e2] at h2
          obtain ⟨g1, g2⟩ := hi k e2 s2
          exact absurd (h.inj k m l2 _ b' g2 hlive h2 hl h4 h3) g1
      · by_cases e2 : k = x.c
        · rw [e2, hmc] at h2; cases h2
          rw [hmu n e1] at h1
          obtain ⟨g1, g2⟩ := hi n e1 s1
          exact absurd (h.inj n m l1 _ b' g2 hlive h1 hl h3 h4) g1
        · rw [hmu n e1] at h1; rw [hmu k e2] at h2
          exact h.inj n k l1 l2 b' (hi n e1 s1).2 (hi k e2 s2).2 h1 h2 h3 h4
    st := fun k bk lk hlk hk => by
      by_cases e : k = x.c
      · rw [hs, if_pos e] at hk; cases hk; rw [e]; exact hB hx hle
      · obtain ⟨g1, g2⟩ := hi k e (by rw [hk]; rfl)
        rw [hs, if_neg e, if_neg g1] at hk
        rw [hmu k e] at hlk
        refine BRel.mono hx hle (fun l' b' hl' hlb' => ⟨hheap b' fun e' => ?_, id⟩) (h.st k bk lk hlk hk)
        subst e'
        exact g1 (h.inj k m l' l b' g2 hlive hl' hl hlb' hlb) },
    ⟨by omega, fun k hk hn => hheap k fun e => hn (e ▸ ⟨m, l, hlive, hl, hlb⟩), fun k _ ⟨n, l', h1, h2, h3⟩ => ?_, hle, by rw [hc]; omega, fun n hn e => by rw [hmu n (by omega)]; exact e⟩⟩
  by_cases e : n = x.c
  · rw [e, hmc] at h2; cases h2
    exact ⟨m, l, hlive, hl, h3⟩
  · exact ⟨n, l', (hi n e h1).2, by rw [← hmu n e]; exact h2, h3⟩

theorem setAt_append {α : Type} : ∀ (us vs : List α), us.length ≤ vs.length → ∀ (pre : List α), setAt (pre ++ vs) pre.length us = pre ++ us ++ vs.drop us.length
  | [], vs, _, pre => by simp [setAt]
  | u :: us, [], h, pre => by simp at h
  | u :: us, v :: vs, h, pre => by
    simp only [List.length_cons] at h
    simp only [setAt]
    rw [show (pre ++ v :: vs).set pre.length u = (pre ++ [u]) ++ vs by simp]
    have := setAt_append us vs (by omega) (pre ++ [u])
    rw [show (pre ++ [u]).length = pre.length + 1 by simp] at this
    rw [this]
    simp

theorem zeroCells_size (z : Array Value) (n : Nat) : (Builtin.zeroCells z n).size = n * z.size := by simp [Builtin.zeroCells]

theorem op_app (h : Rel E M0 w0 N μ M a w x) {t u e : TypeId} {i : TypeInfo} {z : Value} (ht : AppT E.P t u e i z) (h0 : Nat.beq i.size 0 = false) {o p : Operand} {ar pr : Arg} (h2 : cArg o = some ar) (h3 : cArg p = some pr)
    {d : D} {x' : AS} (hs : step E.G (.app i.size i.bytes (e + 1) ar pr) x = some (d, x')) (ty : TypeId) : gd E M0 w0 N μ M w x a d x' w (do pure (.value (← Builtin.append_ #[t, u] ty #[a.eval o, a.eval p]))) := by
  have hv := arg_rel h h2
  have hp := arg_rel h h3
  have hpos : 0 < i.size := by
    rcases Nat.eq_zero_or_pos i.size with e0 | e0
    · rw [e0] at h0; simp at h0
    · exact e0
  generalize a.eval o = v at *
  generalize a.eval p = y at *
  simp only [step_mv, st_mv, step_pick, st_pick, step_new, st_new, step_ld, st_ld, step_st, st_st, step_fa, st_fa, step_iaA, st_iaA, step_iaS, st_iaS, step_ixA, st_ixA, step_ixS, st_ixS, step_fld, st_fld, step_ext, st_ext, step_bin, st_bin, step_cmp, st_cmp, step_un, st_un, step_bld, st_bld, step_bsl, st_bsl, step_mks, st_mks, step_slS, st_slS, step_slV, st_slV, step_slA, st_slA, step_len, st_len, step_cap, st_cap, step_app, st_app, step_copy, st_copy, step_cvI, st_cvI, step_cvN, st_cvN, step_cvB, st_cvB, step_cvS, st_cvS, step_mkif, st_mkif, step_mkfn, st_mkfn, step_nilc, st_nilc, step_rng, st_rng, step_next, st_next, step_mm, st_mm, step_mkm, st_mkm, step_mlk, st_mlk, step_mup, st_mup, step_men, st_men, step_mst, st_mst, step_mln, st_mln, step_rgm, st_rgm, step_nxm, st_nxm, step_ent, st_ent, step_tas, st_tas, step_tai, st_tai, step_xl, st_xl, step_xa, st_xa, step_call, step_callv, step_inv, step_pan, step_dfr, step_rcv, appD, Option.bind_eq_bind, Option.bind_eq_some_iff] at hs
  obtain ⟨⟨ys, n⟩, hsc, hs⟩ := hs
  let w1 : World := { w with drawn := w.drawn + 1 }
  have hw1 : Rel E M0 w0 N μ M a w1 x := h.world rfl
  have hx1 : Ext M w M w1 := ⟨Nat.le_refl _, fun _ _ _ => rfl, fun _ _ hm => hm⟩
  have hv1 : VRel M w1 μ (ar.ev E.G x.t) v := VRel.mono hx1 _ _ (muLe.refl _) hv
  have hp1 : VRel M w1 μ (pr.ev E.G x.t) y := VRel.mono hx1 _ _ (muLe.refl _) hp
  obtain ⟨hln, hyl, hyc⟩ := src_rel h hsc hp E.P
  obtain ⟨_, _, hyc1⟩ := src_rel hw1 hsc hp1 E.P
  obtain ⟨new, hnew, hnr⟩ := hyc n (Nat.le_refl _)
  obtain ⟨new1, hnew1, hnr1⟩ := hyc1 n (Nat.le_refl _)
  rw [List.take_of_length_le (by omega)] at hnr hnr1
  have hnl := hnr.length
  have hnl1 := hnr1.length
  simp only [Array.length_toList] at hnl hnl1
  -- growth: a new block that begins with what was there and what is brought
  have grow : ∀ (base : Option Addr) (len cap : Nat) (cs : List D) (old : Array Value), v = .slice base len cap → cap < len + n → room (len + n) i.bytes = true →
      (Builtin.firstCells i.size len v).run E.P w1 = .ok old w1 → VRels M w1 μ cs old.toList → cs.length = len * i.size →
      gd E M0 w0 N μ M w x a (.gs x.c 0 i.size (len + n)) (x.add (.grow (e + 1) (cs ++ ys))) w (do pure (.value (← Builtin.append_ #[t, u] ty #[v, y]))) := by
    intro base len cap cs old hb hlt hroom hold hcr hcl
    subst hb
    obtain ⟨c, hc, hrun⟩ := run_append_grow (ty := ty) ht hln hlt hroom hold hnew1
    have hol := hcr.length
    simp only [Array.length_toList] at hol
    let arr := old ++ new1 ++ Builtin.zeroCells z.cells (c - (len + n))
    have hsz : arr.size = c * i.size := by
      simp only [arr, Array.size_append, zeroCells_size, hol, hnl1, hcl, hyl, ht.zs]
      rw [← Nat.add_mul, ← Nat.add_mul]; congr 1; omega
    have hlenc : (cs ++ ys).length = (len + n) * i.size := by simp [hcl, hyl, Nat.add_mul]
    obtain ⟨μ', hR, hx, hm, hle, hf⟩ := new_grow hw1 (cs := cs ++ ys) (vs := arr) (by rw [hlenc, hsz]; exact Nat.mul_le_mul_right _ hc) (e := e) (fz := (0, 0)) (by
        have : arr.toList.take (cs ++ ys).length = old.toList ++ new1.toList := by
          have e1 : arr.toList = (old.toList ++ new1.toList) ++ (Builtin.zeroCells z.cells (c - (len + n))).toList := by simp [arr]
          rw [e1, List.take_left' (by simp [hol, hnl1])]
        rw [this]
        exact hcr.append hnr1) (thaw0 _) (ty := e + 1) (fun k hk => by first | exact Nat.add_right_cancel hk | exact absurd hk.symm (Nat.succ_ne_zero k)) (w' := { w with drawn := w.drawn + 1, heap := w.heap.push (.cells arr e) }) rfl
    refine ⟨_, _, μ', .inl (run_value hrun), ?_, hR, ⟨hf.size, hf.same, hf.live, hf.mu, hf.cle, hf.kept⟩⟩
    simp only [VRel]
    exact ⟨_, c, hm, rfl, hc, by simp [hsz], fun hn => by cases hn⟩
  split at hs
  · -- nil
    rename_i he
    rw [he] at hv hv1
    simp only [VRel] at hv; subst hv
    cases hn0 : Nat.beq n 0 <;> rw [hn0] at hs
    · cases hroom : room n i.bytes <;> rw [hroom] at hs
      · cases hs
      simp only [cond_false, cond_true] at hs
      cases hs
      have hnp : n ≠ 0 := fun e0 => by subst e0; simp at hn0
      have := grow none 0 0 [] #[] rfl (by omega) (by rw [Nat.zero_add]; exact hroom) (firstCells_nil (by simp) w1) VRels.nil (by simp)
      rwa [Nat.zero_add] at this
    · have := Nat.eq_of_beq_eq_true hn0
      subst this
      cases hs
      refine Good.of h (run_value (v := .slice none 0 0) ?_) (by simp only [VRel])
      rw [run_append_in ht hln (Nat.le_refl _) hnew]; rfl
  · -- memory that is not written
    rename_i ex len cs he
    rw [he] at hv hv1
    have hvv := hv
    simp only [VRel] at hv
    obtain ⟨ad, cap, rfl, k1, k2, k3⟩ := hv
    cases hn0 : Nat.beq n 0 <;> rw [hn0] at hs
    · cases hcond : (ex && room (len + n) i.bytes && Nat.ble (len * i.size) cs.length) <;> rw [hcond] at hs
      · cases hs
      simp only [Bool.and_eq_true] at hcond
      obtain ⟨⟨c1, c2⟩, c3⟩ := hcond
      simp only [cond_false, cond_true] at hs
      cases hs
      have hnp : n ≠ 0 := fun e0 => by subst e0; simp at hn0
      have hcap := k2 c1
      obtain ⟨_, _, hold⟩ := src_rel hw1 (show sliceCells x.s i.size (.sl ex len cs) = some (cs.take (len * i.size), len) by simp [sliceCells, c3]) hv1 E.P
      obtain ⟨old, hold, hcr⟩ := hold len (Nat.le_refl _)
      rw [List.take_of_length_le (by simp; omega)] at hcr
      exact grow ad len cap (cs.take (len * i.size)) old rfl (by omega) c2 hold hcr (by have := Nat.le_of_ble_eq_true c3; simp; omega)
    · have := Nat.eq_of_beq_eq_true hn0
      subst this
      cases hs
      have hnew0 : new.toList = [] := List.eq_nil_of_length_eq_zero (by rw [Array.length_toList]; omega)
      refine Good.of h (run_value (v := .slice ad len cap) ?_) hvv
      rw [run_append_in ht hln (show len + 0 ≤ cap by omega) hnew]
      cases ad <;> simp [hnew0, storeCells]
  · -- a block of our own whose room is known
    rename_i m off zz len c he
    rw [he] at hv hv1
    have hvv := hv
    simp only [VRel] at hv
    obtain ⟨l, b, k1, k2, rfl, k3, k4⟩ := hv
    split at hs
    · rename_i t0 cs hg
      cases hz : Nat.beq zz i.size <;> rw [hz] at hs
      · cases hs
      have hz' := Nat.eq_of_beq_eq_true hz
      subst hz'
      cases hle : Nat.ble (len + n) c <;> rw [hle] at hs
      · simp only [cond_true, cond_false] at hs
        cases hcond : (room (len + n) i.bytes && Nat.ble (off + len * i.size) cs.length) <;> rw [hcond] at hs
        · cases hs
        simp only [Bool.and_eq_true] at hcond
        obtain ⟨c2, c3⟩ := hcond
        have c3' := Nat.le_of_ble_eq_true c3
        simp only [cond_true] at hs
        cases hs
        have hlt : c < len + n := by
          rcases Nat.lt_or_ge c (len + n) with hh | hh
          · exact hh
          · rw [Nat.ble_eq_true_of_le hh] at hle; cases hle
        obtain ⟨_, _, hold⟩ := src_rel hw1 (show sliceCells x.s i.size (.ms m off i.size len c) = some ((cs.drop off).take (len * i.size), len) by simp [sliceCells, hg, blkCells, c3]) hv1 E.P
        obtain ⟨old, hold, hcr⟩ := hold len (Nat.le_refl _)
        rw [List.take_of_length_le (by simp; omega)] at hcr
        exact grow (some ⟨b, off, none⟩) len c _ old rfl hlt c2 hold hcr (by simp; omega)
      · have hle' := Nat.le_of_ble_eq_true hle
        simp only [cond_true, Option.map_eq_some_iff] at hs
        obtain ⟨blk', hst, he'⟩ := hs
        cases he'
        obtain ⟨w', hrun, hx, hR, hf⟩ := write_rel h hg hst k1 k2 hnr
        refine ⟨.slice (some ⟨b, off, none⟩) (len + n) c, w', μ, .inl (run_value ?_), ?_, hR, hf⟩
        · rw [run_append_in ht hln hle' hnew]
          simp only [Addr.add_lit, Sem.run_bind, hrun, Result.andThen_ok, Sem.run_pure]
        · simp only [VRel]
          exact ⟨l, b, k1, k2, rfl, hle', k4⟩
    · cases hs
  · -- a row that grows
    rename_i m off zz len he
    rw [he] at hv hv1
    have hvv := hv
    simp only [VRel] at hv
    obtain ⟨⟨lb, lc⟩, cap, k1, rfl, k3, k4, k5⟩ := hv
    split at hs
    · rename_i t0 cs hg
      cases hn0 : Nat.beq n 0 <;> rw [hn0] at hs
      · simp only [cond_false] at hs
        cases hcond : (Nat.beq zz i.size && !(ys.any isAg)) <;> rw [hcond] at hs
        · cases hs
        simp only [Bool.and_eq_true, Bool.not_eq_true'] at hcond
        obtain ⟨c1, c5⟩ := hcond
        have c1' := Nat.eq_of_beq_eq_true c1
        subst c1'
        simp only [cond_true] at hs
        have hnp : n ≠ 0 := fun e0 => by subst e0; simp at hn0
        have hB := h.st m _ _ k1 hg
        have hmul : (len + n) * i.size = len * i.size + n * i.size := Nat.add_mul _ _ _
        have hnpos : 0 < n * i.size := Nat.mul_pos (by omega) hpos
        cases hfit : Nat.ble (off + (len + n) * i.size) cs.length <;> rw [hfit] at hs
        · simp only [cond_false] at hs
          cases hcond : (Nat.beq off 0 && Nat.ble (len * i.size) cs.length && room (len + n) i.bytes) <;> rw [hcond] at hs
          · cases hs
          simp only [Bool.and_eq_true] at hcond
          obtain ⟨⟨c2, c3⟩, c4⟩ := hcond
          have c2' := Nat.eq_of_beq_eq_true c2
          have c3' := Nat.le_of_ble_eq_true c3
          subst c2'
          simp only [cond_true] at hs
          cases hs
          have htl : (cs.take (len * i.size)).length = len * i.size := by simp; omega
          by_cases hle : len + n ≤ cap
          · -- in place
            cases lb with
            | none => have := k5 rfl; omega
            | some b =>
              obtain ⟨l, g1, g2⟩ := hB
              rw [k1] at g1; cases g1
              rcases g2 with ⟨g2, _⟩ | ⟨b', vs, ee, fz, g2, g4, g5, g6, g7, g8, g9, g10⟩
              · cases g2
              cases g2
              simp only [Nat.zero_add] at k4
              have hcc : (len + n) * i.size ≤ cap * i.size := Nat.mul_le_mul_right _ hle
              have hone : ∀ v ∈ new.toList, v.oneCell' = true := oneCells_of c5 hnr
              simp only at g7 g8
              obtain ⟨w', cur', hrun, r1, r2, r3, r4, r5, re⟩ := run_storeCells_rel E.P (len * i.size) new.toList 0 w vs g5 g6 (by simp; omega) hone
              have hlenc : (cs.take (len * i.size) ++ ys).length = (len + n) * i.size := by rw [List.length_append, htl, hyl, hmul]
              have hcurs : cur'.toList.take (cs.take (len * i.size) ++ ys).length = vs.toList.take (len * i.size) ++ new.toList := by
                rw [r5, Nat.add_zero, hlenc, setAt_take _ _ _ _ (by simp; omega)]
                have e1 : vs.toList.take ((len + n) * i.size) = vs.toList.take (len * i.size) ++ (vs.toList.drop (len * i.size)).take (n * i.size) := by
                  rw [hmul, List.take_add]
                have e2 : (vs.toList.take (len * i.size)).length = len * i.size := by simp; omega
                have e3 := setAt_append new.toList ((vs.toList.drop (len * i.size)).take (n * i.size)) (by simp; omega) (vs.toList.take (len * i.size))
                rw [e2] at e3
                rw [e1, e3]
                have e4 : ((vs.toList.drop (len * i.size)).take (n * i.size)).drop new.toList.length = [] := by
                  apply List.drop_eq_nil_of_le; simp; omega
                rw [e4, List.append_nil]
              have g9' : VRels M w μ (cs.take (len * i.size)) (vs.toList.take (len * i.size)) := by
                have := g9.take (len * i.size)
                rwa [List.take_take, Nat.min_eq_left c3'] at this
              obtain ⟨hx, hR, hf⟩ := h.grown m ⟨some b, lc⟩ b k1 rfl (by rw [hg]; rfl) (.grow (bif Nat.beq t0 (e + 1) then e + 1 else 0) (cs.take (len * i.size) ++ ys)) (w' := w')
                (x' := { x with s := sadd (sdel x.s m) x.c (.grow (bif Nat.beq t0 (e + 1) then e + 1 else 0) (cs.take (len * i.size) ++ ys)), c := x.c + 1 }) r1 r2 (fun n => rfl) (fun n => by rw [sget_sadd, sget_sdel]) rfl rfl (fun hx hle' =>
                  ⟨⟨some b, lc⟩, by simp [muSet], .inr ⟨b, cur', ee, fz, rfl, g4, r3, by rw [r4]; exact g6, by rw [r4]; exact g7, by rw [hlenc]; show _ ≤ lc; omega, by
                    rw [hcurs]; exact (VRels.mono hx _ _ hle' g9').append (VRels.mono hx _ _ hle' hnr), by
                    intro k hk
                    cases hb : Nat.beq t0 (e + 1) <;> rw [hb] at hk
                    · cases hk
                    · exact g10 k ((Nat.eq_of_beq_eq_true hb).trans hk)⟩⟩) re
              refine ⟨.slice (some ⟨b, 0, none⟩) (len + n) cap, w', _, .inl (run_value ?_), ?_, hR, hf⟩
              · rw [run_append_in ht hln hle hnew]
                simp only [Option.map_some, Addr.add_lit, Nat.zero_add, Sem.run_bind, hrun, Result.andThen_ok, Sem.run_pure]
              · simp only [VRel]
                exact ⟨⟨some b, lc⟩, cap, by simp [muSet], rfl, hle, by simpa using k4, fun hn => by cases hn⟩
          · -- moved
            obtain ⟨_, _, hold⟩ := src_rel hw1 (show sliceCells x.s i.size (.gs m 0 i.size len) = some ((cs.drop 0).take (len * i.size), len) by
              have hb : Nat.ble (0 + len * i.size) cs.length = true := Nat.ble_eq_true_of_le (by omega)
              simp only [sliceCells, hg, blkCells, Option.bind_eq_bind, Option.bind_some, Nat.beq_refl, Bool.true_and, hb, cond_true]) hv1 E.P
            obtain ⟨old, hold, hcr⟩ := hold len (Nat.le_refl _)
            rw [List.take_of_length_le (by simp; omega), List.drop_zero] at hcr
            obtain ⟨c, hc, hrun⟩ := run_append_grow (ty := ty) ht hln (by omega) c4 hold hnew1
            have hol := hcr.length
            simp only [Array.length_toList] at hol
            rw [htl] at hol
            let arr := old ++ new1 ++ Builtin.zeroCells z.cells (c - (len + n))
            have hsz : arr.size = c * i.size := by
              simp only [arr, Array.size_append, zeroCells_size, hol, hnl1, hyl, ht.zs]
              rw [← Nat.add_mul, ← Nat.add_mul]; congr 1; omega
            obtain ⟨hL, hLf⟩ := hw1.less (s' := sdel x.s m) (fun n b hb => by
              rw [sget_sdel] at hb
              by_cases e : n = m
              · rw [if_pos e] at hb; cases hb
              · rwa [if_neg e] at hb)
            have hlenc : (cs.take (len * i.size) ++ ys).length = (len + n) * i.size := by rw [List.length_append, htl, hyl, hmul]
            obtain ⟨μ', hR, hx, hm, hle', hf⟩ := new_grow hL (cs := cs.take (len * i.size) ++ ys) (vs := arr) (by rw [hlenc, hsz]; exact Nat.mul_le_mul_right _ hc) (e := e) (fz := (0, 0)) (by
                have : arr.toList.take (cs.take (len * i.size) ++ ys).length = old.toList ++ new1.toList := by
                  have e1 : arr.toList = (old.toList ++ new1.toList) ++ (Builtin.zeroCells z.cells (c - (len + n))).toList := by simp [arr]
                  rw [e1, List.take_left' (by simp only [List.length_append, Array.length_toList, hol, hnl1, hlenc]; omega)]
                rw [this]
                exact hcr.append hnr1) (thaw0 _) (ty := bif Nat.beq t0 (e + 1) then e + 1 else 0) (fun k hk => by
                  cases hb : Nat.beq t0 (e + 1) <;> rw [hb] at hk
                  · cases hk
                  · simp only [cond_true] at hk; exact Nat.add_right_cancel hk) (w' := { w with drawn := w.drawn + 1, heap := w.heap.push (.cells arr e) }) rfl
            refine ⟨_, _, μ', .inl (run_value hrun), ?_, hR, ⟨(hLf.trans hf).size, (hLf.trans hf).same, (hLf.trans hf).live, (hLf.trans hf).mu, (hLf.trans hf).cle, (hLf.trans hf).kept⟩⟩
            simp only [VRel]
            exact ⟨_, c, hm, rfl, hc, by simp [hsz], fun hn => by cases hn⟩
        · -- it fits among what is known
          have hfit' := Nat.le_of_ble_eq_true hfit
          simp only [cond_true, Option.map_eq_some_iff] at hs
          obtain ⟨blk', hst, he'⟩ := hs
          cases he'
          cases lb with
          | none =>
            obtain ⟨l, g1, g2⟩ := hB
            rw [k1] at g1; cases g1
            rcases g2 with ⟨_, g3, _⟩ | ⟨b', vs, ee, fz, g2, _⟩
            · rw [g3] at hfit'; simp at hfit'; omega
            · cases g2
          | some b =>
            have hcap : len + n ≤ cap := by
              obtain ⟨l, g1, g2⟩ := hB
              rw [k1] at g1; cases g1
              rcases g2 with ⟨g2, _⟩ | ⟨b', vs, ee, fz, g2, g4, g5, g6, g7, g8, g9, g10⟩
              · cases g2
              · simp only at g8 k4
                exact Nat.le_of_mul_le_mul_right (show (len + n) * i.size ≤ cap * i.size by omega) hpos
            obtain ⟨w', hrun, hx, hR, hf⟩ := write_rel h hg hst k1 rfl hnr
            refine ⟨.slice (some ⟨b, off, none⟩) (len + n) cap, w', μ, .inl (run_value ?_), ?_, hR, hf⟩
            · rw [run_append_in ht hln hcap hnew]
              simp only [Option.map_some, Addr.add_lit, Sem.run_bind, hrun, Result.andThen_ok, Sem.run_pure]
            · simp only [VRel]
              exact ⟨_, cap, k1, rfl, hcap, k4, fun hn => by cases hn⟩
      · have := Nat.eq_of_beq_eq_true hn0
        subst this
        cases hs
        have hnew0 : new.toList = [] := List.eq_nil_of_length_eq_zero (by rw [Array.length_toList]; omega)
        refine Good.of h (run_value ?_) hvv
        rw [run_append_in ht hln (show len + 0 ≤ cap by omega) hnew]
        cases lb <;> simp [hnew0, storeCells]
    · cases hs
  · cases hs
end

end Zv
/- The operations of the model do what the abstract ones say: the rest of them, and all together. Conditions: none. -/
set_option linter.unusedSimpArgs false
set_option linter.unusedVariables false
namespace Zv
open Go

section
variable {E : Env} {M0 : Nat → Prop} {w0 : World} {N : Nat} {μ : Mu} {M : Nat → Prop} {a : Act} {w : World} {x : AS}

theorem op_cap (h : Rel E M0 w0 N μ M a w x) {t e ty : TypeId} (hu : E.P.underlying t = some (.slice e)) {o : Operand} {ar : Arg} (h2 : cArg o = some ar) {d : D} {x' : AS}
    (hs : step E.G (.cap ar) x = some (d, x')) : gd E M0 w0 N μ M w x a d x' w (do pure (.value (← Builtin.cap_ #[t] ty #[a.eval o]))) := by
  have hv := arg_rel h h2
  generalize a.eval o = v at *
  simp only [step_mv, st_mv, step_pick, st_pick, step_new, st_new, step_ld, st_ld, step_st, st_st, step_fa, st_fa, step_iaA, st_iaA, step_iaS, st_iaS, step_ixA, st_ixA, step_ixS, st_ixS, step_fld, st_fld, step_ext, st_ext, step_bin, st_bin, step_cmp, st_cmp, step_un, st_un, step_bld, st_bld, step_bsl, st_bsl, step_mks, st_mks, step_slS, st_slS, step_slV, st_slV, step_slA, st_slA, step_len, st_len, step_cap, st_cap, step_app, st_app, step_copy, st_copy, step_cvI, st_cvI, step_cvN, st_cvN, step_cvB, st_cvB, step_cvS, st_cvS, step_mkif, st_mkif, step_mkfn, st_mkfn, step_nilc, st_nilc, step_rng, st_rng, step_next, st_next, step_mm, st_mm, step_mkm, st_mkm, step_mlk, st_mlk, step_mup, st_mup, step_men, st_men, step_mst, st_mst, step_mln, st_mln, step_rgm, st_rgm, step_nxm, st_nxm, step_ent, st_ent, step_tas, st_tas, step_tai, st_tai, step_xl, st_xl, step_xa, st_xa, step_call, step_callv, step_inv, step_pan, step_dfr, step_rcv] at hs
  split at hs
  · rename_i he
    rw [he] at hv; simp only [VRel] at hv; subst hv
    cases hs
    exact Good.of (v := .int .i64 0) h (run_value (by simp [Builtin.cap_, run_underlying hu, goInt])) (by simp only [VRel])
  · rename_i nm off z len c he
    rw [he] at hv; simp only [VRel] at hv
    obtain ⟨l, b, _, _, rfl, _⟩ := hv
    cases hs
    exact Good.of (v := .int .i64 c) h (run_value (by simp [Builtin.cap_, run_underlying hu, goInt])) (by simp only [VRel])
  · rename_i n cs he
    rw [he] at hv; simp only [VRel] at hv
    obtain ⟨ad, cap, rfl, _, h3, _⟩ := hv
    have := h3 trivial
    subst this
    cases hs
    exact Good.of (v := .int .i64 cap) h (run_value (by simp [Builtin.cap_, run_underlying hu, goInt])) (by simp only [VRel])
  · cases hs

theorem op_len (h : Rel E M0 w0 N μ M a w x) {t ty : TypeId} {st : Bool} {o : Operand} {ar : Arg} (h2 : cArg o = some ar) (hu : if st then E.P.underlying t = some .string else ∃ e, E.P.underlying t = some (.slice e)) {d : D} {x' : AS}
    (hs : step E.G (.len st ar) x = some (d, x')) : gd E M0 w0 N μ M w x a d x' w (do pure (.value (← Builtin.len_ #[t] ty #[a.eval o]))) := by
  have hv := arg_rel h h2
  simp only [step_mv, st_mv, step_pick, st_pick, step_new, st_new, step_ld, st_ld, step_st, st_st, step_fa, st_fa, step_iaA, st_iaA, step_iaS, st_iaS, step_ixA, st_ixA, step_ixS, st_ixS, step_fld, st_fld, step_ext, st_ext, step_bin, st_bin, step_cmp, st_cmp, step_un, st_un, step_bld, st_bld, step_bsl, st_bsl, step_mks, st_mks, step_slS, st_slS, step_slV, st_slV, step_slA, st_slA, step_len, st_len, step_cap, st_cap, step_app, st_app, step_copy, st_copy, step_cvI, st_cvI, step_cvN, st_cvN, step_cvB, st_cvB, step_cvS, st_cvS, step_mkif, st_mkif, step_mkfn, st_mkfn, step_nilc, st_nilc, step_rng, st_rng, step_next, st_next, step_mm, st_mm, step_mkm, st_mkm, step_mlk, st_mlk, step_mup, st_mup, step_men, st_men, step_mst, st_mst, step_mln, st_mln, step_rgm, st_rgm, step_nxm, st_nxm, step_ent, st_ent, step_tas, st_tas, step_tai, st_tai, step_xl, st_xl, step_xa, st_xa, step_call, step_callv, step_inv, step_pan, step_dfr, step_rcv] at hs
  split at hs
  · rename_i n hn
    cases hs
    exact Good.of h (run_value (lenD_rel (P := E.P) hn hv hu w)) (by simp only [VRel])
  · cases hs

theorem op_mm (h : Rel E M0 w0 N μ M a w x) {mx : Bool} {ts : Array TypeId} {ty : TypeId} {o p : Operand} {ar pr : Arg} (h2 : cArg o = some ar) (h3 : cArg p = some pr) {d : D} {x' : AS}
    (hs : step E.G (.mm mx ar pr) x = some (d, x')) :
    gd E M0 w0 N μ M w x a d x' w (do pure (.value (← bif mx then Builtin.max_ ts ty #[a.eval o, a.eval p] else Builtin.min_ ts ty #[a.eval o, a.eval p]))) := by
  have hv := arg_rel h h2
  have hp := arg_rel h h3
  generalize a.eval o = v at *
  generalize a.eval p = u at *
  simp only [step_mv, st_mv, step_pick, st_pick, step_new, st_new, step_ld, st_ld, step_st, st_st, step_fa, st_fa, step_iaA, st_iaA, step_iaS, st_iaS, step_ixA, st_ixA, step_ixS, st_ixS, step_fld, st_fld, step_ext, st_ext, step_bin, st_bin, step_cmp, st_cmp, step_un, st_un, step_bld, st_bld, step_bsl, st_bsl, step_mks, st_mks, step_slS, st_slS, step_slV, st_slV, step_slA, st_slA, step_len, st_len, step_cap, st_cap, step_app, st_app, step_copy, st_copy, step_cvI, st_cvI, step_cvN, st_cvN, step_cvB, st_cvB, step_cvS, st_cvS, step_mkif, st_mkif, step_mkfn, st_mkfn, step_nilc, st_nilc, step_rng, st_rng, step_next, st_next, step_mm, st_mm, step_mkm, st_mkm, step_mlk, st_mlk, step_mup, st_mup, step_men, st_men, step_mst, st_mst, step_mln, st_mln, step_rgm, st_rgm, step_nxm, st_nxm, step_ent, st_ent, step_tas, st_tas, step_tai, st_tai, step_xl, st_xl, step_xa, st_xa, step_call, step_callv, step_inv, step_pan, step_dfr, step_rcv] at hs
  split at hs
  · rename_i k n k' m he1 he2
    rw [he1] at hv; rw [he2] at hp
    simp only [VRel] at hv hp; subst hv; subst hp
    cases hs
    cases mx
    · exact Good.of (v := .int k (if m < n then m else n)) h (run_value (by simp [Builtin.min_, Builtin.min2])) (by simp only [VRel, cond_false])
    · exact Good.of (v := .int k (if m > n then m else n)) h (run_value (by simp [Builtin.max_, Builtin.max2])) (by simp only [VRel, cond_true])
  · cases hs

theorem op_cvI (h : Rel E M0 w0 N μ M a w x) {s t : TypeId} {k k' : IntKind} (hu : E.P.underlying s = some (.int k')) (hd : E.P.underlying t = some (.int k)) {o : Operand} {ar : Arg} (h2 : cArg o = some ar) {d : D} {x' : AS}
    (hs : step E.G (.cvI k ar) x = some (d, x')) : gd E M0 w0 N μ M w x a d x' w (do pure (.value (← convert s t (a.eval o)))) := by
  have hv := arg_rel h h2
  generalize a.eval o = v at *
  simp only [step_mv, st_mv, step_pick, st_pick, step_new, st_new, step_ld, st_ld, step_st, st_st, step_fa, st_fa, step_iaA, st_iaA, step_iaS, st_iaS, step_ixA, st_ixA, step_ixS, st_ixS, step_fld, st_fld, step_ext, st_ext, step_bin, st_bin, step_cmp, st_cmp, step_un, st_un, step_bld, st_bld, step_bsl, st_bsl, step_mks, st_mks, step_slS, st_slS, step_slV, st_slV, step_slA, st_slA, step_len, st_len, step_cap, st_cap, step_app, st_app, step_copy, st_copy, step_cvI, st_cvI, step_cvN, st_cvN, step_cvB, st_cvB, step_cvS, st_cvS, step_mkif, st_mkif, step_mkfn, st_mkfn, step_nilc, st_nilc, step_rng, st_rng, step_next, st_next, step_mm, st_mm, step_mkm, st_mkm, step_mlk, st_mlk, step_mup, st_mup, step_men, st_men, step_mst, st_mst, step_mln, st_mln, step_rgm, st_rgm, step_nxm, st_nxm, step_ent, st_ent, step_tas, st_tas, step_tai, st_tai, step_xl, st_xl, step_xa, st_xa, step_call, step_callv, step_inv, step_pan, step_dfr, step_rcv] at hs
  split at hs
  · rename_i j n he
    rw [he] at hv; simp only [VRel] at hv; subst hv
    cases hs
    exact Good.of (v := .int k (k.wrap n)) h (run_value (by simp [convert, run_underlying hu, run_underlying hd, Conv.intToInt])) (by simp only [VRel, wrapD_eq])
  · cases hs

theorem op_cvN (h : Rel E M0 w0 N μ M a w x) {s t : TypeId} {ds : TypeDesc} (hu : E.P.underlying s = some ds) (hd : E.P.underlying t = some .string) (hk : (∃ k, ds = .int k) ∨ ds = .string) {o : Operand} {ar : Arg} (h2 : cArg o = some ar) {d : D} {x' : AS}
    (hs : step E.G (.cvN ar) x = some (d, x')) : gd E M0 w0 N μ M w x a d x' w (do pure (.value (← convert s t (a.eval o)))) := by
  have hv := arg_rel h h2
  generalize a.eval o = v at *
  simp only [step_mv, st_mv, step_pick, st_pick, step_new, st_new, step_ld, st_ld, step_st, st_st, step_fa, st_fa, step_iaA, st_iaA, step_iaS, st_iaS, step_ixA, st_ixA, step_ixS, st_ixS, step_fld, st_fld, step_ext, st_ext, step_bin, st_bin, step_cmp, st_cmp, step_un, st_un, step_bld, st_bld, step_bsl, st_bsl, step_mks, st_mks, step_slS, st_slS, step_slV, st_slV, step_slA, st_slA, step_len, st_len, step_cap, st_cap, step_app, st_app, step_copy, st_copy, step_cvI, st_cvI, step_cvN, st_cvN, step_cvB, st_cvB, step_cvS, st_cvS, step_mkif, st_mkif, step_mkfn, st_mkfn, step_nilc, st_nilc, step_rng, st_rng, step_next, st_next, step_mm, st_mm, step_mkm, st_mkm, step_mlk, st_mlk, step_mup, st_mup, step_men, st_men, step_mst, st_mst, step_mln, st_mln, step_rgm, st_rgm, step_nxm, st_nxm, step_ent, st_ent, step_tas, st_tas, step_tai, st_tai, step_xl, st_xl, step_xa, st_xa, step_call, step_callv, step_inv, step_pan, step_dfr, step_rcv] at hs
  split at hs
  · rename_i j n he
    rw [he] at hv; simp only [VRel] at hv; subst hv
    cases hs
    refine Good.of (v := .string (Utf8.encode n)) h (run_value ?_) (by simp only [VRel, Array.toArray_toList])
    rcases hk with ⟨k, rfl⟩ | rfl <;> simp [convert, run_underlying hu, run_underlying hd, Conv.intToString]
  · rename_i s he
    rw [he] at hv; have hvv := hv; simp only [VRel] at hv; subst hv
    cases hs
    refine Good.of h (run_value ?_) hvv
    rcases hk with ⟨k, rfl⟩ | rfl <;> simp [convert, run_underlying hu, run_underlying hd]
  · cases hs

theorem op_cvB (h : Rel E M0 w0 N μ M a w x) {s t e : TypeId} (hu : E.P.underlying s = some .string) (hd : E.P.underlying t = some (.slice e)) (he : E.P.underlying e = some (.int .u8)) {o : Operand} {ar : Arg} (h2 : cArg o = some ar)
    {d : D} {x' : AS} (hs : step E.G (.cvB ar) x = some (d, x')) : gd E M0 w0 N μ M w x a d x' w (do pure (.value (← convert s t (a.eval o)))) := by
  have hv := arg_rel h h2
  generalize a.eval o = v at *
  simp only [step_mv, st_mv, step_pick, st_pick, step_new, st_new, step_ld, st_ld, step_st, st_st, step_fa, st_fa, step_iaA, st_iaA, step_iaS, st_iaS, step_ixA, st_ixA, step_ixS, st_ixS, step_fld, st_fld, step_ext, st_ext, step_bin, st_bin, step_cmp, st_cmp, step_un, st_un, step_bld, st_bld, step_bsl, st_bsl, step_mks, st_mks, step_slS, st_slS, step_slV, st_slV, step_slA, st_slA, step_len, st_len, step_cap, st_cap, step_app, st_app, step_copy, st_copy, step_cvI, st_cvI, step_cvN, st_cvN, step_cvB, st_cvB, step_cvS, st_cvS, step_mkif, st_mkif, step_mkfn, st_mkfn, step_nilc, st_nilc, step_rng, st_rng, step_next, st_next, step_mm, st_mm, step_mkm, st_mkm, step_mlk, st_mlk, step_mup, st_mup, step_men, st_men, step_mst, st_mst, step_mln, st_mln, step_rgm, st_rgm, step_nxm, st_nxm, step_ent, st_ent, step_tas, st_tas, step_tai, st_tai, step_xl, st_xl, step_xa, st_xa, step_call, step_callv, step_inv, step_pan, step_dfr, step_rcv] at hs
  split at hs
  · rename_i str hee
    rw [hee] at hv; simp only [VRel] at hv; subst hv
    cases hs
    let c := str.length + (w.tape w.drawn (.appendCap str.length 0 e)) % (2 ^ 63 - str.length)
    let arr : Array Value := (str.toArray.map fun b => Value.int .u8 b.toNat) ++ Array.replicate (c - str.length) (.int .u8 0)
    have hsz : arr.size = c := by simp [arr, c]
    let w' : World := { w with drawn := w.drawn + 1, heap := w.heap.push (.cells arr e (arr.size, arr.size + 1)) }
    obtain ⟨μ', hR, hx, hm, hle, hf⟩ := new_grow (w := { w with drawn := w.drawn + 1 }) (h.world rfl) (cs := bytesOf str) (vs := arr) (by simp [bytesOf, arr]) (e := e) (fz := (arr.size, arr.size + 1)) (by
        have : arr.toList.take (bytesOf str).length = str.map fun b => Value.int .u8 b.toNat := by
          simp [arr, bytesOf]
        rw [this]
        refine VRels.mk (by simp [bytesOf]) fun i d v hd hv => ?_
        simp only [bytesOf, List.getElem?_map, Option.map_eq_some_iff] at hd hv
        obtain ⟨b, hb, rfl⟩ := hd
        obtain ⟨b', hb', rfl⟩ := hv
        rw [hb] at hb'; cases hb'
        simp only [VRel]) (fun o ho hc => by have := hc.1; simp at this; omega) (ty := 0) (fun k hk => by first | exact Nat.add_right_cancel hk | exact absurd hk.symm (Nat.succ_ne_zero k)) (w' := w') rfl
    refine ⟨.slice (some ⟨w.heap.size, 0, none⟩) str.length c, w', μ', .inl (run_value ?_), ?_, hR, ⟨hf.size, hf.same, hf.live, hf.mu, hf.cle, hf.kept⟩⟩
    · have hfz : ∀ o : Obj, (w.heap.push o).modify w.heap.size (fun o => match o with
          | .cells c elem (lo, hi) => .cells c elem (if lo == hi then (arr.size, arr.size + 1) else (min lo arr.size, max hi (arr.size + 1)))
          | o => o) = w.heap.push (match o with
          | .cells c elem (lo, hi) => .cells c elem (if lo == hi then (arr.size, arr.size + 1) else (min lo arr.size, max hi (arr.size + 1)))
          | o => o) := by
        intro o
        apply Array.ext
        · simp
        · intro i h1 h2
          simp only [Array.getElem_modify, Array.getElem_push]
          by_cases hi : i < w.heap.size
          · have : ¬ w.heap.size = i := by omega
            simp [hi, this]
          · have : w.heap.size = i := by simp at h2; omega
            subst this
            simp
      simp only [convert, Sem.run_bind, run_underlying hu, run_underlying hd, run_underlying he, Result.andThen_ok, Conv.stringToBytes, run_choose, Question.forced, Bool.false_eq_true, if_false, Question.cut, newRow, run_newObj, Sem.run_pure, markStringish, run_shape]
      have hsize : (⟨str.toArray⟩ : ByteArray).size = str.length := by simp [ByteArray.size]
      have hshape : World.shape? { w with drawn := w.drawn + 1, heap := w.heap.push (.cells arr e) } w.heap.size = some (e, arr.size) := by
        simp [World.shape?]
      simp only [hsize] at *
      rw [show ((⟨str.toArray⟩ : ByteArray).data.map fun b => Value.int .u8 b.toNat) = str.toArray.map fun b => Value.int .u8 b.toNat from rfl]
      simp only [show (Array.map (fun b : UInt8 => Value.int .u8 b.toNat) str.toArray ++ Array.replicate (str.length + w.tape w.drawn (.appendCap str.length 0 e) % (2 ^ 63 - str.length) - str.length) (Value.int .u8 0)) = arr from rfl]
      rw [hshape]
      simp only [run_freeze, Result.andThen_ok, Sem.run_bind, Sem.run_pure]
      simp only [World.freeze, Nat.one_ne_zero, if_false]
      congr 1
      simp only [w', World.mk.injEq, and_true, true_and]
      exact hfz (.cells arr e)
    · simp only [VRel]
      exact ⟨_, c, hm, rfl, by simp [c], by simp [hsz], fun hn => by cases hn⟩
  · cases hs

theorem byteOfD_some {d : D} {b : UInt8} (h : byteOfD d = some b) : ∃ n, d = .int .u8 n ∧ b = UInt8.ofNat n.toNat := by
  cases d <;> simp only [byteOfD, reduceCtorEq] at h
  rename_i k n
  cases k <;> simp only [byteOfD, reduceCtorEq, Option.some.injEq] at h
  exact ⟨n, rfl, h.symm⟩

theorem bytes_loop {P : Program} (f : Value → ByteArray → Sem (ForInStep ByteArray)) (hf : ∀ n s, f (.int .u8 n) s = pure (ForInStep.yield (s.push (UInt8.ofNat n.toNat)))) : ∀ (ns : List Int) (s : ByteArray) (w : World),
    (forIn (ns.map (fun n => Value.int IntKind.u8 n)) s f).run P w = Result.ok (⟨(s.data.toList ++ ns.map fun n => UInt8.ofNat n.toNat).toArray⟩ : ByteArray) w
  | [], s, w => by simp
  | b :: bs, s, w => by
    simp only [List.map_cons, List.forIn_cons, Sem.run_bind, Sem.run_pure, Result.andThen_ok, hf]
    rw [bytes_loop f hf bs _ w]
    congr 1
    apply ByteArray.ext
    apply Array.ext'
    simp [ByteArray.push]

theorem run_bytesToString_some {P : Program} {ad : Addr} {len cap : Nat} {arr : Array Value} {w : World} (hl : (loadCells ad len).run P w = .ok arr w) (ns : List Int) (hb : arr.toList = ns.map (fun n => Value.int .u8 n)) :
    (Conv.bytesToString (.slice (some ad) len cap)).run P w = .ok (.string ⟨(ns.map fun n => UInt8.ofNat n.toNat).toArray⟩) w := by
  simp only [Conv.bytesToString, Sem.run_bind, hl, Result.andThen_ok]
  rw [← Array.forIn_toList, hb, bytes_loop _ (fun _ _ => rfl)]
  simp

theorem bytesD_rel : ∀ {cs : List D} {bs : List UInt8} {vs : List Value}, cs.mapM byteOfD = some bs → VRels M w μ cs vs → ∃ ns : List Int, vs = ns.map (fun n => Value.int .u8 n) ∧ bs = ns.map fun n => UInt8.ofNat n.toNat
  | [], bs, vs, hb, hr => by
    simp at hb; subst hb
    simp only [VRels] at hr; subst hr; exact ⟨[], rfl, rfl⟩
  | c :: cs, bs, vs, hb, hr => by
    simp only [List.mapM_cons, Option.bind_eq_bind, Option.bind_eq_some_iff, Option.pure_def, Option.some.injEq] at hb
    obtain ⟨b, hb, bs', hbs, rfl⟩ := hb
    simp only [VRels] at hr
    obtain ⟨v, r, rfl, h1, h2⟩ := hr
    obtain ⟨n, rfl, rfl⟩ := byteOfD_some hb
    simp only [VRel] at h1; subst h1
    obtain ⟨ns, rfl, rfl⟩ := bytesD_rel hbs h2
    exact ⟨n :: ns, rfl, rfl⟩

theorem op_cvS (h : Rel E M0 w0 N μ M a w x) {s t e : TypeId} (hu : E.P.underlying s = some (.slice e)) (hd : E.P.underlying t = some .string) (he : E.P.underlying e = some (.int .u8)) {o : Operand} {ar : Arg} (h2 : cArg o = some ar)
    {d : D} {x' : AS} (hs : step E.G (.cvS ar) x = some (d, x')) : gd E M0 w0 N μ M w x a d x' w (do pure (.value (← convert s t (a.eval o)))) := by
  have hv := arg_rel h h2
  generalize a.eval o = v at *
  simp only [step_mv, st_mv, step_pick, st_pick, step_new, st_new, step_ld, st_ld, step_st, st_st, step_fa, st_fa, step_iaA, st_iaA, step_iaS, st_iaS, step_ixA, st_ixA, step_ixS, st_ixS, step_fld, st_fld, step_ext, st_ext, step_bin, st_bin, step_cmp, st_cmp, step_un, st_un, step_bld, st_bld, step_bsl, st_bsl, step_mks, st_mks, step_slS, st_slS, step_slV, st_slV, step_slA, st_slA, step_len, st_len, step_cap, st_cap, step_app, st_app, step_copy, st_copy, step_cvI, st_cvI, step_cvN, st_cvN, step_cvB, st_cvB, step_cvS, st_cvS, step_mkif, st_mkif, step_mkfn, st_mkfn, step_nilc, st_nilc, step_rng, st_rng, step_next, st_next, step_mm, st_mm, step_mkm, st_mkm, step_mlk, st_mlk, step_mup, st_mup, step_men, st_men, step_mst, st_mst, step_mln, st_mln, step_rgm, st_rgm, step_nxm, st_nxm, step_ent, st_ent, step_tas, st_tas, step_tai, st_tai, step_xl, st_xl, step_xa, st_xa, step_call, step_callv, step_inv, step_pan, step_dfr, step_rcv] at hs
  split at hs
  · cases hs
  · rename_i hns
    simp only [Option.bind_eq_bind, Option.bind_eq_some_iff] at hs
    obtain ⟨⟨cs, n⟩, hsc, bs, hbs, hs⟩ := hs
    cases hs
    obtain ⟨hlen, hcl, hcells⟩ := src_rel h hsc hv E.P
    obtain ⟨arr, hfc, har⟩ := hcells n (Nat.le_refl _)
    rw [List.take_of_length_le (by simp at hcl ⊢; omega)] at har
    obtain ⟨ns, h3, rfl⟩ := bytesD_rel hbs har
    refine Good.of (v := .string ⟨(ns.map fun n => UInt8.ofNat n.toNat).toArray⟩) h (run_value ?_) (by simp only [VRel])
    have hconv : convert s t v = Conv.bytesToString v → True := fun _ => trivial
    have hsl : ∃ ad len cap, v = .slice ad len cap := by
      generalize ar.ev E.G x.t = d0 at *
      cases d0 <;> simp only [sliceCells, reduceCtorEq] at hsc
      case str s => exact absurd rfl (hns s)
      all_goals simp only [VRel] at hv
      · exact ⟨_, _, _, hv⟩
      · obtain ⟨ad, cap, rfl, _⟩ := hv; exact ⟨_, _, _, rfl⟩
      · obtain ⟨l, b, _, _, rfl, _⟩ := hv; exact ⟨_, _, _, rfl⟩
      · obtain ⟨l, b, _, rfl, _⟩ := hv; exact ⟨_, _, _, rfl⟩
    obtain ⟨ad, len, cap, rfl⟩ := hsl
    simp [Builtin.lenOf] at hlen
    subst hlen
    cases ad with
    | none =>
      simp [Builtin.firstCells] at hfc
      subst hfc
      have : ns = [] := by simpa using h3.symm
      subst this
      simp only [convert, Sem.run_bind, run_underlying hu, run_underlying hd, run_underlying he, Result.andThen_ok, Conv.bytesToString, Sem.run_pure]
      rfl
    | some ad =>
      simp only [Builtin.firstCells, Nat.mul_one] at hfc
      simp only [convert, Sem.run_bind, run_underlying hu, run_underlying hd, run_underlying he, Result.andThen_ok]
      exact run_bytesToString_some hfc ns h3

theorem op_copy (h : Rel E M0 w0 N μ M a w x) {t u e ty : TypeId} {sz : Nat} (hu : E.P.underlying t = some (.slice e)) (hsz : szOf E.P e = some sz) {o p : Operand} {ar pr : Arg} (h2 : cArg o = some ar) (h3 : cArg p = some pr)
    {d : D} {x' : AS} (hs : step E.G (.copy sz ar pr) x = some (d, x')) : gd E M0 w0 N μ M w x a d x' w (do pure (.value (← Builtin.copy_ #[t, u] ty #[a.eval o, a.eval p]))) := by
  have hv := arg_rel h h2
  have hp := arg_rel h h3
  generalize a.eval o = v at *
  generalize a.eval p = y at *
  simp only [step_mv, st_mv, step_pick, st_pick, step_new, st_new, step_ld, st_ld, step_st, st_st, step_fa, st_fa, step_iaA, st_iaA, step_iaS, st_iaS, step_ixA, st_ixA, step_ixS, st_ixS, step_fld, st_fld, step_ext, st_ext, step_bin, st_bin, step_cmp, st_cmp, step_un, st_un, step_bld, st_bld, step_bsl, st_bsl, step_mks, st_mks, step_slS, st_slS, step_slV, st_slV, step_slA, st_slA, step_len, st_len, step_cap, st_cap, step_app, st_app, step_copy, st_copy, step_cvI, st_cvI, step_cvN, st_cvN, step_cvB, st_cvB, step_cvS, st_cvS, step_mkif, st_mkif, step_mkfn, st_mkfn, step_nilc, st_nilc, step_rng, st_rng, step_next, st_next, step_mm, st_mm, step_mkm, st_mkm, step_mlk, st_mlk, step_mup, st_mup, step_men, st_men, step_mst, st_mst, step_mln, st_mln, step_rgm, st_rgm, step_nxm, st_nxm, step_ent, st_ent, step_tas, st_tas, step_tai, st_tai, step_xl, st_xl, step_xa, st_xa, step_call, step_callv, step_inv, step_pan, step_dfr, step_rcv, Option.bind_eq_bind, Option.bind_eq_some_iff] at hs
  obtain ⟨⟨ys, n⟩, hsc, hs⟩ := hs
  obtain ⟨hln, hyl, hyc⟩ := src_rel h hsc hp E.P
  split at hs
  · rename_i he
    rw [he] at hv; simp only [VRel] at hv; subst hv
    cases hs
    obtain ⟨arr, hfc, _⟩ := hyc 0 (Nat.zero_le _)
    refine Good.of (v := .int .i64 0) h (run_value ?_) (by simp only [VRel])
    simp [Builtin.copy_, run_underlying hu, hln, run_sizeOf' hsz, hfc, goInt]
  · rename_i nm off z len c he
    rw [he] at hv; simp only [VRel] at hv
    obtain ⟨l, b, k1, k2, rfl, k3, k4⟩ := hv
    simp only [Option.bind_eq_some_iff] at hs
    obtain ⟨blk, hg, hs⟩ := hs
    cases hz : Nat.beq z sz <;> rw [hz] at hs
    · cases hs
    simp only [cond_true, Option.map_eq_some_iff] at hs
    obtain ⟨blk', hst, he'⟩ := hs
    cases he'
    obtain ⟨arr, hfc, har⟩ := hyc (min n len) (Nat.min_le_left _ _)
    obtain ⟨w', hrun, hx, hR, hf⟩ := write_rel h hg hst k1 k2 har
    refine ⟨.int .i64 (min n len : Nat), w', μ, .inl (run_value ?_), by simp only [VRel], hR, hf⟩
    have hmin : Nat.min n len = min n len := rfl
    simp only [Builtin.copy_, List.getElem?_toArray, List.getElem?_cons_zero, List.getElem?_cons_succ, Sem.run_bind, run_underlying hu, hln, run_sizeOf' hsz, Result.andThen_ok, Sem.run_pure, hmin, hfc, hrun, goInt]
  · rename_i nm off z len he
    rw [he] at hv; simp only [VRel] at hv
    obtain ⟨⟨lb, lc⟩, cap, k1, rfl, k3, k4, k5⟩ := hv
    simp only [Option.bind_eq_some_iff] at hs
    obtain ⟨blk, hg, hs⟩ := hs
    cases hz : Nat.beq z sz <;> rw [hz] at hs
    · cases hs
    simp only [cond_true, Option.map_eq_some_iff] at hs
    obtain ⟨blk', hst, he'⟩ := hs
    cases he'
    obtain ⟨arr, hfc, har⟩ := hyc (min n len) (Nat.min_le_left _ _)
    have hmin : Nat.min n len = min n len := rfl
    cases lb with
    | some b =>
      obtain ⟨w', hrun, hx, hR, hf⟩ := write_rel h hg hst k1 rfl har
      refine ⟨.int .i64 (min n len : Nat), w', μ, .inl (run_value ?_), by simp only [VRel], hR, hf⟩
      simp only [Option.map_some, Builtin.copy_, List.getElem?_toArray, List.getElem?_cons_zero, List.getElem?_cons_succ, Sem.run_bind, run_underlying hu, hln, run_sizeOf' hsz, Result.andThen_ok, Sem.run_pure, hmin, hfc, hrun, goInt]
    | none =>
      have hc0 : cap = 0 := k5 rfl
      have hl0 : len = 0 := by omega
      subst hl0
      -- nothing is stored
      have hsame : blk' = blk := by
        simp only [Nat.min_zero, Nat.zero_mul, List.take_zero] at hst
        unfold stB at hst
        simp only [List.any_nil, cond_false] at hst
        split at hst
        · rename_i cs
          cases hb : Nat.ble (off + ([] : List D).length) cs.length <;> rw [hb] at hst
          · cases hst
          · simp only [cond_true, setAt, Option.some.injEq] at hst; exact hst.symm
        · rename_i cs
          cases hb : Nat.ble (off + ([] : List D).length) cs.length <;> rw [hb] at hst
          · cases hst
          · simp only [cond_true, setAt, Option.some.injEq] at hst; exact hst.symm
        · cases hst
      subst hsame
      have hss : ∀ k, sget (sset x.s nm blk') k = sget x.s k := fun k => by
        rw [sget_sset]
        by_cases hk : k = nm
        · simp [hk, hg]
        · simp [hk]
      refine ⟨.int .i64 (min n 0 : Nat), w, μ, .inl (run_value ?_), by simp only [VRel], h.congr (fun n => .inl rfl) hss (Nat.le_refl _) rfl, ⟨Nat.le_refl _, fun _ _ _ => rfl, fun b _ ⟨nm', l', h1, h2, h3⟩ => ⟨nm', l', by rw [← hss]; exact h1, h2, h3⟩, muLe.refl μ, Nat.le_refl _, fun _ _ h => h⟩⟩
      · simp only [Option.map_none, Builtin.copy_, List.getElem?_toArray, List.getElem?_cons_zero, List.getElem?_cons_succ, Sem.run_bind, run_underlying hu, hln, run_sizeOf' hsz, Result.andThen_ok, Sem.run_pure, hmin, hfc, goInt]
  · cases hs

theorem op_rng (h : Rel E M0 w0 N μ M a w x) {t : TypeId} (hu : E.P.underlying t = some .string) {o : Operand} {ar : Arg} (h2 : cArg o = some ar) {d : D} {x' : AS}
    (hs : step E.G (.rng ar) x = some (d, x')) : gd E M0 w0 N μ M w x a d x' w (do pure (.value (← Instr.range t (a.eval o)))) := by
  have hv := arg_rel h h2
  generalize a.eval o = v at *
  simp only [step_mv, st_mv, step_pick, st_pick, step_new, st_new, step_ld, st_ld, step_st, st_st, step_fa, st_fa, step_iaA, st_iaA, step_iaS, st_iaS, step_ixA, st_ixA, step_ixS, st_ixS, step_fld, st_fld, step_ext, st_ext, step_bin, st_bin, step_cmp, st_cmp, step_un, st_un, step_bld, st_bld, step_bsl, st_bsl, step_mks, st_mks, step_slS, st_slS, step_slV, st_slV, step_slA, st_slA, step_len, st_len, step_cap, st_cap, step_app, st_app, step_copy, st_copy, step_cvI, st_cvI, step_cvN, st_cvN, step_cvB, st_cvB, step_cvS, st_cvS, step_mkif, st_mkif, step_mkfn, st_mkfn, step_nilc, st_nilc, step_rng, st_rng, step_next, st_next, step_mm, st_mm, step_mkm, st_mkm, step_mlk, st_mlk, step_mup, st_mup, step_men, st_men, step_mst, st_mst, step_mln, st_mln, step_rgm, st_rgm, step_nxm, st_nxm, step_ent, st_ent, step_tas, st_tas, step_tai, st_tai, step_xl, st_xl, step_xa, st_xa, step_call, step_callv, step_inv, step_pan, step_dfr, step_rcv] at hs
  split at hs
  · rename_i s he
    rw [he] at hv; simp only [VRel] at hv; subst hv
    cases hs
    let w' : World := { w with heap := w.heap.push (.stringIter ⟨s.toArray⟩ 0) }
    obtain ⟨hx, hR, hf⟩ := h.fresh x.c (Nat.le_refl _) (.iter s 0) (.stringIter ⟨s.toArray⟩ 0) 0 (w' := w') (x' := x.add (.iter s 0)) rfl (fun _ => rfl) (fun n => sget_sadd _ _ _ _) rfl rfl (fun hx hM => ⟨⟨some w.heap.size, 0⟩, w.heap.size, by simp [muSet], rfl, hM, by simp [w']⟩)
    refine ⟨.pointer (some ⟨w.heap.size, 0, none⟩), w', _, .inl (run_value (by simp [Instr.range, run_underlying hu, w'])), ?_, hR, hf⟩
    simp only [VRel]
    exact ⟨_, _, by simp [muSet]; rfl, rfl, rfl⟩
  · cases hs

theorem op_next (h : Rel E M0 w0 N μ M a w x) {o : Operand} {ar : Arg} (h2 : cArg o = some ar) {ty : TypeId} {d : D} {x' : AS}
    (hs : step E.G (.next ar) x = some (d, x')) : gd E M0 w0 N μ M w x a d x' w (do pure (.value (← Instr.next (a.eval o) true ty))) := by
  have hv := arg_rel h h2
  generalize a.eval o = v at *
  simp only [step_mv, st_mv, step_pick, st_pick, step_new, st_new, step_ld, st_ld, step_st, st_st, step_fa, st_fa, step_iaA, st_iaA, step_iaS, st_iaS, step_ixA, st_ixA, step_ixS, st_ixS, step_fld, st_fld, step_ext, st_ext, step_bin, st_bin, step_cmp, st_cmp, step_un, st_un, step_bld, st_bld, step_bsl, st_bsl, step_mks, st_mks, step_slS, st_slS, step_slV, st_slV, step_slA, st_slA, step_len, st_len, step_cap, st_cap, step_app, st_app, step_copy, st_copy, step_cvI, st_cvI, step_cvN, st_cvN, step_cvB, st_cvB, step_cvS, st_cvS, step_mkif, st_mkif, step_mkfn, st_mkfn, step_nilc, st_nilc, step_rng, st_rng, step_next, st_next, step_mm, st_mm, step_mkm, st_mkm, step_mlk, st_mlk, step_mup, st_mup, step_men, st_men, step_mst, st_mst, step_mln, st_mln, step_rgm, st_rgm, step_nxm, st_nxm, step_ent, st_ent, step_tas, st_tas, step_tai, st_tai, step_xl, st_xl, step_xa, st_xa, step_call, step_callv, step_inv, step_pan, step_dfr, step_rcv] at hs
  split at hs
  · rename_i nm he
    rw [he] at hv; simp only [VRel] at hv
    obtain ⟨l, b, k1, k2, rfl⟩ := hv
    split at hs
    · rename_i s pos hg
      obtain ⟨l', b', g1, g2, g3, g4⟩ := h.st nm _ _ k1 hg
      rw [k1] at g1; cases g1; rw [k2] at g2; cases g2
      have hsize : (⟨s.toArray⟩ : ByteArray).size = s.length := by simp [ByteArray.size]
      cases hlt : Nat.blt pos s.length <;> rw [hlt] at hs
      · cases hs
        have hlt' : ¬ pos < s.length := fun hc => by rw [← Nat.blt_eq] at hc; rw [hc] at hlt; cases hlt
        refine Good.of (v := .tuple #[.bool false]) h (run_value ?_) ?_
        · simp [Instr.next, getObj, Sem.run, g4, hsize, hlt']
        · simp only [VRel]
          exact ⟨_, rfl, VRels.cons (by simp only [VRel]) VRels.nil⟩
      · cases hs
        have hlt' : pos < s.length := by rw [Nat.blt_eq] at hlt; exact hlt
        have hb : b < w.heap.size := (h.own nm l b k1 k2).2
        let w' : World := { w with heap := w.heap.setIfInBounds b (.stringIter ⟨s.toArray⟩ (pos + (decodeD s pos).2)) }
        obtain ⟨hx, hR, hf⟩ := h.write nm (.iter s (pos + (decodeD s pos).2)) l b (w' := w') (x' := { x with s := sset x.s nm (.iter s (pos + (decodeD s pos).2)) }) k1 k2 (by rw [hg]; rfl) (by simp [w']) (fun k hk => by
            simp only [w']; rw [Array.getElem?_setIfInBounds_ne (fun e => hk e.symm)]) (fun n => rfl) (fun n => by rw [sget_sset]) rfl rfl (fun hx => ⟨l, b, k1, k2, g3, by simp [w', hb]⟩)
        refine ⟨.tuple #[.bool true, goInt pos, .int .i32 (decodeD s pos).1], w', μ, .inl (run_value ?_), ?_, hR, hf⟩
        · simp only [Instr.next, getObj, Sem.run_bind, Sem.run, g4, Result.andThen_ok, hsize, hlt', if_true, setObj, w', decodeD]
          rfl
        · simp only [VRel]
          exact ⟨_, rfl, VRels.cons (by simp only [VRel]) (VRels.cons (by simp only [VRel, goInt]) (VRels.cons (by simp only [VRel]) VRels.nil))⟩
    · cases hs
  · cases hs
end

end Zv
/- Maps, iterators over maps, type assertions: what the model does is what the abstract operations say. Conditions: none. -/
set_option linter.unusedSimpArgs false
set_option linter.unusedVariables false
namespace Zv
open Go

/-- A kind of keys, and how the abstract side compares them. -/
def KeyB (td : TypeDesc) (k : ET) : Prop := (td = .bool ∧ k = .bool) ∨ (∃ i, td = .int i ∧ k = .int) ∨ (td = .string ∧ k = .str)
def KeyA (P : Program) (td : TypeDesc) (k : ET) : Prop :=
  ∃ len el c, td = .array len el ∧ P.underlying el = some (.int c) ∧ cSz P el = some none ∧ szOf P el = some 1 ∧ k = .parts ((List.range len).map fun i => (i, none, .int))

theorem keyT_kind {P : Program} {t : TypeId} {k : ET} (h : keyT P t = some k) : ∃ td, P.underlying t = some td ∧ (KeyB td k ∨ KeyA P td k) := by
  unfold keyT at h
  split at h
  · cases h; exact ⟨_, by assumption, .inl (.inl ⟨rfl, rfl⟩)⟩
  · cases h; exact ⟨_, by assumption, .inl (.inr (.inl ⟨_, rfl, rfl⟩))⟩
  · cases h; exact ⟨_, by assumption, .inl (.inr (.inr ⟨rfl, rfl⟩))⟩
  · rename_i len el hu
    split at h
    · rename_i c h1 h2 h3
      cases h
      exact ⟨_, hu, .inr ⟨_, _, _, rfl, h1, h2, h3, rfl⟩⟩
    · cases h
  · cases h

theorem keqs_spec : ∀ {xs ys : List D} {r : Bool}, keqs xs ys = some r → (∀ d ∈ xs, ∃ k n, d = D.int k n) ∧ xs.length = ys.length ∧ (r = true → xs = ys)
  | [], [], r, h => ⟨fun d hd => (by cases hd), rfl, fun _ => rfl⟩
  | [], _ :: _, r, h => by simp [keqs] at h
  | d :: xs, [], r, h => by cases d <;> simp [keqs] at h
  | d :: xs, e :: ys, r, h => by
    cases d <;> cases e <;> simp only [keqs, reduceCtorEq] at h
    rename_i k a j b
    split at h
    · rename_i hkj
      subst hkj
      split at h
      · rename_i r' hr'
        cases h
        obtain ⟨g1, g2, g3⟩ := keqs_spec hr'
        refine ⟨fun d hd => ?_, by simp [g2], fun e => ?_⟩
        · rcases List.mem_cons.1 hd with rfl | hd
          · exact ⟨_, _, rfl⟩
          · exact g1 d hd
        · simp only [Bool.and_eq_true, beq_iff_eq] at e
          rw [e.1, g3 e.2]
      · cases h
    · cases h

theorem keqs_eqT (xs ys : List D) : ∀ (m o : Nat) (xs' ys' : List D) (r : Bool), xs.drop o = xs' → ys.drop o = ys' → xs'.length = m → keqs xs' ys' = some r →
    eqTs ((List.range' o m).map fun i => (i, none, ET.int)) xs ys = some r
  | 0, o, xs', ys', r, hx, hy, hl, hk => by
    cases xs' with
    | cons a b => cases hl
    | nil => cases ys' with
      | nil => simpa [eqTs, keqs] using hk
      | cons a b => simp [keqs] at hk
  | m + 1, o, xs', ys', r, hx, hy, hl, hk => by
    cases xs' with
    | nil => cases hl
    | cons d xs'' => cases ys' with
      | nil => cases d <;> simp [keqs] at hk
      | cons e ys'' =>
        have h1 : xs[o]? = some d := by rw [← List.head?_drop, hx]; rfl
        have h2 : ys[o]? = some e := by rw [← List.head?_drop, hy]; rfl
        have h3 : xs.drop (o + 1) = xs'' := by rw [← List.tail_drop, hx]; rfl
        have h4 : ys.drop (o + 1) = ys'' := by rw [← List.tail_drop, hy]; rfl
        simp only [List.length_cons, Nat.add_right_cancel_iff] at hl
        cases d <;> cases e <;> simp only [keqs, reduceCtorEq] at hk
        rename_i k a j b
        split at hk
        · rename_i hkj
          subst hkj
          split at hk
          · rename_i r' hr'
            cases hk
            have ih := keqs_eqT xs ys m (o + 1) xs'' ys'' r' h3 h4 hl hr'
            simp only [List.range'_succ, List.map_cons, eqTs, takeAt, h1, h2, eqT, if_true, ih]
            cases a == b <;> simp
          · cases hk
        · cases hk

section
variable {E : Env} {M0 : Nat → Prop} {w0 : World} {N : Nat} {μ : Mu} {M : Nat → Prop} {a : Act} {w : World} {x : AS}

theorem ba_beq (p q : List UInt8) : ((⟨p.toArray⟩ : ByteArray) == ⟨q.toArray⟩) = (p == q) := by
  show (p.toArray == q.toArray) = _
  simp

theorem same_rel {td : TypeDesc} {k : ET} (hk : KeyB td k) {i j : D} {u v : Value} {r : Bool} (h : eqT k i j = some r) (hu : VRel M w μ i u) (hv : VRel M w μ j v) :
    Instr.sameNow td u v = some r ∧ (r = true → i = j ∧ u = v ∧ Instr.sameBits 10000 v u = true) := by
  rcases hk with ⟨rfl, rfl⟩ | ⟨c, rfl, rfl⟩ | ⟨rfl, rfl⟩
  · unfold eqT at h
    split at h
    all_goals first
      | (cases h; done)
      | (rename_i e; cases e; done)
      | skip
    cases h
    simp only [VRel] at hu hv
    subst hu hv
    refine ⟨rfl, fun e => ?_⟩
    have e' := eq_of_beq e
    subst e'
    exact ⟨rfl, rfl, by simp [Instr.sameBits]⟩
  · unfold eqT at h
    split at h
    all_goals first
      | (cases h; done)
      | (rename_i e; cases e; done)
      | skip
    rename_i k1 a1 k2 a2 _
    simp only [VRel] at hu hv
    subst hu hv
    by_cases e : k1 = k2
    · rw [if_pos e] at h
      cases h
      subst e
      refine ⟨by simp [Instr.sameNow], fun e => ?_⟩
      have e' := eq_of_beq e
      subst e'
      exact ⟨rfl, rfl, by simp [Instr.sameBits]⟩
    · rw [if_neg e] at h; cases h
  · unfold eqT at h
    split at h
    all_goals first
      | (cases h; done)
      | (rename_i e; cases e; done)
      | skip
    cases h
    simp only [VRel] at hu hv
    subst hu hv
    rename_i p q _
    refine ⟨?_, fun e => ?_⟩
    · simp only [Instr.sameNow, Option.some.injEq]
      exact ba_beq p q
    · have e' := eq_of_beq e
      subst e'
      exact ⟨rfl, rfl, by simp only [Instr.sameBits, ba_beq]; simp⟩

theorem keyEq_b {td : TypeDesc} {k : ET} (hk : KeyB td k) (a b : D) : keyEq k a b = eqT k a b := by
  rcases hk with ⟨_, rfl⟩ | ⟨_, _, rfl⟩ | ⟨_, rfl⟩ <;> rfl

theorem run_checkKey {P : Program} {t : TypeId} {td : TypeDesc} {k : ET} (hu : P.underlying t = some td) (hk : KeyB td k) (e : Bool) (v : Value) (w : World) :
    (Instr.checkKey e 10000 t v).run P w = .ok () w := by
  rw [show (10000 : Nat) = 9999 + 1 from rfl]
  unfold Instr.checkKey
  simp only [Sem.run_bind, run_underlying hu, Result.andThen_ok]
  rcases hk with ⟨rfl, rfl⟩ | ⟨c, rfl, rfl⟩ | ⟨rfl, rfl⟩ <;> rfl

theorem find_rel {td : TypeDesc} {k : ET} (hk : KeyB td k) {i : D} {v : Value} (hv : VRel M w μ i v) : ∀ {es : List (D × D × Nat)} {ents : List MapEntry} {n : Nat} {r : Option (Nat × D)}, MEs M w μ es ents →
    mfind k i es n = some r → (r = none ∧ Instr.findNow td v ents n = some none) ∨
      ∃ j d e kd b, r = some (n + j, d) ∧ Instr.findNow td v ents n = some (some (n + j, e.val)) ∧ ents[j]? = some e ∧ es[j]? = some (kd, d, b) ∧ VRel M w μ d e.val ∧ e.key = v ∧ Instr.sameBits 10000 e.key v = true
  | [], ents, n, r, h, hm => by
    simp only [MEs] at h
    subst h
    unfold mfind at hm
    cases hko : keyOk k i <;> rw [hko] at hm <;> cases hm
    exact .inl ⟨rfl, rfl⟩
  | (kd, d, b) :: rest, ents, n, r, h, hm => by
    simp only [MEs] at h
    obtain ⟨e, r', rfl, h1, h2, h3, h4⟩ := h
    unfold mfind at hm
    split at hm
    · rename_i he
      cases hm
      obtain ⟨g1, g2⟩ := same_rel hk ((keyEq_b hk _ _).symm.trans he) hv h1
      obtain ⟨_, g3, g4⟩ := g2 rfl
      refine .inr ⟨0, d, e, kd, b, rfl, ?_, rfl, rfl, h2, g3.symm, g4⟩
      simp [Instr.findNow, g1]
    · rename_i he
      obtain ⟨g1, _⟩ := same_rel hk ((keyEq_b hk _ _).symm.trans he) hv h1
      rcases find_rel hk hv h4 hm with ⟨q1, q2⟩ | ⟨j, d', e', kd', b', q1, q2, q3, q4, q5⟩
      · exact .inl ⟨q1, by simp [Instr.findNow, g1, q2]⟩
      · refine .inr ⟨j + 1, d', e', kd', b', by rw [q1]; congr 2; omega, ?_, by simpa using q3, by simpa using q4, q5⟩
        simp only [Instr.findNow, g1, q2]
        congr 3; omega
    · cases hm

theorem run_findKey {P : Program} {t : TypeId} {td : TypeDesc} (hu : P.underlying t = some td) {v : Value} {ents : List MapEntry} {r : Option (Nat × Value)} (h : Instr.findNow td v ents 0 = some r) (w : World) :
    (Instr.findKey t v ents).run P w = .ok r w := by
  simp only [Instr.findKey, Sem.run_bind, run_underlying hu, Result.andThen_ok, h, Sem.run_pure]

theorem arr_eq {P : Program} {t el : TypeId} {len : Nat} {c : IntKind} (hu : P.underlying t = some (.array len el)) (hel : P.underlying el = some (.int c)) (hcs : cSz P el = some none) (hsz : szOf P el = some 1)
    {i j : D} {u v : Value} {r : Bool} (h : keyEq (.parts ((List.range len).map fun i => (i, none, .int))) i j = some r) (hu' : VRel M w μ i u) (hv : VRel M w μ j v) :
    (Op.equal t u v).run P w = .ok r w ∧ (∃ xs, i = .agg xs ∧ xs.length = len ∧ ∀ d ∈ xs, ∃ k n, d = D.int k n) ∧ (r = true → i = j) := by
  unfold keyEq at h
  simp only at h
  split at h
  · rename_i xs ys
    cases hl : Nat.beq xs.length ((List.range len).map fun i => (i, (none : Option Nat), ET.int)).length <;> rw [hl] at h
    · cases h
    have hl' := Nat.eq_of_beq_eq_true hl
    simp only [List.length_map, List.length_range] at hl'
    simp only [cond_true] at h
    obtain ⟨g1, g2, g3⟩ := keqs_spec h
    have he1 : eT P 19 el = some .int := by
      rw [show (19 : Nat) = 18 + 1 from rfl]; unfold eT; rw [hel]
    have he : eT P 20 t = some (.parts ((List.range len).map fun i => (i, none, ET.int))) := by
      rw [show (20 : Nat) = 19 + 1 from rfl]; unfold eT; rw [hu]; simp [hcs, hsz, he1]
    have hq : eqT (.parts ((List.range len).map fun i => (i, none, ET.int))) (.agg xs) (.agg ys) = some r := by
      simp only [eqT]
      rw [List.range_eq_range']
      exact keqs_eqT xs ys len 0 xs ys r rfl rfl hl' h
    have := eqT_rel 20 t _ _ _ r u v he hq hu' hv 10000 (by omega)
    exact ⟨by simpa only [Op.equal, Op.maxDepth] using this, ⟨xs, rfl, hl', g1⟩, fun e => by rw [g3 e]⟩
  · cases h

theorem ints_eq {xs : List D} (hx : ∀ d ∈ xs, ∃ k n, d = D.int k n) : ∀ {us vs : List Value}, VRels M w μ xs us → VRels M w μ xs vs → us = vs ∧ ∀ n, (us.zip us).all (fun (x, y) => Instr.sameBits n x y) = true := by
  induction xs with
  | nil =>
    intro us vs h1 h2
    simp only [VRels] at h1 h2
    subst h1 h2
    exact ⟨rfl, fun _ => rfl⟩
  | cons d r ih =>
    intro us vs h1 h2
    simp only [VRels] at h1 h2
    obtain ⟨u, ur, rfl, h3, h4⟩ := h1
    obtain ⟨v, vr, rfl, h5, h6⟩ := h2
    obtain ⟨k, n, rfl⟩ := hx d List.mem_cons_self
    simp only [VRel] at h3 h5
    subst h3 h5
    obtain ⟨g1, g2⟩ := ih (fun d hd => hx d (List.mem_cons_of_mem _ hd)) h4 h6
    refine ⟨by rw [g1], fun m => ?_⟩
    simp only [List.zip_cons_cons, List.all_cons, g2 m, Bool.and_true]
    cases m <;> simp [Instr.sameBits]

theorem agg_same {i : D} {u v : Value} {xs : List D} (e : i = .agg xs) (hx : ∀ d ∈ xs, ∃ k n, d = D.int k n) (h1 : VRel M w μ i u) (h2 : VRel M w μ i v) : u = v ∧ Instr.sameBits 10000 u v = true := by
  subst e
  simp only [VRel] at h1 h2
  obtain ⟨us, rfl, h1⟩ := h1
  obtain ⟨vs, rfl, h2⟩ := h2
  obtain ⟨g1, g2⟩ := ints_eq hx h1 h2
  have : us = vs := Array.ext' g1
  subst this
  refine ⟨rfl, ?_⟩
  rw [show (10000 : Nat) = 9999 + 1 from rfl]
  unfold Instr.sameBits
  simp only [beq_self_eq_true, Bool.true_and]
  exact g2 9999

theorem find_arr {P : Program} {t el : TypeId} {len : Nat} {c : IntKind} (hu : P.underlying t = some (.array len el)) (hel : P.underlying el = some (.int c)) (hcs : cSz P el = some none) (hsz : szOf P el = some 1)
    {i : D} {v : Value} (hv : VRel M w μ i v) : ∀ {es : List (D × D × Nat)} {ents : List MapEntry} {n : Nat} {r : Option (Nat × D)}, MEs M w μ es ents →
    mfind (.parts ((List.range len).map fun i => (i, none, .int))) i es n = some r → (∃ xs, i = .agg xs ∧ xs.length = len ∧ ∀ d ∈ xs, ∃ k n, d = D.int k n) ∧ ((r = none ∧ (Instr.findAsking t v ents n).run P w = .ok none w) ∨
      ∃ j d e kd b, r = some (n + j, d) ∧ (Instr.findAsking t v ents n).run P w = .ok (some (n + j, e.val)) w ∧ ents[j]? = some e ∧ es[j]? = some (kd, d, b) ∧ VRel M w μ d e.val ∧ e.key = v ∧ Instr.sameBits 10000 e.key v = true)
  | [], ents, n, r, h, hm => by
    simp only [MEs] at h
    subst h
    unfold mfind at hm
    cases hko : keyOk (.parts ((List.range len).map fun i => (i, none, .int))) i <;> rw [hko] at hm <;> cases hm
    refine ⟨?_, .inl ⟨rfl, rfl⟩⟩
    unfold keyOk at hko
    simp only at hko
    split at hko
    · rename_i q hq
      exact (arr_eq hu hel hcs hsz hq hv hv).2.1
    · cases hko
  | (kd, d, b) :: rest, ents, n, r, h, hm => by
    simp only [MEs] at h
    obtain ⟨e, r', rfl, h1, h2, h3, h4⟩ := h
    unfold mfind at hm
    split at hm
    · rename_i he
      cases hm
      obtain ⟨g1, ⟨xs, g2, g3, g4⟩, g5⟩ := arr_eq hu hel hcs hsz he hv h1
      have hkv := agg_same g2 g4 hv (by rw [g5 rfl]; exact h1)
      refine ⟨⟨xs, g2, g3, g4⟩, .inr ⟨0, d, e, kd, b, rfl, ?_, rfl, rfl, h2, hkv.1.symm, by rw [← hkv.1]; have := hkv.2; rwa [← hkv.1] at this⟩⟩
      simp only [Instr.findAsking, Sem.run_bind, g1, Result.andThen_ok, if_true, Sem.run_pure, Nat.add_zero]
    · rename_i he
      obtain ⟨g1, _, _⟩ := arr_eq hu hel hcs hsz he hv h1
      obtain ⟨hx, hh⟩ := find_arr hu hel hcs hsz hv h4 hm
      refine ⟨hx, ?_⟩
      rcases hh with ⟨q1, q2⟩ | ⟨j, d', e', kd', b', q1, q2, q3, q4, q5⟩
      · exact .inl ⟨q1, by simp only [Instr.findAsking, Sem.run_bind, g1, Result.andThen_ok, Bool.false_eq_true, if_false, q2]⟩
      · refine .inr ⟨j + 1, d', e', kd', b', by rw [q1]; congr 2; omega, ?_, by simpa using q3, by simpa using q4, q5⟩
        simp only [Instr.findAsking, Sem.run_bind, g1, Result.andThen_ok, Bool.false_eq_true, if_false, q2]
        congr 3; omega
    · cases hm

theorem run_checkKey_arr {P : Program} {t el : TypeId} {len : Nat} {c : IntKind} (hu : P.underlying t = some (.array len el)) (hel : P.underlying el = some (.int c)) (hcs : cSz P el = some none) (hsz : szOf P el = some 1)
    {i : D} {v : Value} (hv : VRel M w μ i v) {xs : List D} (hi : i = .agg xs) (hl : xs.length = len) (hx : ∀ d ∈ xs, ∃ k n, d = D.int k n) (e : Bool) :
    (Instr.checkKey e 10000 t v).run P w = .ok () w := by
  subst hi
  simp only [VRel] at hv
  obtain ⟨vs, rfl, hr⟩ := hv
  obtain ⟨ii, bb, h3, h4, h5⟩ := cSz_some hcs
  have hbb : bb = false := by cases bb <;> simp at h5 ⊢
  subst hbb
  rw [show (10000 : Nat) = 9999 + 1 from rfl]
  unfold Instr.checkKey
  simp only [Sem.run_bind, run_underlying hu, Result.andThen_ok, run_sizeOf' hsz]
  have hstep : ∀ j, j < len → ∃ u, (part el vs (j * 1)).run P w = .ok u w ∧ (Instr.checkKey e 9999 el u).run P w = .ok () w := by
    intro j hj
    obtain ⟨u, hu1, hu2⟩ := part_rel (P := P) (off := j * 1) (bb := false) hr h4 hsz (d := xs[j]'(by omega)) (by simp only [cond_false, takeAt, Nat.mul_one]; exact List.getElem?_eq_getElem (by omega))
    refine ⟨u, hu1, ?_⟩
    rw [show (9999 : Nat) = 9998 + 1 from rfl]
    unfold Instr.checkKey
    simp only [Sem.run_bind, run_underlying hel, Result.andThen_ok]
    rfl
  simp only [Std.Legacy.Range.forIn_eq_forIn_range', Std.Legacy.Range.size, Nat.sub_zero, Nat.add_sub_cancel, Nat.div_one]
  have hL : ∀ j ∈ List.range' 0 len, j < len := fun j hj => by have := List.mem_range'_1.1 hj; omega
  generalize List.range' 0 len = L at hL
  induction L with
  | nil => rfl
  | cons j r ih =>
    obtain ⟨u, g1, g2⟩ := hstep j (hL j List.mem_cons_self)
    simp only [List.forIn_cons, Sem.run_bind, g1, g2, Result.andThen_ok, Sem.run_pure, run_sizeOf' hsz]
    exact ih fun j hj => hL j (List.mem_cons_of_mem _ hj)

/-- A key is looked for. -/
theorem find_run {P : Program} {t : TypeId} {td : TypeDesc} {k : ET} (hu : P.underlying t = some td) (hk : KeyB td k ∨ KeyA P td k) {i : D} {v : Value} (hv : VRel M w μ i v) {es : List (D × D × Nat)} {ents : List MapEntry} {r : Option (Nat × D)}
    (h : MEs M w μ es ents) (hm : mfind k i es 0 = some r) : (∀ e, (Instr.checkKey e 10000 t v).run P w = .ok () w) ∧ ((r = none ∧ (Instr.findKey t v ents).run P w = .ok none w) ∨
      ∃ j d e kd b, r = some (j, d) ∧ (Instr.findKey t v ents).run P w = .ok (some (j, e.val)) w ∧ ents[j]? = some e ∧ es[j]? = some (kd, d, b) ∧ VRel M w μ d e.val ∧ e.key = v ∧ Instr.sameBits 10000 e.key v = true) := by
  rcases hk with hk | ⟨len, el, c, rfl, hel, hcs, hsz, rfl⟩
  · refine ⟨fun e => run_checkKey hu hk e v w, ?_⟩
    rcases find_rel hk hv h hm with ⟨q1, q2⟩ | ⟨j, d, e, kd, b, q1, q2, q3⟩
    · exact .inl ⟨q1, run_findKey hu q2 w⟩
    · rw [Nat.zero_add] at q1 q2
      exact .inr ⟨j, d, e, kd, b, q1, run_findKey hu q2 w, q3⟩
  · obtain ⟨⟨xs, g1, g2, g3⟩, hh⟩ := find_arr hu hel hcs hsz hv h hm
    refine ⟨fun e => run_checkKey_arr hu hel hcs hsz hv g1 g2 g3 e, ?_⟩
    have hfk : (Instr.findKey t v ents).run P w = (Instr.findAsking t v ents 0).run P w := by
      simp only [Instr.findKey, Sem.run_bind, run_underlying hu, Result.andThen_ok]
      cases ents with
      | nil => simp [Instr.findNow, Instr.findAsking]
      | cons a b => simp [Instr.findNow, Instr.sameNow]
    rw [hfk]
    rcases hh with hh | ⟨j, d, e, kd, b, q1, q2, q3⟩
    · exact .inl hh
    · rw [Nat.zero_add] at q1 q2
      exact .inr ⟨j, d, e, kd, b, q1, q2, q3⟩

theorem MEs.length : ∀ {es : List (D × D × Nat)} {ents : List MapEntry}, MEs M w μ es ents → ents.length = es.length
  | [], _, h => by simp only [MEs] at h; subst h; rfl
  | (k, v, n) :: r, _, h => by
    simp only [MEs] at h
    obtain ⟨e, r', rfl, _, _, _, h4⟩ := h
    simp [MEs.length h4]

theorem MEs.set {d' : D} {u key : Value} (hd : VRel M w μ d' u) : ∀ {es : List (D × D × Nat)} {ents : List MapEntry} {j : Nat} {e : MapEntry}, MEs M w μ es ents → ents[j]? = some e → e.key = key →
    MEs M w μ (mset es j d') (ents.modify j fun e => { e with key := key, val := u })
  | [], _, j, e, h, he, _ => by simp only [MEs] at h; subst h; simp at he
  | (k, v, n) :: r, _, 0, e, h, he, hkey => by
    simp only [MEs] at h
    obtain ⟨e0, r', rfl, h1, h2, h3, h4⟩ := h
    simp only [List.getElem?_cons_zero, Option.some.injEq] at he
    subst he
    simp only [mset, MEs, List.modify_zero_cons]
    refine ⟨_, _, rfl, ?_, hd, h3, h4⟩
    show VRel M w μ k key
    rw [← hkey]; exact h1
  | (k, v, n) :: r, _, j + 1, e, h, he, hkey => by
    simp only [MEs] at h
    obtain ⟨e0, r', rfl, h1, h2, h3, h4⟩ := h
    simp only [mset, MEs, List.modify_succ_cons]
    exact ⟨_, _, rfl, h1, h2, h3, MEs.set hd h4 (by simpa using he) hkey⟩

theorem MEs.push {kd vd : D} {e : MapEntry} (h1 : VRel M w μ kd e.key) (h2 : VRel M w μ vd e.val) : ∀ {es : List (D × D × Nat)} {ents : List MapEntry}, MEs M w μ es ents → MEs M w μ (es ++ [(kd, vd, e.born)]) (ents ++ [e])
  | [], _, h => by
    simp only [MEs] at h; subst h
    simp only [List.nil_append, MEs]
    exact ⟨e, [], rfl, h1, h2, rfl, rfl⟩
  | (k, v, n) :: r, _, h => by
    simp only [MEs] at h
    obtain ⟨e0, r', rfl, g1, g2, g3, g4⟩ := h
    simp only [List.cons_append, MEs]
    exact ⟨_, _, rfl, g1, g2, g3, MEs.push h1 h2 g4⟩

theorem MEs.filter {p : D × D × Nat → Bool} {q : MapEntry → Bool} (hpq : ∀ k v n e, e.born = n → p (k, v, n) = q e) : ∀ {es : List (D × D × Nat)} {ents : List MapEntry}, MEs M w μ es ents → MEs M w μ (es.filter p) (ents.filter q)
  | [], _, h => by simp only [MEs] at h; subst h; simp [MEs]
  | (k, v, n) :: r, _, h => by
    simp only [MEs] at h
    obtain ⟨e0, r', rfl, g1, g2, g3, g4⟩ := h
    have hp := hpq k v n e0 g3
    cases hq : q e0 <;> rw [hq] at hp
    · simp only [List.filter_cons, hp, hq, Bool.false_eq_true, if_false]
      exact MEs.filter hpq g4
    · simp only [List.filter_cons, hp, hq, if_true, MEs]
      exact ⟨_, _, rfl, g1, g2, g3, MEs.filter hpq g4⟩

theorem MEs.any {p : D × D × Nat → Bool} {q : MapEntry → Bool} (hpq : ∀ k v n e, e.born = n → p (k, v, n) = q e) : ∀ {es : List (D × D × Nat)} {ents : List MapEntry}, MEs M w μ es ents → es.any p = ents.any q
  | [], _, h => by simp only [MEs] at h; subst h; rfl
  | (k, v, n) :: r, _, h => by
    simp only [MEs] at h
    obtain ⟨e0, r', rfl, g1, g2, g3, g4⟩ := h
    simp only [List.any_cons, hpq k v n e0 g3, MEs.any hpq g4]

theorem run_getObj {P : Program} {w : World} {b : Nat} {o : Obj} (h : w.heap[b]? = some o) (hc : ∀ vs e fz, o ≠ .cells vs e fz) : (getObj b).run P w = .ok o w := by
  cases o <;> first | (simp only [getObj, Sem.run, h]; done) | exact absurd rfl (hc _ _ _)

theorem run_setObj {P : Program} {w : World} {b : Nat} {o o' : Obj} (h : w.heap[b]? = some o) (hc : ∀ vs e fz, o ≠ .cells vs e fz) : (setObj b o').run P w = .ok () { w with heap := w.heap.setIfInBounds b o' } := by
  cases o <;> first | (simp only [setObj, Sem.run, h]; done) | exact absurd rfl (hc _ _ _)

theorem op_mkm (h : Rel E M0 w0 N μ M a w x) {t : TypeId} {d : D} {x' : AS} (hs : step E.G .mkm x = some (d, x')) :
    gd E M0 w0 N μ M w x a d x' w (do pure (.value (← Instr.makeMap t none))) := by
  simp only [step_mkm, st_mkm, Option.some.injEq, Prod.mk.injEq] at hs
  obtain ⟨rfl, rfl⟩ := hs
  let w' : World := { w with heap := w.heap.push (.map #[] 0) }
  obtain ⟨hx, hR, hf⟩ := h.fresh x.c (Nat.le_refl _) (.mp [] 0) (.map #[] 0) 0 (w' := w') (x' := x.add (.mp [] 0)) rfl (fun _ => rfl) (fun n => sget_sadd _ _ _ _) rfl rfl
    (fun hx hM => ⟨⟨some w.heap.size, 0⟩, w.heap.size, #[], by simp [muSet], rfl, hM, by simp [w'], by simp [MEs]⟩)
  refine ⟨.map (some w.heap.size), w', _, .inl (run_value ?_), ?_, hR, hf⟩
  · simp [Instr.makeMap, newObj, Sem.run, w']
  · simp only [VRel]
    exact ⟨_, _, by simp [muSet]; rfl, rfl, rfl⟩

theorem op_mlk (h : Rel E M0 w0 N μ M a w x) {t k e : TypeId} (hu : E.P.underlying t = some (.map k e)) {z : D} (hz : zeroOf E.P e = some z) {kt : ET} (hk : keyT E.P k = some kt) {ok : Bool} {o p : Operand} {ar pr : Arg}
    (h2 : cArg o = some ar) (h3 : cArg p = some pr) {d : D} {x' : AS} (hs : step E.G (.mlk z ok kt ar pr) x = some (d, x')) :
    gd E M0 w0 N μ M w x a d x' w (do pure (.value (← Instr.lookup t (a.eval o) (a.eval p) ok))) := by
  have hv := arg_rel h h2
  have hp := arg_rel h h3
  generalize a.eval o = v at *
  generalize a.eval p = y at *
  obtain ⟨td, hkd, hK⟩ := keyT_kind hk
  simp only [zeroOf, Option.bind_eq_bind, Option.bind_eq_some_iff] at hz
  obtain ⟨i, hi, zv, hzv, hz⟩ := hz
  have hzr : VRel M w μ z zv := ofV_rel _ _ _ hz
  have hzz : (zeroValue e).run E.P w = .ok zv w := by simp [zeroValue, run_typeInfo' hi, hzv]
  have hfin : ∀ (dd : D) (vv : Value) (b : Bool), VRel M w μ dd vv → VRel M w μ (bif ok then .tup (aggD dd ++ [.bool b]) else dd) (if ok then .tuple #[vv, .bool b] else vv) := by
    intro dd vv b hd
    cases ok
    · simpa using hd
    · simp only [cond_true, if_true, VRel, aggD]
      exact ⟨_, rfl, VRels.cons hd (VRels.cons (by simp only [VRel]) VRels.nil)⟩
  simp only [step_mlk, st_mlk] at hs
  split at hs
  · rename_i he
    rw [he] at hv; simp only [VRel] at hv; subst hv
    split at hs
    · rename_i r hf
      cases hs
      obtain ⟨hck, q⟩ := find_run (w := w) hkd hK hp (es := []) (ents := []) (by simp only [MEs]) hf
      have q2 : (Instr.findKey k y []).run E.P w = .ok none w := by
        rcases q with ⟨_, q⟩ | ⟨j, d, e, kd, b, _, _, q3, _⟩
        · exact q
        · cases q3
      refine Good.of (v := if ok then .tuple #[zv, .bool false] else zv) h (run_value ?_) (hfin _ _ _ hzr)
      simp only [Instr.lookup, Sem.run_bind, run_underlying hu, Result.andThen_ok, Sem.run_pure, hck, q2, hzz, List.nil_eq]
    · cases hs
  · rename_i nm he
    rw [he] at hv; simp only [VRel] at hv
    obtain ⟨l, b, k1, k2, rfl⟩ := hv
    split at hs
    · rename_i es c hg
      obtain ⟨l', b', ents, g1, g2, g3, g4, g5⟩ := h.st nm _ _ k1 hg
      rw [k1] at g1; cases g1; rw [k2] at g2; cases g2
      have hobj : (getObj b).run E.P w = .ok (.map ents c) w := run_getObj g4 (by intro _ _ _ hh; cases hh)
      split at hs
      · rename_i j u hf
        cases hs
        obtain ⟨hck, hfr⟩ := find_run (w := w) hkd hK hp g5 hf
        rcases hfr with ⟨q1, q2⟩ | ⟨j', d', e', kd', b', q1, q2, q3, q4, q5, q6⟩
        · cases q1
        · cases q1
          refine Good.of (v := if ok then .tuple #[e'.val, .bool true] else e'.val) h (run_value ?_) (hfin _ _ _ q5)
          simp only [Instr.lookup, Sem.run_bind, run_underlying hu, Result.andThen_ok, Sem.run_pure, hobj, hck, q2]
      · rename_i hf
        cases hs
        obtain ⟨hck, hfr⟩ := find_run (w := w) hkd hK hp g5 hf
        rcases hfr with ⟨q1, q2⟩ | ⟨j', d', e', kd', b', q1, q2, q3, q4, q5, q6⟩
        · refine Good.of (v := if ok then .tuple #[zv, .bool false] else zv) h (run_value ?_) (hfin _ _ _ hzr)
          simp only [Instr.lookup, Sem.run_bind, run_underlying hu, Result.andThen_ok, Sem.run_pure, hobj, hck, q2, hzz]
        · cases q1
      · cases hs
    · cases hs
  · cases hs

theorem op_mup (h : Rel E M0 w0 N μ M a w x) {t k e : TypeId} (hu : E.P.underlying t = some (.map k e)) {kt : ET} (hk : keyT E.P k = some kt) {o p q : Operand} {ar pr qr : Arg}
    (h2 : cArg o = some ar) (h3 : cArg p = some pr) (h4 : cArg q = some qr) {d : D} {x' : AS} (hs : step E.G (.mup kt ar pr qr) x = some (d, x')) :
    gd E M0 w0 N μ M w x a d x' w (do Instr.mapUpdate t (a.eval o) (a.eval p) (a.eval q); pure .skip) := by
  have hv := arg_rel h h2
  have hp := arg_rel h h3
  have hq := arg_rel h h4
  generalize a.eval o = v at *
  generalize a.eval p = y at *
  generalize a.eval q = u at *
  obtain ⟨td, hkd, hK⟩ := keyT_kind hk
  simp only [step_mup, st_mup] at hs
  split at hs
  · rename_i nm he
    rw [he] at hv; simp only [VRel] at hv
    obtain ⟨l, b, k1, k2, rfl⟩ := hv
    split at hs
    · rename_i es c hg
      obtain ⟨l', b', ents, g1, g2, g3, g4, g5⟩ := h.st nm _ _ k1 hg
      rw [k1] at g1; cases g1; rw [k2] at g2; cases g2
      have hb : b < w.heap.size := (h.own nm l b k1 k2).2
      have hobj : (getObj b).run E.P w = .ok (.map ents c) w := run_getObj g4 (by intro _ _ _ hh; cases hh)
      have hset : ∀ o', (setObj b o').run E.P w = .ok () { w with heap := w.heap.setIfInBounds b o' } := fun o' => run_setObj g4 (by intro _ _ _ hh; cases hh)
      split at hs
      · rename_i j uu hf
        obtain ⟨hck, hfr⟩ := find_run (w := w) hkd hK hp g5 hf
        rcases hfr with ⟨q1, q2⟩ | ⟨j', d', e', kd', b', q1, q2, q3, q4, q5, q6, q7⟩
        · cases q1
        · simp only [Option.some.injEq, Prod.mk.injEq, Nat.zero_add] at q1
          obtain ⟨rfl, rfl⟩ := q1
          simp only [Option.some.injEq, Prod.mk.injEq] at hs
          obtain ⟨rfl, rfl⟩ := hs
          let w' : World := { w with heap := w.heap.setIfInBounds b (.map (ents.modify j fun e => { e with key := y, val := u }) c) }
          obtain ⟨hx, hR, hf'⟩ := h.write nm (.mp (mset es j (qr.ev E.G x.t)) c) l b (w' := w') (x' := { x with s := sset x.s nm (.mp (mset es j (qr.ev E.G x.t)) c) }) k1 k2 (by rw [hg]; rfl) (by simp [w'])
            (fun k hk => by simp only [w']; rw [Array.getElem?_setIfInBounds_ne (fun e => hk e.symm)]) (fun n => rfl) (fun n => by rw [sget_sset]) rfl rfl
            (fun hx => ⟨l, b, _, k1, k2, g3, by simp [w', hb]; rfl, by
              rw [Array.toList_modify]
              exact MEs.set (VRel.mono hx _ _ (muLe.refl _) hq) (MEs.mono hx (muLe.refl _) g5) (by simpa using q3) q6⟩)
          refine ⟨undef, w', μ, .inr ⟨?_, rfl⟩, by simp only [VRel], hR, hf'⟩
          have hkey : ((ents[j]?).map (·.key)).getD y = y := by
            rw [← Array.getElem?_toList, q3]; simp [q6]
          have hsb : Instr.sameBits 10000 y y = true := by rw [q6] at q7; exact q7
          simp only [Instr.mapUpdate, Sem.run_bind, run_underlying hu, Result.andThen_ok, hobj, hck, q2, hkey, Instr.keyThatStays, hsb, if_true, Sem.run_pure, hset, w']
      · rename_i hf
        obtain ⟨hck, hfr⟩ := find_run (w := w) hkd hK hp g5 hf
        rcases hfr with ⟨q1, q2⟩ | ⟨j', d', e', kd', b', q1, q2, q3, q4, q5, q6⟩
        · simp only [Option.some.injEq, Prod.mk.injEq] at hs
          obtain ⟨rfl, rfl⟩ := hs
          let w' : World := { w with heap := w.heap.setIfInBounds b (.map (ents.push { key := y, val := u, born := c }) (c + 1)) }
          obtain ⟨hx, hR, hf'⟩ := h.write nm (.mp (es ++ [(pr.ev E.G x.t, qr.ev E.G x.t, c)]) (c + 1)) l b (w' := w') (x' := { x with s := sset x.s nm (.mp (es ++ [(pr.ev E.G x.t, qr.ev E.G x.t, c)]) (c + 1)) }) k1 k2 (by rw [hg]; rfl) (by simp [w'])
            (fun k hk => by simp only [w']; rw [Array.getElem?_setIfInBounds_ne (fun e => hk e.symm)]) (fun n => rfl) (fun n => by rw [sget_sset]) rfl rfl
            (fun hx => ⟨l, b, _, k1, k2, g3, by simp [w', hb]; rfl, by
              rw [Array.toList_push]
              exact MEs.push (e := { key := y, val := u, born := c }) (VRel.mono hx _ _ (muLe.refl _) hp) (VRel.mono hx _ _ (muLe.refl _) hq) (MEs.mono hx (muLe.refl _) g5)⟩)
          refine ⟨undef, w', μ, .inr ⟨?_, rfl⟩, by simp only [VRel], hR, hf'⟩
          simp only [Instr.mapUpdate, Sem.run_bind, run_underlying hu, Result.andThen_ok, hobj, hck, q2, Sem.run_pure, hset, w']
        · cases q1
      · cases hs
    · cases hs
  · cases hs

theorem op_mln (h : Rel E M0 w0 N μ M a w x) {t k e ty : TypeId} (hu : E.P.underlying t = some (.map k e)) {o : Operand} {ar : Arg} (h2 : cArg o = some ar) {d : D} {x' : AS}
    (hs : step E.G (.mln ar) x = some (d, x')) : gd E M0 w0 N μ M w x a d x' w (do pure (.value (← Builtin.len_ #[t] ty #[a.eval o]))) := by
  have hv := arg_rel h h2
  generalize a.eval o = v at *
  simp only [step_mln, st_mln] at hs
  split at hs
  · rename_i he
    rw [he] at hv; simp only [VRel] at hv; subst hv
    cases hs
    refine Good.of (v := .int .i64 0) h (run_value ?_) (by simp only [VRel])
    simp [Builtin.len_, run_underlying hu, goInt]
  · rename_i nm he
    rw [he] at hv; simp only [VRel] at hv
    obtain ⟨l, b, k1, k2, rfl⟩ := hv
    split at hs
    · rename_i es c hg
      obtain ⟨l', b', ents, g1, g2, g3, g4, g5⟩ := h.st nm _ _ k1 hg
      rw [k1] at g1; cases g1; rw [k2] at g2; cases g2
      have hobj : (getObj b).run E.P w = .ok (.map ents c) w := run_getObj g4 (by intro _ _ _ hh; cases hh)
      cases hs
      have hl : ents.size = es.length := by simpa using MEs.length g5
      refine Good.of (v := .int .i64 es.length) h (run_value ?_) (by simp only [VRel])
      simp only [Builtin.len_, List.getElem?_toArray, List.getElem?_cons_zero, Sem.run_bind, run_underlying hu, Result.andThen_ok, hobj, Sem.run_pure, goInt, hl]
    · cases hs
  · cases hs

theorem op_rgm (h : Rel E M0 w0 N μ M a w x) {t k e : TypeId} (hu : E.P.underlying t = some (.map k e)) {o : Operand} {ar : Arg} (h2 : cArg o = some ar) {d : D} {x' : AS}
    (hs : step E.G (.rgm ar) x = some (d, x')) : gd E M0 w0 N μ M w x a d x' w (do pure (.value (← Instr.range t (a.eval o)))) := by
  have hv := arg_rel h h2
  generalize a.eval o = v at *
  simp only [step_rgm, st_rgm] at hs
  split at hs
  · rename_i he
    rw [he] at hv; simp only [VRel] at hv; subst hv
    cases hs
    let w' : World := { w with heap := w.heap.push (.mapIter none 0 #[] 0) }
    obtain ⟨hx, hR, hf⟩ := h.fresh x.c (Nat.le_refl _) (.mit none 0 [] 0) (.mapIter none 0 #[] 0) 0 (w' := w') (x' := x.add (.mit none 0 [] 0)) rfl (fun _ => rfl) (fun n => sget_sadd _ _ _ _) rfl rfl
      (fun hx hM => ⟨⟨some w.heap.size, 0⟩, w.heap.size, none, by simp [muSet], rfl, hM, by simp [w'], rfl⟩)
    refine ⟨.pointer (some ⟨w.heap.size, 0, none⟩), w', _, .inl (run_value (by simp [Instr.range, run_underlying hu, w', newObj, Sem.run])), ?_, hR, hf⟩
    simp only [VRel]
    exact ⟨_, _, by simp [muSet]; rfl, rfl, rfl⟩
  · rename_i nm he
    rw [he] at hv; simp only [VRel] at hv
    obtain ⟨l, b, k1, k2, rfl⟩ := hv
    split at hs
    · rename_i es c hg
      obtain ⟨l', b', ents, g1, g2, g3, g4, g5⟩ := h.st nm _ _ k1 hg
      rw [k1] at g1; cases g1; rw [k2] at g2; cases g2
      have hobj : (getObj b).run E.P w = .ok (.map ents c) w := run_getObj g4 (by intro _ _ _ hh; cases hh)
      cases hs
      let w' : World := { w with heap := w.heap.push (.mapIter (some b) c #[] c) }
      obtain ⟨hx, hR, hf⟩ := h.fresh x.c (Nat.le_refl _) (.mit (some nm) c [] c) (.mapIter (some b) c #[] c) 0 (w' := w') (x' := x.add (.mit (some nm) c [] c)) rfl (fun _ => rfl) (fun n => sget_sadd _ _ _ _) rfl rfl
        (fun hx hM => ⟨⟨some w.heap.size, 0⟩, w.heap.size, some b, by simp [muSet], rfl, hM, by simp [w'], l, b, h.free_le (Nat.le_refl _) _ _ _ k1, k2, rfl⟩)
      refine ⟨.pointer (some ⟨w.heap.size, 0, none⟩), w', _, .inl (run_value ?_), ?_, hR, hf⟩
      · simp only [Instr.range, Sem.run_bind, run_underlying hu, Result.andThen_ok, hobj, Sem.run_pure, newObj, Sem.run, w']
      · simp only [VRel]
        exact ⟨_, _, by simp [muSet]; rfl, rfl, rfl⟩
    · cases hs
  · cases hs

theorem op_nxm (h : Rel E M0 w0 N μ M a w x) {o : Operand} {ar : Arg} (h2 : cArg o = some ar) {ty : TypeId} {d : D} {x' : AS}
    (hs : step E.G (.nxm ar) x = some (d, x')) : gd E M0 w0 N μ M w x a d x' w (do pure (.value (← Instr.next (a.eval o) false ty))) := by
  have hv := arg_rel h h2
  generalize a.eval o = v at *
  simp only [step_nxm, st_nxm] at hs
  split at hs
  · rename_i nm he
    rw [he] at hv; simp only [VRel] at hv
    obtain ⟨l, b, k1, k2, rfl⟩ := hv
    split at hs
    · rename_i since sn last hg
      obtain ⟨l', b', mo, g1, g2, g3, g4, g5⟩ := h.st nm _ _ k1 hg
      rw [k1] at g1; cases g1; rw [k2] at g2; cases g2
      simp only at g5; subst g5
      cases hs
      have hobj := run_getObj (P := E.P) g4 (by intro _ _ _ hh; cases hh)
      refine Good.of (v := .tuple #[.bool false]) h (run_value ?_) ?_
      · simp only [Instr.next, Sem.run_bind, hobj, Result.andThen_ok, Sem.run_pure]
      · simp only [VRel]
        exact ⟨_, rfl, VRels.cons (by simp only [VRel]) VRels.nil⟩
    · rename_i m since sn last hg
      obtain ⟨l', b', mo, g1, g2, g3, g4, g5⟩ := h.st nm _ _ k1 hg
      rw [k1] at g1; cases g1; rw [k2] at g2; cases g2
      obtain ⟨lm, bm, m1, m2, rfl⟩ := g5
      have hobj := run_getObj (P := E.P) g4 (by intro _ _ _ hh; cases hh)
      split at hs
      · rename_i es c hgm
        obtain ⟨lm', bm', ents, q1, q2, q3, q4, q5⟩ := h.st m _ _ m1 hgm
        rw [m1] at q1; cases q1; rw [m2] at q2; cases q2
        have hobjm := run_getObj (P := E.P) q4 (by intro _ _ _ hh; cases hh)
        cases hcond : (sn.isEmpty || es.isEmpty || es.any (fun e => Nat.blt e.2.2 last)) <;> rw [hcond] at hs
        · cases hs
        simp only [cond_true] at hs
        have hempty : ents.isEmpty = es.isEmpty := by
          have hl : ents.toList.length = es.length := MEs.length q5
          rw [Bool.eq_iff_iff]
          simp only [Array.isEmpty_iff, List.isEmpty_iff, ← List.length_eq_zero_iff, ← hl]
          simp
        have hguard : (!sn.toArray.isEmpty && !ents.isEmpty && ents.all fun x => decide (x.born ≥ last)) = false := by
          have hany : es.any (fun e => Nat.blt e.2.2 last) = ents.toList.any (fun e => Nat.blt e.born last) :=
            MEs.any (p := fun e => Nat.blt e.2.2 last) (q := fun e => Nat.blt e.born last) (fun k v n e hh => by simp only [hh]) q5
          have hall : ents.all (fun x => decide (x.born ≥ last)) = !(ents.toList.any (fun e => Nat.blt e.born last)) := by
            rw [← Array.all_toList, Bool.eq_iff_iff]
            simp [Nat.blt_eq]
          rw [hall, ← hany, hempty, show sn.toArray.isEmpty = sn.isEmpty by simp]
          revert hcond
          cases sn.isEmpty <;> cases es.isEmpty <;> cases es.any (fun e => Nat.blt e.2.2 last) <;> simp
        have hleft := MEs.filter (p := fun e => !sn.any (Nat.beq e.2.2)) (q := fun e => !sn.toArray.contains e.born) (fun k v n e hh => by
          subst hh
          show (!sn.any (Nat.beq e.born)) = !sn.toArray.contains e.born
          rw [Bool.eq_iff_iff]
          simp only [Bool.not_eq_true', List.any_eq_false, Nat.beq_eq, List.contains_toArray, List.elem_eq_mem, decide_eq_false_iff_not]
          exact ⟨fun g hm => g _ hm rfl, fun g x hx e => g (e ▸ hx)⟩) q5
        have hfl : (ents.filter fun e => !sn.toArray.contains e.born).toList = ents.toList.filter fun e => !sn.toArray.contains e.born := by simp
        rw [← hfl] at hleft
        generalize hLe : ents.filter (fun e => !sn.toArray.contains e.born) = left at hleft
        obtain ⟨left⟩ := left
        simp only at hleft
        split at hs
        · rename_i hnil
          rw [hnil] at hleft
          simp only [MEs] at hleft
          subst hleft
          cases hs
          refine Good.of (v := .tuple #[.bool false]) h (run_value ?_) ?_
          · simp only [Instr.next, Sem.run_bind, hobj, Result.andThen_ok, hobjm, hguard, Bool.false_eq_true, if_false, hLe, Sem.run_pure]
            simp [choose, Sem.run, Question.forced]
          · simp only [VRel]
            exact ⟨_, rfl, VRels.cons (by simp only [VRel]) VRels.nil⟩
        · rename_i kd vd bn hone
          rw [hone] at hleft
          simp only [MEs] at hleft
          obtain ⟨e, r', rfl, r1, r2, r3, rfl⟩ := hleft
          cases hlt : Nat.blt bn since <;> rw [hlt] at hs
          · cases hs
          rw [Nat.blt_eq] at hlt
          simp only [cond_true, Option.some.injEq, Prod.mk.injEq] at hs
          obtain ⟨rfl, rfl⟩ := hs
          have hb : b < w.heap.size := (h.own nm l b k1 k2).2
          let w' : World := { w with heap := w.heap.setIfInBounds b (.mapIter (some bm) since (sn.toArray.push e.born) c) }
          obtain ⟨hx, hR, hf⟩ := h.write nm (.mit (some m) since (sn ++ [bn]) c) l b (w' := w') (x' := { x with s := sset x.s nm (.mit (some m) since (sn ++ [bn]) c) }) k1 k2 (by rw [hg]; rfl) (by simp [w'])
            (fun k hk => by simp only [w']; rw [Array.getElem?_setIfInBounds_ne (fun e => hk e.symm)]) (fun n => rfl) (fun n => by rw [sget_sset]) rfl rfl
            (fun hx => ⟨l, b, some bm, k1, k2, g3, by simp [w', hb, r3], lm, bm, m1, m2, rfl⟩)
          refine ⟨.tuple #[.bool true, e.key, e.val], w', μ, .inl (run_value ?_), ?_, hR, hf⟩
          · have hset := run_setObj (P := E.P) (o' := .mapIter (some bm) since (sn.toArray.push e.born) c) g4 (by intro _ _ _ hh; cases hh)
            have h1 : (#[e].filter fun x => decide (x.born < since)) = #[e] := by simp [r3, hlt]
            have h2' : (#[e].filter fun x => decide (x.born ≥ since)) = #[] := by simp [r3]; omega
            simp only [Instr.next, Sem.run_bind, hobj, Result.andThen_ok, hobjm, hguard, Bool.false_eq_true, if_false, hLe, Sem.run_pure, show (⟨[e]⟩ : Array MapEntry) = #[e] from rfl, h1, h2']
            simp only [choose, Sem.run, Question.forced, Sem.run_bind, Sem.run_pure, Array.isEmpty_eq_false_iff, show (#[e].isEmpty) = false from rfl, Bool.false_eq_true, if_false, Array.append_empty, Array.empty_append, Array.size_map, show (#[e] : Array MapEntry).size = 1 from rfl, Nat.le_refl, decide_true, if_true, show (#[some e] : Array (Option MapEntry)).size = 1 from rfl, List.map_toArray, List.map_cons, List.map_nil, List.getElem?_toArray, List.getElem?_cons_zero, hset, Result.andThen_ok, w']
          · simp only [VRel]
            exact ⟨_, rfl, VRels.cons (by simp only [VRel]) (VRels.cons (VRel.mono hx _ _ (muLe.refl _) r1) (VRels.cons (VRel.mono hx _ _ (muLe.refl _) r2) VRels.nil))⟩
        · cases hs
      · cases hs
    · cases hs
  · cases hs

theorem op_ent (h : Rel E M0 w0 N μ M a w x) {o : Operand} {ar : Arg} (h2 : cArg o = some ar) {d : D} {x' : AS}
    (hs : step E.G (.ent ar) x = some (d, x')) : gd E M0 w0 N μ M w x a d x' w (do pure (.value (← Instr.entry (a.eval o)))) := by
  have hv := arg_rel h h2
  generalize a.eval o = v at *
  simp only [step_ent, st_ent] at hs
  split at hs
  · rename_i nm he
    rw [he] at hv; simp only [VRel] at hv
    obtain ⟨l, b, k1, k2, rfl⟩ := hv
    split at hs
    · rename_i m since sn last hg
      obtain ⟨l', b', mo, g1, g2, g3, g4, g5⟩ := h.st nm _ _ k1 hg
      rw [k1] at g1; cases g1; rw [k2] at g2; cases g2
      obtain ⟨lm, bm, m1, m2, rfl⟩ := g5
      have hobj := run_getObj (P := E.P) g4 (by intro _ _ _ hh; cases hh)
      split at hs
      · rename_i es c bn hgm hlast
        obtain ⟨lm', bm', ents, q1, q2, q3, q4, q5⟩ := h.st m _ _ m1 hgm
        rw [m1] at q1; cases q1; rw [m2] at q2; cases q2
        have hobjm := run_getObj (P := E.P) q4 (by intro _ _ _ hh; cases hh)
        cases hcond : Nat.beq c last <;> rw [hcond] at hs
        · cases hs
        have hcl := Nat.eq_of_beq_eq_true hcond
        subst hcl
        simp only [cond_true] at hs
        have hleft := MEs.filter (p := fun e => Nat.beq e.2.2 bn) (q := fun e => e.born == bn) (fun k v n e hh => by subst hh; rw [Bool.eq_iff_iff]; simp) q5
        split at hs
        · rename_i kd vd n0 rest hone
          rw [hone] at hleft
          simp only [MEs] at hleft
          obtain ⟨e, r', hr', r1, r2, r3, r4⟩ := hleft
          cases hs
          refine Good.of (v := .tuple #[e.key, e.val]) h (run_value ?_) ?_
          · have hfind : ents.find? (·.born == bn) = some e := by
              rw [← Array.find?_toList, ← List.head?_filter, hr']; rfl
            have hback : sn.toArray.back? = some bn := by simp [hlast]
            simp only [Instr.entry, Sem.run_bind, hobj, Result.andThen_ok, hback, hobjm, bne_self_eq_false, Bool.false_eq_true, if_false, Sem.run_pure, hfind]
          · simp only [VRel]
            exact ⟨_, rfl, VRels.cons r1 (VRels.cons r2 VRels.nil)⟩
        · cases hs
      · cases hs
    · cases hs
  · cases hs

theorem op_tas (h : Rel E M0 w0 N μ M a w x) {s t : TypeId} {td : TypeDesc} (hu : E.P.underlying t = some td) (hni : ∀ ms, td ≠ .interface ms) {z : D} (hz : zeroOf E.P t = some z) {ok : Bool} {o : Operand} {ar : Arg}
    (h2 : cArg o = some ar) {d : D} {x' : AS} (hs : step E.G (.tas t z ok ar) x = some (d, x')) :
    gd E M0 w0 N μ M w x a d x' w (do pure (.value (← Instr.typeAssert (a.eval o) s t ok))) := by
  have hv := arg_rel h h2
  generalize a.eval o = v at *
  simp only [zeroOf, Option.bind_eq_bind, Option.bind_eq_some_iff] at hz
  obtain ⟨i, hi, zv, hzv, hz⟩ := hz
  have hzr : VRel M w μ z zv := ofV_rel _ _ _ hz
  have hzz : (zeroValue t).run E.P w = .ok zv w := by simp [zeroValue, run_typeInfo' hi, hzv]
  have hno : VRel M w μ (.tup (aggD z ++ [.bool false])) (.tuple #[zv, .bool false]) := by
    simp only [VRel, aggD]
    exact ⟨_, rfl, VRels.cons hzr (VRels.cons (by simp only [VRel]) VRels.nil)⟩
  simp only [step_tas, st_tas] at hs
  split at hs
  · rename_i he
    rw [he] at hv; simp only [VRel] at hv; subst hv
    cases ok
    · cases hs
    · cases hs
      refine Good.of (v := .tuple #[zv, .bool false]) h (run_value ?_) hno
      cases td <;> first
        | (exact absurd rfl (hni _); done)
        | simp only [Instr.typeAssert, Sem.run_bind, run_underlying hu, Result.andThen_ok, if_true, hzz, Sem.run_pure]
  · rename_i u dd he
    rw [he] at hv; simp only [VRel] at hv
    obtain ⟨xv, rfl, hxv⟩ := hv
    cases hcond : Nat.beq u t <;> rw [hcond] at hs
    · have hne : u ≠ t := fun e => by subst e; simp at hcond
      cases ok
      · cases hs
      · cases hs
        refine Good.of (v := .tuple #[zv, .bool false]) h (run_value ?_) hno
        cases td <;> first
          | (exact absurd rfl (hni _); done)
          | simp only [Instr.typeAssert, Sem.run_bind, run_underlying hu, Result.andThen_ok, if_neg hne, if_true, hzz, Sem.run_pure]
    · have he := Nat.eq_of_beq_eq_true hcond
      subst he
      simp only [cond_true, Option.some.injEq, Prod.mk.injEq] at hs
      obtain ⟨rfl, rfl⟩ := hs
      refine Good.of (v := if ok then .tuple #[xv, .bool true] else xv) h (run_value ?_) ?_
      · cases td <;> first
          | (exact absurd rfl (hni _); done)
          | simp only [Instr.typeAssert, Sem.run_bind, run_underlying hu, Result.andThen_ok, if_true, Sem.run_pure]
      · cases ok
        · simpa using hxv
        · simp only [cond_true, if_true, VRel, aggD]
          exact ⟨_, rfl, VRels.cons hxv (VRels.cons (by simp only [VRel]) VRels.nil)⟩
  · cases hs
end

end Zv
/- Operations beside the plain ones: functions of the model's own, zeros that are appended. Conditions: none. -/
set_option linter.unusedSimpArgs false
set_option linter.unusedVariables false
namespace Zv
open Go

theorem find_idb {fn : Func} (h : fn.name = "internal/bytealg.IndexByteString") : Extern.find fn = some Extern.BytealgIndexByte.indexByte := by
  unfold Extern.find
  rw [h]
  kernel_rfl

theorem find_ctb {fn : Func} (h : fn.name = "internal/bytealg.CountString") : Extern.find fn = some Extern.BytealgCount.count := by
  unfold Extern.find
  rw [h]
  kernel_rfl

theorem find_idn {fn : Func} (h : fn.name = "internal/abi.NoEscape") : Extern.find fn = some Extern.AbiNoEscape.same := by
  unfold Extern.find
  rw [h]
  kernel_rfl

theorem find_mnz {fn : Func} (h : fn.name = "internal/bytealg.MakeNoZero") : Extern.find fn = some (Extern.BytealgMakeNoZero.makeNoZero fn.params fn.resultTypes) := by
  unfold Extern.find
  rw [h]
  kernel_rfl

theorem isRow_run {P : Program} {f : Nat} {name : String} (h : isRow P f name = true) {e : Array Value → Sem Value} (he : ∀ fn : Func, fn.name = name → Extern.find fn = some e) (args : Array Value) (w : World) :
    (callFunc f args).run P w = ((e args).run P w).andThen fun v w' => .ok (.value v) w' := by
  unfold isRow at h
  split at h
  · rename_i fn hf
    simp only [Bool.and_eq_true, Bool.not_eq_true', beq_iff_eq, Option.isNone_iff_eq_none] at h
    obtain ⟨h1, h2, h3, h4⟩ := h
    exact run_callFunc_extern hf h4 (by rw [h1]; rfl) h3 (he fn h2) args w
  · cases h

theorem idxB_eq (c : UInt8) : ∀ l : List UInt8, idxB c l = Lib.indexByte l c
  | [] => rfl
  | b :: r => by
    simp only [idxB, Lib.indexByte, idxB_eq c r]
    have h1 := Lib.indexByte_ge r c
    cases hb : b == c
    · simp only [cond_false, Bool.false_eq_true, if_false]
      rcases hn : Lib.indexByte r c with n | n
      · have h2 : ((Int.ofNat n) == -1) = false := by
          simp only [beq_eq_false_iff_ne, ne_eq]
          intro e; cases e
        rw [h2]; rfl
      · rw [hn, Int.negSucc_eq] at h1
        have h0 : n = 0 := by omega
        subst h0
        rfl
    · rfl

section
variable {E : Env} {M0 : Nat → Prop} {w0 : World} {N : Nat} {μ : Mu} {M : Nat → Prop} {a : Act} {w : World} {x : AS}

theorem run_builtin0 {P : Program} {ρ : Operand → Value} {o : Oper} {c : Call} {b : Builtin} (ho : o.op = .call c) (hb : c.callee = .builtin b) (w : World) :
    ∃ cs, (execOp ρ o).run P w = (builtin b c.argTypes o.type cs (c.args.map ρ)).run P w := by
  refine ⟨c.args.map fun | .const _ => true | _ => false, ?_⟩
  simp only [execOp, ho, resolve, hb, Sem.run_bind, Sem.run_pure, Result.andThen_ok, invoke]
  rfl

theorem args_x (h : Rel E M0 w0 N μ M a w x) {l : Array Operand} {as : List Arg} (hc : cArgs l = some as) : VRels M w μ (as.map (·.ev E.G x.t)) (l.map a.eval).toList := by
  rw [Array.toList_map]
  exact args_rel h hc

theorem run_row_op {P : Program} {ρ : Operand → Value} {o : Oper} {c : Call} {f : Nat} (ho : o.op = .call c) (hc : c.callee = .value (.func f)) (hρ : ρ (.func f) = .func (.func f) #[] #[]) (w : World) :
    (execOp ρ o).run P w = (callFunc f (c.args.map ρ)).run P w := by
  simp only [execOp, ho, resolve, hc, hρ, Deferred.ofValue, Sem.run_bind, Sem.run_pure, Result.andThen_ok, invoke, Array.empty_append, Array.append_empty]

theorem vals1 {d : D} {vs : Array Value} (h : VRels M w μ [d] vs.toList) : ∃ v, vs = #[v] ∧ VRel M w μ d v := by
  simp only [VRels] at h
  obtain ⟨v, r, h1, h2, rfl⟩ := h
  exact ⟨v, by apply Array.ext'; simp [h1], h2⟩

theorem vals2 {d e : D} {vs : Array Value} (h : VRels M w μ [d, e] vs.toList) : ∃ v u, vs = #[v, u] ∧ VRel M w μ d v ∧ VRel M w μ e u := by
  simp only [VRels] at h
  obtain ⟨v, r, h1, h2, u, r', rfl, h3, rfl⟩ := h
  exact ⟨v, u, by apply Array.ext'; simp [h1], h2, h3⟩

theorem look_row (h : Rel E M0 w0 N μ M a w x) {o : Oper} {c : Call} {f : Nat} (ho : o.op = .call c) (hc : c.callee = .value (.func f)) {as : List Arg} (hl : cArgs c.args = some as) {k : XL} {name : String} (hrow : isRow E.P f name = true)
    {e : Array Value → Sem Value} (he : ∀ fn : Func, fn.name = name → Extern.find fn = some e) {d : D} {x' : AS} (hs : step E.G (.xl k as) x = some (d, x'))
    (hrun : ∀ l vs, xlook k l x.s = some d → VRels M w μ l vs.toList → ∃ v, (e vs).run E.P w = .ok v w ∧ VRel M w μ d v) : gd E M0 w0 N μ M w x a d x' w (execOp a.eval o) := by
  simp only [step_xl, st_xl, Option.map_eq_some_iff, Prod.mk.injEq] at hs
  obtain ⟨d', hk, rfl, rfl⟩ := hs
  obtain ⟨v, hr, hv⟩ := hrun _ _ hk (args_x h hl)
  refine Good.of h (v := v) ?_ hv
  rw [run_row_op ho hc rfl, isRow_run hrow he, hr]
  rfl

theorem xl_idb {l : List D} {s : St} {d : D} {vs : Array Value} (hk : xlook .idb l s = some d) (hv : VRels M w μ l vs.toList) {P : Program} :
    ∃ v, (Extern.BytealgIndexByte.indexByte vs).run P w = .ok v w ∧ VRel M w μ d v := by
  unfold xlook at hk
  split at hk
  all_goals try contradiction
  cases hk
  obtain ⟨v, u, rfl, g1, g2⟩ := vals2 hv
  simp only [VRel] at g1 g2
  subst g1 g2
  exact ⟨_, Lib.run_indexByteString _ _ _, by simp only [VRel, idxB_eq]⟩

theorem xl_ctb {l : List D} {s : St} {d : D} {vs : Array Value} (hk : xlook .ctb l s = some d) (hv : VRels M w μ l vs.toList) {P : Program} :
    ∃ v, (Extern.BytealgCount.count vs).run P w = .ok v w ∧ VRel M w μ d v := by
  unfold xlook at hk
  split at hk
  all_goals try contradiction
  cases hk
  obtain ⟨v, u, rfl, g1, g2⟩ := vals2 hv
  simp only [VRel] at g1 g2
  subst g1 g2
  exact ⟨_, Lib.run_countString _ _ _, by simp only [VRel]; rfl⟩

theorem xl_idn {l : List D} {s : St} {d : D} {vs : Array Value} (hk : xlook .idn l s = some d) (hv : VRels M w μ l vs.toList) {P : Program} :
    ∃ v, (Extern.AbiNoEscape.same vs).run P w = .ok v w ∧ VRel M w μ d v := by
  unfold xlook at hk
  split at hk
  all_goals try contradiction
  cases hk
  obtain ⟨v, rfl, g1⟩ := vals1 hv
  exact ⟨v, Lib.run_noEscape _ _, g1⟩

/-- A block's cells, with its type. -/
theorem fix_cells (h : Rel E M0 w0 N μ M a w x) {nm : Nat} {l : Loc} {b ty : Nat} {cs : List D} (hl : μ nm = some l) (hb : l.blk = some b) (hg : sget x.s nm = some (.fix ty cs)) :
    ∃ e, w.shape? b = some (e, cs.length) ∧ ∀ k, ty = k + 1 → e = k := by
  obtain ⟨l', b', vs, e, fz, g1, g2, g3, g4, g5, g6, g7, g8⟩ := h.st nm _ l hl hg
  rw [hl] at g1; cases g1; rw [hb] at g2; cases g2
  refine ⟨e, ?_, g8⟩
  have := g7.length
  simp only [Array.length_toList] at this
  simp [World.shape?, g5, this]

theorem ext_upt (h : Rel E M0 w0 N μ M a w x) {s t td : TypeId} {i : TypeInfo} (hu : E.P.underlying s = some (.pointer td)) (hd : E.P.underlying t = some .unsafePointer) (hi : E.P.info? td = some i) (hz : Nat.beq i.size 0 = false)
    {y : Operand} {ar : Arg} (h2 : cArg y = some ar) {d : D} {x' : AS} (hs : step E.G (.xl .upt [ar]) x = some (d, x')) : gd E M0 w0 N μ M w x a d x' w (do pure (.value (← convert s t (a.eval y)))) := by
  have hv := arg_rel h h2
  simp only [step_xl, st_xl, Option.map_eq_some_iff, Prod.mk.injEq, List.map_cons, List.map_nil] at hs
  obtain ⟨d', hk, rfl, rfl⟩ := hs
  unfold xlook at hk
  split at hk
  all_goals try contradiction
  rename_i nm off hke hle
  simp only [List.cons.injEq, and_true] at hle
  rw [hle] at hv
  split at hk
  · rename_i ty cs hg
    cases hlt : Nat.blt off cs.length <;> rw [hlt] at hk
    · cases hk
    simp only [cond_true, Option.some.injEq] at hk
    subst hk
    have hvv := hv
    simp only [VRel] at hv
    obtain ⟨l, b, h1, h2, h3⟩ := hv
    obtain ⟨e, hsh, _⟩ := fix_cells h h1 h2 hg
    rw [h3] at hvv ⊢
    refine Good.of h (run_value (Lib.run_to_unsafe w ⟨b, off, none⟩ hu hd hi (fun e0 => by rw [e0] at hz; simp at hz) hsh ?_)) hvv
    simpa [Nat.blt_eq] using hlt
  · cases hk

theorem ext_ufp (h : Rel E M0 w0 N μ M a w x) {s t u : TypeId} {i : TypeInfo} (hs' : E.P.underlying s = some .unsafePointer) (hd : E.P.underlying t = some (.pointer u)) (hi : E.P.info? u = some i)
    (hlie : liesAt E.P E.P.depth u (i.size / E.P.cellsOf u) 0 u 1 = true) {y : Operand} {ar : Arg} (h2 : cArg y = some ar) {d : D} {x' : AS} (hs : step E.G (.xl (.ufp u i.size) [ar]) x = some (d, x')) :
    gd E M0 w0 N μ M w x a d x' w (do pure (.value (← convert s t (a.eval y)))) := by
  have hv := arg_rel h h2
  simp only [step_xl, st_xl, Option.map_eq_some_iff, Prod.mk.injEq, List.map_cons, List.map_nil] at hs
  obtain ⟨d', hk, rfl, rfl⟩ := hs
  unfold xlook at hk
  split at hk
  all_goals try contradiction
  rename_i u' n nm hke hle
  cases hke
  simp only [List.cons.injEq, and_true] at hle
  rw [hle] at hv
  split at hk
  · rename_i ty cs hg
    cases hc : (Nat.beq ty (u + 1) && Nat.beq cs.length i.size) <;> rw [hc] at hk
    · cases hk
    simp only [Bool.and_eq_true] at hc
    have c1 := Nat.eq_of_beq_eq_true hc.1
    have c2 := Nat.eq_of_beq_eq_true hc.2
    simp only [cond_true, Option.some.injEq] at hk
    subst hk
    have hvv := hv
    simp only [VRel] at hv
    obtain ⟨l, b, h1, h2, h3⟩ := hv
    obtain ⟨e, hsh, he⟩ := fix_cells h h1 h2 hg
    have := he u c1
    subst this
    rw [h3] at hvv ⊢
    refine Good.of h (run_value (Lib.run_from_unsafe w ⟨b, 0, none⟩ hs' hd hi (by rw [c2] at hsh; exact hsh) hlie)) hvv
  · cases hk

theorem ext_peq (h : Rel E M0 w0 N μ M a w x) {neg : Bool} {t e : TypeId} {i : TypeInfo} {o p : Operand} {ar pr : Arg} (hu : E.P.underlying t = some (.pointer e)) (hi : E.P.info? e = some i) (h2 : cArg o = some ar) (h3 : cArg p = some pr) {d : D} {x' : AS}
    (hs : step E.G (.xl (.peq neg) [ar, pr]) x = some (d, x')) :
    gd E M0 w0 N μ M w x a d x' w (do pure (.value (← (do eqGuard (bif neg then .neq else .eql) t o p (a.eval o) (a.eval p); binOp (bif neg then .neq else .eql) t (a.eval o) (a.eval p) : Sem Value)))) := by
  have hv := arg_rel h h2
  have hp := arg_rel h h3
  simp only [step_xl, st_xl, Option.map_eq_some_iff, Prod.mk.injEq, List.map_cons, List.map_nil] at hs
  obtain ⟨d', hk, rfl, rfl⟩ := hs
  change Option.map _ (peqD (ar.ev E.G x.t) (pr.ev E.G x.t)) = some d' at hk
  simp only [Option.map_eq_some_iff] at hk
  obtain ⟨r, hr, hd⟩ := hk
  subst hd
  generalize hd1 : ar.ev E.G x.t = d1 at hr hv
  generalize hd2 : pr.ev E.G x.t = d2 at hr hp
  have hle : ar.ev E.G x.t = d1 ∧ pr.ev E.G x.t = d2 := ⟨hd1, hd2⟩
  unfold peqD at hr
  split at hr
  · rename_i nm i1 nm2 j1
    cases hc : (Nat.beq nm nm2 && Nat.beq i1 j1) <;> rw [hc] at hr
    · cases hr
    simp only [Bool.and_eq_true] at hc
    have c1 := Nat.eq_of_beq_eq_true hc.1
    have c2 := Nat.eq_of_beq_eq_true hc.2
    subst c1 c2
    simp only [cond_true, Option.some.injEq] at hr
    subst hr
    simp only [VRel] at hv hp
    obtain ⟨l, b, g1, g2, g3⟩ := hv
    obtain ⟨l', b', k1, k2, k3⟩ := hp
    rw [g1] at k1; cases k1; rw [g2] at k2; cases k2
    rw [g3, k3]
    have heq : (Op.equal t (.pointer (some ⟨b, i1, none⟩)) (.pointer (some ⟨b, i1, none⟩))).run E.P w = .ok true w := by
      have h' : ∀ d : Nat, (Op.equalIn (d + 1) t (.pointer (some ⟨b, i1, none⟩)) (.pointer (some ⟨b, i1, none⟩))).run E.P w = .ok true w := fun d => by
        simp [Op.equalIn, run_underlying hu, run_sizeOf' (show szOf E.P e = some i.size by simp [szOf, hi]), run_sameAddr_same]
      simp only [Op.equal, Op.maxDepth, h' 9999]
    refine Good.of h (v := .bool (bif neg then !true else true)) (run_value ?_) (by simp only [VRel])
    simp only [Sem.run_bind, eqGuard_at_pointer, Sem.run_pure, Result.andThen_ok]
    exact binOp_eqneq t _ _ true neg w (by simp) heq
  · have hcmp : cmpK E.P t o p = some .ptr := by simp [cmpK, hu]
    have hs2 : step E.G (.cmp neg .ptr ar pr) x = some (.bool (bif neg then !r else r), x) := by
      simp only [step_cmp, st_cmp, hle.1, hle.2, hr, Option.map_some]
    exact op_cmp (neg := neg) h hcmp h2 h3 hs2

theorem ext_sda (h : Rel E M0 w0 N μ M a w x) {o : Oper} {cc : Call} (ho : o.op = .call cc) (hcal : cc.callee = .builtin .unsafeSliceData) {as : List Arg} (hl : cArgs cc.args = some as) {d : D} {x' : AS}
    (hs : step E.G (.xl .sda as) x = some (d, x')) : gd E M0 w0 N μ M w x a d x' w (execOp a.eval o) := by
  obtain ⟨cs, hrb⟩ := run_builtin0 (P := E.P) (ρ := a.eval) ho hcal w
  unfold gd
  rw [hrb]
  have hv := args_x h hl
  simp only [step_xl, st_xl, Option.map_eq_some_iff, Prod.mk.injEq] at hs
  obtain ⟨d', hk, rfl, rfl⟩ := hs
  generalize as.map (·.ev E.G x.t) = l at hk hv
  unfold xlook at hk
  split at hk
  all_goals try contradiction
  · cases hk
    obtain ⟨v, hvs, g1⟩ := vals1 hv
    rw [hvs]
    simp only [VRel] at g1
    subst g1
    exact Good.of h (run_value (Lib.run_unsafeSliceData_nil _ _ _ _ _)) (by simp only [VRel])
  · cases hk
    obtain ⟨v, hvs, g1⟩ := vals1 hv
    rw [hvs]
    simp only [VRel] at g1
    obtain ⟨⟨lb, lc⟩, cap, h1, rfl, h3, h4, h5⟩ := g1
    cases lb with
    | none => have := h5 rfl; omega
    | some b => exact Good.of h (run_value (Lib.run_unsafeSliceData_row _ _ _ _ _ _ (by omega))) (by simp only [VRel]; exact ⟨_, _, h1, rfl, rfl⟩)
  · cases hk
    obtain ⟨v, hvs, g1⟩ := vals1 hv
    rw [hvs]
    simp only [VRel] at g1
    obtain ⟨loc, b, h1, h2, rfl, h3, h4⟩ := g1
    exact Good.of h (run_value (Lib.run_unsafeSliceData_row _ _ _ _ _ _ (by omega))) (by simp only [VRel]; exact ⟨_, _, h1, h2, rfl⟩)

theorem mmAll_rel {P : Program} {mx : Bool} {k : IntKind} : ∀ {l : List D} {vs : List Value} {n : Int} {d : D}, mmAll mx k n l = some d → VRels M w μ l vs →
    ∃ v, (vs.foldlM (bif mx then Builtin.max2 else Builtin.min2) (.int k n) : Sem Value).run P w = .ok v w ∧ VRel M w μ d v
  | [], vs, n, d, h, hv => by
    simp only [mmAll, Option.some.injEq] at h
    subst h
    simp only [VRels] at hv
    subst hv
    exact ⟨_, rfl, by simp only [VRel]⟩
  | e :: r, vs, n, d, h, hv => by
    simp only [VRels] at hv
    obtain ⟨v, r', rfl, h1, h2⟩ := hv
    cases e <;> simp only [mmAll, reduceCtorEq] at h
    simp only [VRel] at h1
    subst h1
    obtain ⟨u, g1, g2⟩ := mmAll_rel h h2
    refine ⟨u, ?_, g2⟩
    rw [List.foldlM_cons, Sem.run_bind]
    cases mx
    · simpa [Builtin.min2] using g1
    · simpa [Builtin.max2] using g1

theorem ext_mml (h : Rel E M0 w0 N μ M a w x) {mx : Bool} {o : Oper} {cc : Call} (ho : o.op = .call cc) (hcal : cc.callee = .builtin (bif mx then .max else .min)) {as : List Arg} (hl : cArgs cc.args = some as) {d : D} {x' : AS}
    (hs : step E.G (.xl (.mml mx) as) x = some (d, x')) : gd E M0 w0 N μ M w x a d x' w (execOp a.eval o) := by
  obtain ⟨cs, hrb⟩ := run_builtin0 (P := E.P) (ρ := a.eval) ho hcal w
  unfold gd
  rw [hrb]
  have hv := args_x h hl
  simp only [step_xl, st_xl, Option.map_eq_some_iff, Prod.mk.injEq] at hs
  obtain ⟨d', hk, rfl, rfl⟩ := hs
  generalize as.map (·.ev E.G x.t) = l at hk hv
  unfold xlook at hk
  split at hk
  all_goals try contradiction
  rename_i mx' k n r hke
  cases hke
  simp only [VRels] at hv
  obtain ⟨v, r', hvs, h1, h2⟩ := hv
  simp only [VRel] at h1
  subst h1
  obtain ⟨u, g1, g2⟩ := mmAll_rel (P := E.P) hk h2
  refine Good.of h (v := u) ?_ g2
  cases mx
  · exact run_value (s := Builtin.min_ cc.argTypes o.type (cc.args.map a.eval)) (by simp only [Builtin.min_, hvs]; exact g1)
  · exact run_value (s := Builtin.max_ cc.argTypes o.type (cc.args.map a.eval)) (by simp only [Builtin.max_, hvs]; exact g1)

theorem ext_apz (h : Rel E M0 w0 N μ M a w x) {o : Oper} {cc : Call} (ho : o.op = .call cc) (hcal : cc.callee = .builtin .append) {t u e : TypeId} {k : IntKind} (hts : cc.argTypes.toList = [t, u]) (hu : E.P.underlying t = some (.slice e)) (hn : E.P.underlying u = some (.int k))
    {ao : AOp} (hc : (do
          let i ← E.P.info? e
          let z ← zeroOf E.P e
          let zc ← z.cells?
          bif Nat.beq zc.length i.size && !Nat.beq i.size 0 then (cArgs cc.args).map (.xa (.apz i.size i.bytes zc)) else none) = some ao) {d : D} {x' : AS}
    (hs : step E.G ao x = some (d, x')) : gd E M0 w0 N μ M w x a d x' w (execOp a.eval o) := by
  simp only [Option.bind_eq_bind, Option.bind_eq_some_iff] at hc
  obtain ⟨i, hi, z, hz, zc, hzc, hc⟩ := hc
  cases hcond : (Nat.beq zc.length i.size && !Nat.beq i.size 0) <;> rw [hcond] at hc
  · cases hc
  simp only [Bool.and_eq_true, Bool.not_eq_true'] at hcond
  simp only [cond_true, Option.map_eq_some_iff] at hc
  obtain ⟨as, hl, rfl⟩ := hc
  have hzl := Nat.eq_of_beq_eq_true hcond.1
  simp only [step_xa, st_xa, Option.map_eq_some_iff, Prod.mk.injEq] at hs
  obtain ⟨⟨d', s', c'⟩, hk, rfl, rfl⟩ := hs
  unfold xact at hk
  split at hk
  all_goals try contradiction
  rename_i sz bytes z' kn n hke hle
  cases hke
  have hv := args_x h hl
  rw [hle] at hv
  obtain ⟨v, y, hvs, g1, g2⟩ := vals2 hv
  simp only [VRel] at g1 g2
  subst g1 g2
  cases hroom : (!Nat.beq n 0 && room n i.bytes) <;> rw [hroom] at hk
  · cases hk
  simp only [Bool.and_eq_true, Bool.not_eq_true', room] at hroom
  simp only [cond_true, Option.some.injEq, Prod.mk.injEq] at hk
  obtain ⟨rfl, rfl, rfl⟩ := hk
  have hn0 : 0 < n := by
    rcases Nat.eq_zero_or_pos n with e0 | e0
    · rw [e0] at hroom; simp at hroom
    · exact e0
  have hs0 : 0 < i.size := by
    rcases Nat.eq_zero_or_pos i.size with e0 | e0
    · rw [e0] at hcond; simp at hcond
    · exact e0
  have r1 := Nat.le_of_ble_eq_true hroom.2.1
  have r2 := Nat.le_of_ble_eq_true hroom.2.2
  have r3 : n * i.bytes ≤ 4294967296 * 4096 := Nat.mul_le_mul r1 r2
  simp only [zeroOf, Option.bind_eq_bind, Option.bind_eq_some_iff] at hz
  obtain ⟨i', hi', zv, hzv, hz⟩ := hz
  rw [hi] at hi'; cases hi'
  have hzr := cells_rel hzc (ofV_rel (M := M) (w := w) (μ := μ) _ _ _ hz)
  have hzs : zv.cells.size = i.size := by have := hzr.length; simp only [Array.length_toList] at this; omega
  have hrun := Lib.run_append_nil_zeros (P := E.P) w t u o.type e i zv kn k hu hn hi hzv n hn0 hs0 (by omega) (by omega)
  have hge := grownCap_ge w n 0 e
  have hz0 := zero_rep hzr n i.size hzl (n * i.size) rfl
  let w1 : World := w.drew
  have hw1 : Rel E M0 w0 N μ M a w1 x := h.world rfl
  let arr := Builtin.zeroCells zv.cells n ++ Builtin.zeroCells zv.cells (grownCap w n 0 e - n)
  have hlen : (rep n zc).length = n * i.size := by simp [rep, hzl]
  have hzc1 : (Builtin.zeroCells zv.cells n).size = n * i.size := by simp [Builtin.zeroCells, hzs]
  have hsz : arr.size = grownCap w n 0 e * i.size := by
    simp only [arr, Array.size_append, hzc1]
    rw [show (Builtin.zeroCells zv.cells (grownCap w n 0 e - n)).size = (grownCap w n 0 e - n) * i.size by simp [Builtin.zeroCells, hzs], ← Nat.add_mul]
    congr 1; omega
  obtain ⟨μ', hR, hx, hm, hmle, hf⟩ := new_grow hw1 (cs := rep n zc) (vs := arr) (by rw [hlen, hsz]; exact Nat.mul_le_mul_right _ hge) (e := e) (fz := (0, 0)) (by
    have : arr.toList.take (rep n zc).length = (Builtin.zeroCells zv.cells n).toList := by
      rw [Array.toList_append, List.take_left' (by rw [Array.length_toList, hzc1, hlen])]
    rw [this]
    have e1 : Builtin.zeroCells zv.cells n = (Array.range (n * i.size)).map fun j => zv.cells[j % zv.cells.size]! := by simp only [Builtin.zeroCells, hzs]
    rw [e1]
    exact VRels.mono (show Ext M w M w1 from ⟨Nat.le_refl _, fun _ _ _ => rfl, fun _ _ hm => hm⟩) _ _ (muLe.refl _) hz0) (thaw0 _) (ty := 0) (fun k hk => by first | exact Nat.add_right_cancel hk | exact absurd hk.symm (Nat.succ_ne_zero k)) (w' := w.drew.alloc (.cells arr e)) rfl
  refine ⟨.slice (some ⟨w.heap.size, 0, none⟩) n (grownCap w n 0 e), _, μ', .inl ?_, ?_, hR, ⟨hf.size, hf.same, hf.live, hf.mu, hf.cle, hf.kept⟩⟩
  · obtain ⟨cs, hrb⟩ := run_builtin0 (P := E.P) (ρ := a.eval) ho hcal w
    rw [hrb]
    have hat : cc.argTypes = #[t, u] := by apply Array.ext'; simp [hts]
    rw [hvs, hat]
    exact run_value hrun
  · simp only [VRel]
    exact ⟨_, _, hm, rfl, hge, by simp [hsz], fun hn => by cases hn⟩

theorem ext_mnz (h : Rel E M0 w0 N μ M a w x) {o : Oper} {cc : Call} {f : Nat} (ho : o.op = .call cc) (hcal : cc.callee = .value (.func f)) {as : List Arg} (hl : cArgs cc.args = some as) (hrow : isRow E.P f "internal/bytealg.MakeNoZero" = true)
    {fn : Func} (hf : E.P.funcs[f]? = some fn) {t e : TypeId} (hr : fn.resultTypes.toList = [t]) (hu : E.P.underlying t = some (.slice e)) {d : D} {x' : AS}
    (hs : step E.G (.xa (.mnz (e + 1)) as) x = some (d, x')) : gd E M0 w0 N μ M w x a d x' w (execOp a.eval o) := by
  have hv := args_x h hl
  simp only [step_xa, st_xa, Option.map_eq_some_iff, Prod.mk.injEq] at hs
  obtain ⟨⟨d', s', c'⟩, hk, rfl, rfl⟩ := hs
  generalize as.map (·.ev E.G x.t) = l at hk hv
  unfold xact at hk
  split at hk
  all_goals try contradiction
  rename_i ty n hke
  cases hke
  obtain ⟨v, hvs, g1⟩ := vals1 hv
  simp only [VRel] at g1
  subst g1
  cases hle : Nat.ble n 4294967296 <;> rw [hle] at hk
  · cases hk
  have hle' := Nat.le_of_ble_eq_true hle
  simp only [cond_true, Option.some.injEq, Prod.mk.injEq] at hk
  obtain ⟨rfl, rfl, rfl⟩ := hk
  have hrt : fn.resultTypes = #[t] := by apply Array.ext'; simp [hr]
  obtain ⟨cs, hrun, hge, _⟩ := Lib.run_makeNoZero (P := E.P) w fn.params t e hu n (by omega)
  let w1 : World := w.drew.drew
  have hw1 : Rel E M0 w0 N μ M a w1 x := h.world rfl
  obtain ⟨μ', hR, hx, hm, hmle, hfr⟩ := new_grow hw1 (cs := []) (vs := cs) (Nat.zero_le _) VRels.nil (e := e) (fz := (0, 0)) (thaw0 _) (ty := e + 1) (fun k hk => by first | exact Nat.add_right_cancel hk | exact absurd hk.symm (Nat.succ_ne_zero k)) (w' := w.drew.drew.alloc (.cells cs e)) rfl
  refine ⟨.slice (some ⟨w.heap.size, 0, none⟩) n cs.size, _, μ', .inl ?_, ?_, hR, ⟨hfr.size, hfr.same, hfr.live, hfr.mu, hfr.cle, hfr.kept⟩⟩
  · rw [run_row_op ho hcal rfl, hvs]
    unfold isRow at hrow
    rw [hf] at hrow
    simp only [Bool.and_eq_true, Bool.not_eq_true', beq_iff_eq, Option.isNone_iff_eq_none] at hrow
    obtain ⟨h1, h2, h3, h4⟩ := hrow
    have hfind : Extern.find fn = some (Extern.BytealgMakeNoZero.makeNoZero fn.params fn.resultTypes) := find_mnz h2
    rw [run_callFunc_extern hf h4 (by rw [h1]; rfl) h3 hfind, hrt]
    have hrun' : (Extern.BytealgMakeNoZero.makeNoZero fn.params #[t] #[.int .i64 (Int.ofNat n)]).run E.P w = _ := hrun
    rw [hrun']
    rfl
  · simp only [VRel]
    exact ⟨_, cs.size, hm, rfl, hge, by simp, fun hn => by cases hn⟩

/-- A block of our own is given up as it changes. -/
theorem Rel.kill0 (h : Rel E M0 w0 N μ M a w x) (nm : Nat) (l : Loc) (b : Nat) {w' : World} {x' : AS} (hl : μ nm = some l) (hlb : l.blk = some b) (hlive : (sget x.s nm).isSome = true)
    (hsz : w'.heap.size = w.heap.size) (hheap : ∀ k, k ≠ b → w'.heap[k]? = w.heap[k]?)
    (ht : ∀ n, tget x'.t n = tget x.t n) (hs : ∀ n, sget x'.s n = if n = nm then none else sget x.s n) (hc : x'.c = x.c) (hd : x'.d = x.d)
    (he : Env0 w w' := by exact ⟨rfl, rfl⟩) : Ext M w M w' ∧ Rel E M0 w0 N μ M a w' x' ∧ Fr x.c x.s μ w x'.c x'.s μ w' := by
  have hM := h.isM hl hlb
  have hx : Ext M w M w' := ⟨by omega, fun k _ hk => hheap k fun e => hk (e ▸ hM), fun _ _ hm => hm⟩
  have hi : ∀ n, (sget x'.s n).isSome = true → (sget x.s n).isSome = true := fun n hn => by
    rw [hs] at hn
    by_cases e : n = nm
    · rw [if_pos e] at hn; cases hn
    · rwa [if_neg e] at hn
  refine ⟨hx, { h with
    size := by have := h.size; omega
    old := fun k hk => by rw [hheap k fun e => by have := h.own nm l b hl hlb; omega]; exact h.old k hk
    env := ⟨he.1.trans h.env.1, he.2.trans h.env.2⟩
    defers := by rw [hd]; exact DfRel.mono hx (muLe.refl _) h.defers
    tm := fun n => by rw [ht]; exact VRel.mono hx _ _ (muLe.refl _) (h.tm n)
    own := fun nm l b h1 h2 => by rw [hsz]; exact h.own nm l b h1 h2
    lt := fun nm l hl => by rw [hc]; exact h.lt nm l hl
    inj := fun n m l l' b s1 s2 => h.inj n m l l' b (hi n s1) (hi m s2)
    st := fun k bk lk hlk hk => by
      rw [hs] at hk
      by_cases hkn : k = nm
      · rw [if_pos hkn] at hk; cases hk
      · rw [if_neg hkn] at hk
        refine BRel.mono hx (muLe.refl _) (fun l' b' hl' hlb' => ⟨hheap b' fun e => ?_, id⟩) (h.st k bk lk hlk hk)
        subst e
        exact hkn (h.inj k nm l' l b' (by rw [hk]; rfl) hlive hl' hl hlb' hlb) },
    ⟨by omega, fun k hk hn => hheap k fun e => hn (e ▸ ⟨nm, l, hlive, hl, hlb⟩), fun k _ ⟨n, l, h1, h2, h3⟩ => ⟨n, l, hi n h1, h2, h3⟩, muLe.refl μ, by rw [hc]; exact Nat.le_refl _, fun _ _ h => h⟩⟩

theorem ext_ust (h : Rel E M0 w0 N μ M a w x) {o : Oper} {cc : Call} (ho : o.op = .call cc) (hcal : cc.callee = .builtin .unsafeString) {as : List Arg} (hl : cArgs cc.args = some as) {pt it e : TypeId} (hts : cc.argTypes.toList = [pt, it])
    (hu : E.P.underlying pt = some (.pointer e)) (he1 : Nat.beq (E.P.cellsOf e) 1 = true) {d : D} {x' : AS}
    (hs : step E.G (.xa (.ust (e + 1)) as) x = some (d, x')) : gd E M0 w0 N μ M w x a d x' w (execOp a.eval o) := by
  obtain ⟨cs0, hrb⟩ := run_builtin0 (P := E.P) (ρ := a.eval) ho hcal w
  unfold gd
  rw [hrb]
  have hat : cc.argTypes = #[pt, it] := by apply Array.ext'; simp [hts]
  have hce := Nat.eq_of_beq_eq_true he1
  have hv := args_x h hl
  simp only [step_xa, st_xa, Option.map_eq_some_iff, Prod.mk.injEq] at hs
  obtain ⟨⟨d', s', c'⟩, hk, rfl, rfl⟩ := hs
  generalize as.map (·.ev E.G x.t) = l at hk hv
  unfold xact at hk
  split at hk
  all_goals try contradiction
  · cases hk
    obtain ⟨v, u, hvs, g1, g2⟩ := vals2 hv
    simp only [VRel] at g1 g2
    subst g1 g2
    rw [hvs, hat]
    exact Good.of h (run_value (Lib.run_unsafeString_none _ _ _ _ _)) (by simp only [VRel]; rfl)
  · cases hk
    obtain ⟨v, u, hvs, g1, g2⟩ := vals2 hv
    simp only [VRel] at g1 g2
    obtain ⟨loc, b, _, _, rfl⟩ := g1
    subst g2
    rw [hvs, hat]
    exact Good.of h (run_value (Lib.run_unsafeString_none _ _ _ _ _)) (by simp only [VRel]; rfl)
  · rename_i ty nm n hke
    cases hke
    obtain ⟨v, u, hvs, g1, g2⟩ := vals2 hv
    simp only [VRel] at g1 g2
    obtain ⟨loc, b, k1, k2, rfl⟩ := g1
    subst g2
    split at hk
    · rename_i t0 cs hg
      cases hc : (Nat.beq t0 (e + 1) && (Nat.ble (n + 1) cs.length && Nat.ble (n + 1) 4294967296)) <;> rw [hc] at hk
      · cases hk
      simp only [Bool.and_eq_true] at hc
      have c1 := Nat.eq_of_beq_eq_true hc.1
      have c2 := Nat.le_of_ble_eq_true hc.2.1
      have c3 := Nat.le_of_ble_eq_true hc.2.2
      simp only [cond_true, Option.map_eq_some_iff, Prod.mk.injEq] at hk
      obtain ⟨bs, hbs, rfl, rfl, rfl⟩ := hk
      obtain ⟨l', g1, hh⟩ := h.st nm _ loc k1 hg
      rw [k1] at g1; cases g1
      rcases hh with ⟨g2, _⟩ | ⟨b', vs, ee, fz, g2, g4, g5, g6, g7, g8, g9, g10⟩
      · rw [k2] at g2; cases g2
      rw [k2] at g2; cases g2
      have := g10 e c1
      subst this
      obtain ⟨m1, m2⟩ := mapM_rel hbs
      have hbl : bs.length = n + 1 := by rw [m1]; simp; omega
      have hsh : w.shape? b = some (ee, vs.size) := by simp [World.shape?, g5]
      have hcell : ∀ j y, bs[j]? = some y → w.cell? ((⟨b, 0, none⟩ : Addr).add j) = some (.int .u8 y.toNat) := by
        intro j y hy
        have hj : j < n + 1 := by
          rw [List.getElem?_eq_some_iff] at hy; obtain ⟨hj, _⟩ := hy; omega
        have hcj : (cs.take (n + 1))[j]? = some (cs[j]'(by omega)) := by
          rw [List.getElem?_take, if_pos hj, List.getElem?_eq_getElem (by omega)]
        have hby := m2 j _ _ hcj hy
        have hlen := g9.length
        simp only [List.length_take, Array.length_toList] at hlen
        have hvj : (vs.toList.take cs.length)[j]? = some (vs[j]'(by omega)) := by
          rw [List.getElem?_take, if_pos (by omega)]
          simp [List.getElem?_eq_getElem]
        have hrel := g9.at (List.getElem?_eq_getElem (by omega : j < cs.length)) hvj
        generalize cs[j]'(by omega) = dj at hby hrel
        have hval : vs[j]'(by omega) = .int .u8 y.toNat := by
          unfold byteX at hby
          split at hby
          · rename_i m
            cases hm : Nat.blt m 256 <;> rw [hm] at hby
            · cases hby
            simp only [cond_true, Option.some.injEq] at hby
            subst hby
            simp only [VRel] at hrel
            rw [hrel]
            have hm' : m < 256 := by simpa [Nat.blt_eq] using hm
            simp only [UInt8.toNat_ofNat', Value.int.injEq, true_and]
            rw [Nat.mod_eq_of_lt (by simpa using hm')]
            rfl
          · cases hby
        rw [Addr.add_lit, Nat.zero_add]
        simp only [World.cell?, g5, Option.isSome_none, Bool.false_eq_true, if_false]
        rw [Array.getElem?_eq_getElem (by omega), hval]
      have hrun := Lib.run_unsafeString_row (P := E.P) w pt it o.type ee hu hce b vs.size hsh bs (fun e0 => by rw [e0] at hbl; simp at hbl) (by omega) (by omega) hcell
      obtain ⟨hx, hR, hf⟩ := h.kill0 nm loc b (w' := w.freeze ⟨b, 0, none⟩ bs.length) (x' := ⟨x.t, sdel x.s nm, x.c, x.d, x.r⟩) k1 k2 (by rw [hg]; rfl)
        (by unfold World.freeze; split <;> simp) (fun k hk => by
          unfold World.freeze
          split
          · rfl
          · simp only [Array.getElem?_modify]
            rw [if_neg (fun e => hk e.symm)]) (fun _ => rfl) (fun n => sget_sdel _ _ _) rfl rfl (by unfold World.freeze; split <;> exact ⟨rfl, rfl⟩)
      rw [hvs, hat]
      refine ⟨.string ⟨bs.toArray⟩, _, μ, .inl (run_value ?_), ?_, hR, hf⟩
      · have : (Int.ofNat (n + 1)) = ((bs.length : Nat) : Int) := by rw [hbl]; rfl
        rw [this]
        exact hrun
      · simp only [VRel]
    · cases hk

theorem row_sound (h : Rel E M0 w0 N μ M a w x) {o : Oper} {c : Call} {f : Nat} (ho : o.op = .call c) (hcal : c.callee = .value (.func f)) {ao : AOp} (hc : cRow E.P f c.args = some ao) {d : D} {x' : AS} (hs : step E.G ao x = some (d, x')) :
    gd E M0 w0 N μ M w x a d x' w (execOp a.eval o) := by
  unfold cRow at hc
  cases h1 : isRow E.P f "internal/bytealg.IndexByteString" <;> rw [h1] at hc
  rotate_left
  · simp only [cond_true, Option.map_eq_some_iff] at hc
    obtain ⟨as, hl, rfl⟩ := hc
    exact look_row h ho hcal hl h1 (fun fn => find_idb) hs fun l vs hk hv => xl_idb hk hv
  simp only [cond_false] at hc
  cases h2 : isRow E.P f "internal/bytealg.CountString" <;> rw [h2] at hc
  rotate_left
  · simp only [cond_true, Option.map_eq_some_iff] at hc
    obtain ⟨as, hl, rfl⟩ := hc
    exact look_row h ho hcal hl h2 (fun fn => find_ctb) hs fun l vs hk hv => xl_ctb hk hv
  simp only [cond_false] at hc
  cases h3 : isRow E.P f "internal/abi.NoEscape" <;> rw [h3] at hc
  rotate_left
  · simp only [cond_true, Option.map_eq_some_iff] at hc
    obtain ⟨as, hl, rfl⟩ := hc
    exact look_row h ho hcal hl h3 (fun fn => find_idn) hs fun l vs hk hv => xl_idn hk hv
  simp only [cond_false] at hc
  cases h4 : isRow E.P f "internal/bytealg.MakeNoZero" <;> rw [h4] at hc
  · cases hc
  simp only [cond_true] at hc
  split at hc
  · rename_i fn hf
    split at hc
    · rename_i t hr
      split at hc
      · rename_i e hu
        simp only [Option.map_eq_some_iff] at hc
        obtain ⟨as, hl, rfl⟩ := hc
        exact ext_mnz h ho hcal hl h4 hf hr hu hs
      · cases hc
    · cases hc
  · cases hc

theorem ext_sound (h : Rel E M0 w0 N μ M a w x) {o : Oper} {ao : AOp} (hc : cExt E.P o = some ao) {d : D} {x' : AS} (hs : step E.G ao x = some (d, x')) :
    gd E M0 w0 N μ M w x a d x' w (execOp a.eval o) := by
  unfold cExt at hc
  split at hc
  · rename_i s t y ho
    simp only [execOp, ho]
    split at hc
    · rename_i td hu hd
      simp only [Option.bind_eq_bind, Option.bind_eq_some_iff] at hc
      obtain ⟨i, hi, hc⟩ := hc
      cases hz : Nat.beq i.size 0 <;> rw [hz] at hc
      · simp only [cond_false, Option.map_eq_some_iff] at hc
        obtain ⟨ar, h2, rfl⟩ := hc
        exact ext_upt h hu hd hi hz h2 hs
      · cases hc
    · rename_i u hu hd
      simp only [Option.bind_eq_bind, Option.bind_eq_some_iff] at hc
      obtain ⟨i, hi, hc⟩ := hc
      cases hz : liesAt E.P E.P.depth u (i.size / E.P.cellsOf u) 0 u 1 <;> rw [hz] at hc
      · cases hc
      · simp only [cond_true, Option.map_eq_some_iff] at hc
        obtain ⟨ar, h2, rfl⟩ := hc
        exact ext_ufp h hu hd hi hz h2 hs
    · cases hc
  · rename_i op t y z t' ho
    simp only [execOp, ho]
    split at hc
    · rename_i e hu
      simp only [Option.bind_eq_bind, Option.bind_eq_some_iff] at hc
      obtain ⟨i, hi, ar, h2, pr, h3, hc⟩ := hc
      split at hc
      · cases hc; exact ext_peq (neg := false) h hu hi h2 h3 hs
      · cases hc; exact ext_peq (neg := true) h hu hi h2 h3 hs
      · cases hc
    · cases hc
  · rename_i c ho
    split at hc
    · rename_i f hcal
      exact row_sound h ho hcal hc hs
    · rename_i hcal
      split at hc
      · rename_i t u hts
        split at hc
        · rename_i e k hu hn
          exact ext_apz h ho hcal hts hu hn hc hs
        · cases hc
      · cases hc
    · rename_i hcal
      simp only [Option.map_eq_some_iff] at hc
      obtain ⟨as, hl, rfl⟩ := hc
      exact ext_sda h ho hcal hl hs
    · rename_i hcal
      split at hc
      · rename_i t u hts
        split at hc
        · rename_i e hu
          cases he : Nat.beq (E.P.cellsOf e) 1 <;> rw [he] at hc
          · cases hc
          simp only [cond_true, Option.map_eq_some_iff] at hc
          obtain ⟨as, hl, rfl⟩ := hc
          exact ext_ust h ho hcal hl hts hu he hs
        · cases hc
      · cases hc
    · rename_i hcal
      cases hle : Nat.ble 3 c.args.size <;> rw [hle] at hc
      · cases hc
      simp only [cond_true, Option.map_eq_some_iff] at hc
      obtain ⟨as, hl, rfl⟩ := hc
      exact ext_mml (mx := false) h ho hcal hl hs
    · rename_i hcal
      cases hle : Nat.ble 3 c.args.size <;> rw [hle] at hc
      · cases hc
      simp only [cond_true, Option.map_eq_some_iff] at hc
      obtain ⟨as, hl, rfl⟩ := hc
      exact ext_mml (mx := true) h ho hcal hl hs
    · cases hc
  · cases hc

end

theorem cRow_kind {P : Program} {f : Nat} {as : Array Operand} {op : AOp} (h : cRow P f as = some op) : (∃ k l, op = .xl k l) ∨ ∃ k l, op = .xa k l := by
  unfold cRow at h
  repeat' (first | contradiction | (split at h) | (simp only [Option.map_eq_some_iff, cond_eq_ite] at h) | (obtain ⟨_, _, h⟩ := h) | (subst h; first | exact .inl ⟨_, _, rfl⟩ | exact .inr ⟨_, _, rfl⟩))
  all_goals first | exact .inl ⟨_, _, rfl⟩ | exact .inr ⟨_, _, rfl⟩

theorem cExt_kind {P : Program} {o : Oper} {op : AOp} (h : cExt P o = some op) : ((∃ k l, op = .xl k l) ∨ ∃ k l, op = .xa k l) ∧ ∀ c, o.op ≠ .defer c := by
  unfold cExt at h
  split at h
  · rename_i s t y ho
    refine ⟨?_, fun _ e => by rw [ho] at e; cases e⟩
    repeat' (first | contradiction | (split at h) | (simp only [Option.bind_eq_bind, Option.bind_eq_some_iff, Option.map_eq_some_iff, cond_eq_ite] at h) | (obtain ⟨_, _, h⟩ := h) | (subst h; first | exact .inl ⟨_, _, rfl⟩ | exact .inr ⟨_, _, rfl⟩))
    all_goals first | exact .inl ⟨_, _, rfl⟩ | exact .inr ⟨_, _, rfl⟩
  · rename_i op t y z t' ho
    refine ⟨?_, fun _ e => by rw [ho] at e; cases e⟩
    repeat' (first | contradiction | (split at h) | (cases h; first | exact .inl ⟨_, _, rfl⟩ | exact .inr ⟨_, _, rfl⟩) | (simp only [Option.bind_eq_bind, Option.bind_eq_some_iff, Option.map_eq_some_iff, cond_eq_ite] at h) | (obtain ⟨_, _, h⟩ := h))
    all_goals first | exact .inl ⟨_, _, rfl⟩ | exact .inr ⟨_, _, rfl⟩
  · rename_i c ho
    refine ⟨?_, fun _ e => by rw [ho] at e; cases e⟩
    repeat' (first | contradiction | exact cRow_kind h | (split at h) | (simp only [Option.bind_eq_bind, Option.bind_eq_some_iff, Option.map_eq_some_iff, cond_eq_ite] at h) | (obtain ⟨_, _, h⟩ := h) | (subst h; first | exact .inl ⟨_, _, rfl⟩ | exact .inr ⟨_, _, rfl⟩))
    all_goals first | exact .inl ⟨_, _, rfl⟩ | exact .inr ⟨_, _, rfl⟩
  · cases h

end Zv
/- Every operation of the model that is translated does what the abstract one says. Conditions: none. -/
set_option linter.unusedSimpArgs false
set_option linter.unusedVariables false
namespace Zv
open Go

section
variable {E : Env} {M0 : Nat → Prop} {w0 : World} {N : Nat} {μ : Mu} {M : Nat → Prop} {a : Act} {w : World} {x : AS}

theorem op_builtin (h : Rel E M0 w0 N μ M a w x) {o : Oper} {c : Call} {b : Builtin} (ho : o.op = .call c) (hb : c.callee = .builtin b) {ao : AOp} (hc : cOp0 E.P o = some ao) {d : D} {x' : AS}
    (hs : step E.G ao x = some (d, x')) : gd E M0 w0 N μ M w x a d x' w (execOp a.eval o) := by
  unfold gd
  obtain ⟨cs, hrb⟩ := run_builtin0 (P := E.P) (ρ := a.eval) ho hb w
  rw [hrb]
  clear hrb
  simp only [cOp0, ho, hb] at hc
  obtain ⟨callee, args, ats⟩ := c
  obtain ⟨args⟩ := args
  obtain ⟨ats⟩ := ats
  simp only at hb hc ⊢
  have hm : (⟨args⟩ : Array Operand).map a.eval = ⟨args.map a.eval⟩ := by apply Array.ext'; simp
  rw [hm]
  clear hm ho
  subst hb
  split at hc
  · -- len
    rename_i y t
    split at hc
    · rename_i hu
      simp only [Option.bind_eq_bind, Option.bind_eq_some_iff, Option.some.injEq] at hc
      obtain ⟨ar, h2, rfl⟩ := hc
      exact op_len (ty := o.type) h h2 (by simpa using hu) hs
    · rename_i e hu
      simp only [Option.bind_eq_bind, Option.bind_eq_some_iff, Option.some.injEq] at hc
      obtain ⟨ar, h2, rfl⟩ := hc
      exact op_len (ty := o.type) h h2 (by simpa using ⟨e, hu⟩) hs
    · rename_i n e hu
      simp only [Option.some.injEq] at hc
      subst hc
      simp only [step_mv, st_mv, step_pick, st_pick, step_new, st_new, step_ld, st_ld, step_st, st_st, step_fa, st_fa, step_iaA, st_iaA, step_iaS, st_iaS, step_ixA, st_ixA, step_ixS, st_ixS, step_fld, st_fld, step_ext, st_ext, step_bin, st_bin, step_cmp, st_cmp, step_un, st_un, step_bld, st_bld, step_bsl, st_bsl, step_mks, st_mks, step_slS, st_slS, step_slV, st_slV, step_slA, st_slA, step_len, st_len, step_cap, st_cap, step_app, st_app, step_copy, st_copy, step_cvI, st_cvI, step_cvN, st_cvN, step_cvB, st_cvB, step_cvS, st_cvS, step_mkif, st_mkif, step_mkfn, st_mkfn, step_nilc, st_nilc, step_rng, st_rng, step_next, st_next, step_mm, st_mm, step_mkm, st_mkm, step_mlk, st_mlk, step_mup, st_mup, step_men, st_men, step_mst, st_mst, step_mln, st_mln, step_rgm, st_rgm, step_nxm, st_nxm, step_ent, st_ent, step_tas, st_tas, step_tai, st_tai, step_xl, st_xl, step_xa, st_xa, step_call, step_callv, step_inv, step_pan, step_dfr, step_rcv, Arg.ev, Option.some.injEq, Prod.mk.injEq] at hs
      obtain ⟨rfl, rfl⟩ := hs
      exact Good.of (v := .int .i64 n) h (run_value (by simp [Builtin.len_, run_underlying hu, goInt])) (by show VRel _ _ _ (.int .i64 n) _; simp only [VRel])
    · rename_i k e hu
      simp only [Option.bind_eq_bind, Option.bind_eq_some_iff, Option.some.injEq] at hc
      obtain ⟨ar, h2, rfl⟩ := hc
      exact op_mln (ty := o.type) h hu h2 hs
    · cases hc
  · -- cap
    rename_i y t
    split at hc
    · rename_i e hu
      simp only [Option.bind_eq_bind, Option.bind_eq_some_iff, Option.some.injEq] at hc
      obtain ⟨ar, h2, rfl⟩ := hc
      exact op_cap (ty := o.type) h hu h2 hs
    · cases hc
  · -- append
    rename_i y z t u
    split at hc
    · rename_i e e' hu hu'
      simp only [Option.bind_eq_bind, Option.bind_eq_some_iff] at hc
      obtain ⟨i, hi, j, hj, zv, hz, ar, h2, pr, h3, hc⟩ := hc
      cases hcond : (Nat.beq i.size j.size && !Nat.beq i.size 0 && Nat.beq zv.cells.size i.size)
      · rw [hcond] at hc; cases hc
      rw [hcond] at hc
      simp only [Bool.and_eq_true, Bool.not_eq_true'] at hcond
      simp only [cond_true, Option.some.injEq] at hc
      subst hc
      exact op_app h ⟨hu, .inl ⟨e', hu'⟩, hi, hz, Nat.eq_of_beq_eq_true hcond.2⟩ hcond.1.2 h2 h3 hs o.type
    · rename_i e hu hu'
      simp only [Option.bind_eq_bind, Option.bind_eq_some_iff] at hc
      obtain ⟨i, hi, zv, hz, ar, h2, pr, h3, hc⟩ := hc
      cases hcond : (Nat.beq i.size 1 && Nat.beq zv.cells.size 1) <;> rw [hcond] at hc
      · cases hc
      simp only [Bool.and_eq_true] at hcond
      have e1 := Nat.eq_of_beq_eq_true hcond.1
      have e2 := Nat.eq_of_beq_eq_true hcond.2
      simp only [cond_true, Option.some.injEq] at hc
      subst hc
      exact op_app h ⟨hu, .inr hu', hi, hz, by omega⟩ (by rw [e1]; rfl) h2 h3 hs o.type
    · cases hc
  · -- copy
    rename_i y z t u
    split at hc
    · rename_i e e' hu hu'
      simp only [Option.bind_eq_bind, Option.bind_eq_some_iff] at hc
      obtain ⟨i, hi, j, hj, ar, h2, pr, h3, hc⟩ := hc
      cases hcond : (Nat.beq i.size j.size) <;> rw [hcond] at hc
      · cases hc
      simp only [cond_true, Option.some.injEq] at hc
      subst hc
      exact op_copy (ty := o.type) h hu (by simp [szOf, hi]) h2 h3 hs
    · rename_i e hu hu'
      simp only [Option.bind_eq_bind, Option.bind_eq_some_iff] at hc
      obtain ⟨i, hi, ar, h2, pr, h3, hc⟩ := hc
      cases hcond : (Nat.beq i.size 1) <;> rw [hcond] at hc
      · cases hc
      have e1 := Nat.eq_of_beq_eq_true hcond
      simp only [cond_true, Option.some.injEq] at hc
      subst hc
      exact op_copy (ty := o.type) h hu (by simp [szOf, hi, e1]) h2 h3 hs
    · cases hc
  · -- min
    simp only [Option.bind_eq_bind, Option.bind_eq_some_iff, Option.some.injEq] at hc
    obtain ⟨ar, h2, pr, h3, rfl⟩ := hc
    exact op_mm (mx := false) (ts := ⟨ats⟩) (ty := o.type) h h2 h3 hs
  · -- max
    simp only [Option.bind_eq_bind, Option.bind_eq_some_iff, Option.some.injEq] at hc
    obtain ⟨ar, h2, pr, h3, rfl⟩ := hc
    exact op_mm (mx := true) (ts := ⟨ats⟩) (ty := o.type) h h2 h3 hs
  · cases hc
    simp only [step_rcv, reduceCtorEq] at hs
  · cases hc

theorem op_sound0 (h : Rel E M0 w0 N μ M a w x) {o : Oper} {ao : AOp} (hc : cOp0 E.P o = some ao) {d : D} {x' : AS} (hs : step E.G ao x = some (d, x')) :
    gd E M0 w0 N μ M w x a d x' w (execOp a.eval o) := by
  have hcase : ∀ op, o.op = op → gd E M0 w0 N μ M w x a d x' w (execOp a.eval o) := by
    intro op ho
    have hc' := hc
    simp only [cOp0, ho] at hc
    cases op <;> (try simp only [reduceCtorEq] at hc)
    case move y =>
      simp only [Option.bind_eq_bind, Option.bind_eq_some_iff, Option.some.injEq] at hc
      obtain ⟨ar, h2, rfl⟩ := hc
      simp only [execOp, ho]; exact op_mv h h2 hs
    case assign y =>
      simp only [Option.bind_eq_bind, Option.bind_eq_some_iff, Option.some.injEq] at hc
      obtain ⟨ar, h2, rfl⟩ := hc
      simp only [execOp, ho]; exact op_mv h h2 hs
    case pick c p q =>
      simp only [Option.bind_eq_bind, Option.bind_eq_some_iff, Option.some.injEq] at hc
      obtain ⟨c', h1, p', h2, q', h3, rfl⟩ := hc
      simp only [execOp, ho]; exact op_pick h h1 h2 h3 hs
    case alloc t =>
      simp only [Option.bind_eq_bind, Option.bind_eq_some_iff, Option.some.injEq] at hc
      obtain ⟨zd, hz, rfl⟩ := hc
      simp only [zeroOf, Option.bind_eq_bind, Option.bind_eq_some_iff] at hz
      obtain ⟨i, hi, v, hv, hz⟩ := hz
      simp only [execOp, ho]
      refine op_new (v := v) (e := t) h (by simp only [Arg.ev]; exact ofV_rel _ _ _ hz) hs ?_
      simp [Instr.alloc, zeroValue, run_typeInfo' hi, hv, newVar, newRow]
    case box t y =>
      simp only [Option.bind_eq_bind, Option.bind_eq_some_iff, Option.some.injEq] at hc
      obtain ⟨ar, h2, rfl⟩ := hc
      simp only [execOp, ho]
      refine op_new (v := a.eval y) (e := t) h (arg_rel h h2) hs ?_
      simp [Instr.box, newVar, newRow]
    case build t ps =>
      simp only [Option.bind_eq_bind, Option.bind_eq_some_iff] at hc
      obtain ⟨zd, hz, cells, hcl, hc⟩ := hc
      simp only [execOp, ho]
      split at hc
      · rename_i fs hu
        simp only [Option.bind_eq_some_iff] at hc
        obtain ⟨l, hl, hc⟩ := hc
        cases hall : (fs.all fun f => (E.P.info? f.type).isSome) <;> rw [hall] at hc
        · cases hc
        simp only [cond_true, Option.some.injEq] at hc
        subst hc
        exact op_bld_struct h hz hcl hu hl hall hs
      · rename_i n e hu
        simp only [Option.bind_eq_some_iff, Option.some.injEq] at hc
        obtain ⟨s, hsz, l, hl, rfl⟩ := hc
        exact op_bld_array h hz hcl hu hsz hl hs
      · cases hc
    case buildSlice t len ps =>
      simp only [execOp, ho]
      split at hc
      · rename_i e hu
        simp only [Option.bind_eq_bind, Option.bind_eq_some_iff] at hc
        obtain ⟨s, hsz, zd, hz, l, hl, zc, hzc, hc⟩ := hc
        cases hcond : (Nat.ble (len * s) 16777216 && Nat.beq zc.length s) <;> rw [hcond] at hc
        · cases hc
        simp only [Bool.and_eq_true] at hcond
        simp only [cond_true, Option.some.injEq] at hc
        subst hc
        exact op_bsl h hu hsz hz hzc hcond.1 hcond.2 hl hs
      · cases hc
    case load t y =>
      simp only [Option.bind_eq_bind, Option.bind_eq_some_iff, Option.some.injEq] at hc
      obtain ⟨sz, h1, ar, h2, rfl⟩ := hc
      simp only [execOp, ho]; exact op_ld h h1 h2 hs
    case store t y v =>
      simp only [Option.bind_eq_bind, Option.bind_eq_some_iff, Option.some.injEq] at hc
      obtain ⟨n, h1, ar, h2, pr, h3, rfl⟩ := hc
      simp only [execOp, ho]; exact op_st h h1 h2 h3 hs
    case nilCheck y =>
      simp only [Option.bind_eq_bind, Option.bind_eq_some_iff, Option.some.injEq] at hc
      obtain ⟨ar, h2, rfl⟩ := hc
      exact op_nilc h ho h2 hs
    case binOp op t y z t' =>
      simp only [execOp, ho]
      cases hn : isNumT E.P t <;> rw [hn] at hc
      · simp only [cond_false] at hc
        cases op <;> simp only [reduceCtorEq] at hc
        · simp only [Option.bind_eq_bind, Option.bind_eq_some_iff, Option.some.injEq] at hc
          obtain ⟨k, hk, ar, h2, pr, h3, rfl⟩ := hc
          exact op_cmp (neg := false) h hk h2 h3 hs
        · simp only [Option.bind_eq_bind, Option.bind_eq_some_iff, Option.some.injEq] at hc
          obtain ⟨k, hk, ar, h2, pr, h3, rfl⟩ := hc
          exact op_cmp (neg := true) h hk h2 h3 hs
      · simp only [cond_true, Option.bind_eq_bind, Option.bind_eq_some_iff, Option.some.injEq] at hc
        obtain ⟨ar, h2, pr, h3, rfl⟩ := hc
        exact op_bin h h2 h3 hs
    case unOp op t y =>
      simp only [Option.bind_eq_bind, Option.bind_eq_some_iff, Option.some.injEq] at hc
      obtain ⟨ar, h2, rfl⟩ := hc
      simp only [execOp, ho]; exact op_un h h2 hs
    case convert s t y =>
      simp only [execOp, ho]
      split at hc
      · rename_i k k' hu hd
        simp only [Option.bind_eq_bind, Option.bind_eq_some_iff, Option.some.injEq] at hc
        obtain ⟨ar, h2, rfl⟩ := hc
        exact op_cvI h hu hd h2 hs
      · rename_i k hu hd
        simp only [Option.bind_eq_bind, Option.bind_eq_some_iff, Option.some.injEq] at hc
        obtain ⟨ar, h2, rfl⟩ := hc
        exact op_cvN h hu hd (.inl ⟨k, rfl⟩) h2 hs
      · rename_i hu hd
        simp only [Option.bind_eq_bind, Option.bind_eq_some_iff, Option.some.injEq] at hc
        obtain ⟨ar, h2, rfl⟩ := hc
        exact op_cvN h hu hd (.inr rfl) h2 hs
      · rename_i e hu hd
        split at hc
        · rename_i he
          cases hcond : (E.P.cellsOf e == 1) <;> rw [hcond] at hc
          · cases hc
          simp only [cond_true, Option.bind_eq_bind, Option.bind_eq_some_iff, Option.some.injEq] at hc
          obtain ⟨ar, h2, rfl⟩ := hc
          exact op_cvB h hu hd he h2 hs
        · cases hc
      · rename_i e hu hd
        split at hc
        · rename_i he
          simp only [Option.bind_eq_bind, Option.bind_eq_some_iff, Option.some.injEq] at hc
          obtain ⟨ar, h2, rfl⟩ := hc
          exact op_cvS h hu hd he h2 hs
        · cases hc
      · cases hc
    case makeInterface t y =>
      simp only [execOp, ho]
      split at hc
      · cases hc
      · rename_i ds hn hu
        simp only [Option.bind_eq_bind, Option.bind_eq_some_iff, Option.some.injEq] at hc
        obtain ⟨ar, h2, rfl⟩ := hc
        exact op_mkif h hu (fun ms e => hn ms e) h2 hs
      · cases hc
    case makeFunc f p q =>
      simp only [Option.bind_eq_bind, Option.bind_eq_some_iff, Option.some.injEq] at hc
      obtain ⟨p', h2, q', h3, rfl⟩ := hc
      simp only [execOp, ho]; exact op_mkfn h h2 h3 hs
    case makeSlice t l c =>
      simp only [execOp, ho]
      split at hc
      · rename_i e hu
        simp only [Option.bind_eq_bind, Option.bind_eq_some_iff] at hc
        obtain ⟨i, hi, zd, hz, zc, hzc, lr, h2, cr, h3, hc⟩ := hc
        cases hcond : (Nat.beq zc.length i.size) <;> rw [hcond] at hc
        · cases hc
        simp only [cond_true, Option.some.injEq] at hc
        subst hc
        exact op_mks h hu hi hz hzc hcond h2 h3 hs
      · cases hc
    case slice t y l hi m =>
      simp only [execOp, ho]
      split at hc
      · rename_i hu
        cases m with
        | none =>
          simp only [Option.bind_eq_bind, Option.bind_eq_some_iff, Option.some.injEq] at hc
          obtain ⟨ar, h2, l', hl, h', hh, rfl⟩ := hc
          exact op_slS h hu h2 hl hh hs
        | some m => cases hc
      · rename_i e hu
        simp only [Option.bind_eq_bind, Option.bind_eq_some_iff] at hc
        obtain ⟨s, hsz, hc⟩ := hc
        split at hc
        · cases hc
        · rename_i hno
          simp only [Option.bind_eq_some_iff, Option.some.injEq] at hc
          obtain ⟨ar, h2, l', hl, h', hh, m', hm, rfl⟩ := hc
          refine op_slV h hu hsz h2 hl hh hm ?_ hs
          rintro ⟨rfl, hm'⟩
          have e1 := cArgO_none hh
          cases m with
          | none => simp [cArgO] at hm; exact hm' hm.symm
          | some m => exact hno m e1 rfl
      · rename_i n e hu
        simp only [Option.bind_eq_bind, Option.bind_eq_some_iff] at hc
        obtain ⟨s, hsz, hc⟩ := hc
        split at hc
        · cases hc
        · rename_i hno
          simp only [Option.bind_eq_some_iff, Option.some.injEq] at hc
          obtain ⟨ar, h2, l', hl, h', hh, m', hm, rfl⟩ := hc
          refine op_slA h hu hsz h2 hl hh hm ?_ hs
          rintro ⟨rfl, hm'⟩
          have e1 := cArgO_none hh
          cases m with
          | none => simp [cArgO] at hm; exact hm' hm.symm
          | some m => exact hno m e1 rfl
      · cases hc
    case fieldAddr t y i =>
      simp only [execOp, ho]
      split at hc
      · rename_i fs hu
        simp only [Option.bind_eq_bind, Option.bind_eq_some_iff] at hc
        obtain ⟨f, hf, s, hsz, ar, h2, hc⟩ := hc
        cases hcond : Nat.beq s 0 <;> rw [hcond] at hc
        · simp only [cond_false, Option.some.injEq] at hc
          subst hc
          exact op_fa h hu hf hsz hcond h2 hs
        · cases hc
      · cases hc
    case field t y i =>
      simp only [execOp, ho]
      split at hc
      · rename_i fs hu
        simp only [Option.bind_eq_bind, Option.bind_eq_some_iff, Option.some.injEq] at hc
        obtain ⟨f, hf, sz, hsz, ar, h2, rfl⟩ := hc
        exact op_fld h hu hf hsz h2 hs
      · cases hc
    case indexAddr t y i =>
      simp only [execOp, ho]
      split at hc
      · rename_i n e hu
        simp only [Option.bind_eq_bind, Option.bind_eq_some_iff, Option.some.injEq] at hc
        obtain ⟨s, hsz, ar, h2, pr, h3, rfl⟩ := hc
        exact op_iaA h hu hsz h2 h3 hs
      · rename_i e hu
        simp only [Option.bind_eq_bind, Option.bind_eq_some_iff, Option.some.injEq] at hc
        obtain ⟨s, hsz, ar, h2, pr, h3, rfl⟩ := hc
        exact op_iaS h hu hsz h2 h3 hs
      · cases hc
    case index t y i =>
      simp only [execOp, ho]
      split at hc
      · rename_i n e hu
        simp only [Option.bind_eq_bind, Option.bind_eq_some_iff, Option.some.injEq] at hc
        obtain ⟨s, hsz, bb, hag, ar, h2, pr, h3, rfl⟩ := hc
        exact op_ixA h hu hsz hag h2 h3 hs
      · rename_i hu
        simp only [Option.bind_eq_bind, Option.bind_eq_some_iff, Option.some.injEq] at hc
        obtain ⟨ar, h2, pr, h3, rfl⟩ := hc
        exact op_ixS h hu h2 h3 hs
      · cases hc
    case range t y =>
      simp only [execOp, ho]
      split at hc
      · rename_i hu
        simp only [Option.bind_eq_bind, Option.bind_eq_some_iff, Option.some.injEq] at hc
        obtain ⟨ar, h2, rfl⟩ := hc
        exact op_rng h hu h2 hs
      · rename_i k e hu
        simp only [Option.bind_eq_bind, Option.bind_eq_some_iff, Option.some.injEq] at hc
        obtain ⟨ar, h2, rfl⟩ := hc
        exact op_rgm h hu h2 hs
      · cases hc
    case next y s =>
      simp only [execOp, ho]
      cases s
      · simp only [cond_false, Option.bind_eq_bind, Option.bind_eq_some_iff, Option.some.injEq] at hc
        obtain ⟨ar, h2, rfl⟩ := hc
        exact op_nxm h h2 hs
      · simp only [cond_true, Option.bind_eq_bind, Option.bind_eq_some_iff, Option.some.injEq] at hc
        obtain ⟨ar, h2, rfl⟩ := hc
        exact op_next h h2 hs
    case extract y i =>
      simp only [Option.bind_eq_bind, Option.bind_eq_some_iff, Option.some.injEq] at hc
      obtain ⟨ar, h2, rfl⟩ := hc
      simp only [execOp, ho]; exact op_ext h h2 hs
    case call c =>
      cases hcal : c.callee with
      | builtin b => exact op_builtin h ho hcal hc' hs
      | value f =>
        rw [hcal] at hc
        cases f with
        | func f =>
          simp only [Option.bind_eq_bind, Option.bind_eq_some_iff] at hc
          obtain ⟨fn, hfn, as, _, hc⟩ := hc
          cases hcond : (fn.name == "runtime.NumGoroutine" || fn.body.isNone) <;> rw [hcond] at hc
          · simp only [cond_false, Option.some.injEq] at hc
            subst hc
            simp [step_mv, st_mv, step_pick, st_pick, step_new, st_new, step_ld, st_ld, step_st, st_st, step_fa, st_fa, step_iaA, st_iaA, step_iaS, st_iaS, step_ixA, st_ixA, step_ixS, st_ixS, step_fld, st_fld, step_ext, st_ext, step_bin, st_bin, step_cmp, st_cmp, step_un, st_un, step_bld, st_bld, step_bsl, st_bsl, step_mks, st_mks, step_slS, st_slS, step_slV, st_slV, step_slA, st_slA, step_len, st_len, step_cap, st_cap, step_app, st_app, step_copy, st_copy, step_cvI, st_cvI, step_cvN, st_cvN, step_cvB, st_cvB, step_cvS, st_cvS, step_mkif, st_mkif, step_mkfn, st_mkfn, step_nilc, st_nilc, step_rng, st_rng, step_next, st_next, step_mm, st_mm, step_mkm, st_mkm, step_mlk, st_mlk, step_mup, st_mup, step_men, st_men, step_mst, st_mst, step_mln, st_mln, step_rgm, st_rgm, step_nxm, st_nxm, step_ent, st_ent, step_tas, st_tas, step_tai, st_tai, step_call, step_callv, step_inv, step_pan, step_dfr, step_rcv, step_xl, st_xl, step_xa, st_xa] at hs
          · cases hc
        | _ =>
          simp only [Option.bind_eq_bind, Option.bind_eq_some_iff, Option.some.injEq] at hc
          obtain ⟨ar, _, as, _, rfl⟩ := hc
          simp [step_mv, st_mv, step_pick, st_pick, step_new, st_new, step_ld, st_ld, step_st, st_st, step_fa, st_fa, step_iaA, st_iaA, step_iaS, st_iaS, step_ixA, st_ixA, step_ixS, st_ixS, step_fld, st_fld, step_ext, st_ext, step_bin, st_bin, step_cmp, st_cmp, step_un, st_un, step_bld, st_bld, step_bsl, st_bsl, step_mks, st_mks, step_slS, st_slS, step_slV, st_slV, step_slA, st_slA, step_len, st_len, step_cap, st_cap, step_app, st_app, step_copy, st_copy, step_cvI, st_cvI, step_cvN, st_cvN, step_cvB, st_cvB, step_cvS, st_cvS, step_mkif, st_mkif, step_mkfn, st_mkfn, step_nilc, st_nilc, step_rng, st_rng, step_next, st_next, step_mm, st_mm, step_mkm, st_mkm, step_mlk, st_mlk, step_mup, st_mup, step_men, st_men, step_mst, st_mst, step_mln, st_mln, step_rgm, st_rgm, step_nxm, st_nxm, step_ent, st_ent, step_tas, st_tas, step_tai, st_tai, step_call, step_callv, step_inv, step_pan, step_dfr, step_rcv, step_xl, st_xl, step_xa, st_xa] at hs
      | invoke r m =>
        rw [hcal] at hc
        simp only [Option.bind_eq_bind, Option.bind_eq_some_iff, Option.some.injEq] at hc
        obtain ⟨ar, _, as, _, rfl⟩ := hc
        simp only [step_inv, reduceCtorEq] at hs
    case panic y =>
      simp only [Option.bind_eq_bind, Option.bind_eq_some_iff, Option.some.injEq] at hc
      obtain ⟨ar, _, rfl⟩ := hc
      simp only [step_pan, reduceCtorEq] at hs
    case defer c =>
      split at hc
      · simp only [Option.bind_eq_bind, Option.bind_eq_some_iff, Option.some.injEq] at hc
        obtain ⟨ar, _, as, _, rfl⟩ := hc
        simp only [step_dfr, reduceCtorEq] at hs
      · cases hc
    case makeMap t r =>
      cases r with
      | none =>
        simp only [Option.some.injEq] at hc
        subst hc
        simp only [execOp, ho]
        exact op_mkm h hs
      | some r => simp only [reduceCtorEq] at hc
    case lookup t y i ok =>
      split at hc
      · rename_i k e hu
        simp only [Option.bind_eq_bind, Option.bind_eq_some_iff, Option.some.injEq] at hc
        obtain ⟨z, hz, kt, hk, ar, h2, pr, h3, rfl⟩ := hc
        simp only [execOp, ho]
        exact op_mlk h hu hz hk h2 h3 hs
      · cases hc
    case mapUpdate t y i v =>
      split at hc
      · rename_i k e hu
        simp only [Option.bind_eq_bind, Option.bind_eq_some_iff, Option.some.injEq] at hc
        obtain ⟨kt, hk, ar, h2, pr, h3, qr, h4, rfl⟩ := hc
        simp only [execOp, ho]
        exact op_mup h hu hk h2 h3 h4 hs
      · cases hc
    case insert t y i v =>
      split at hc
      · rename_i k e hu
        simp only [Option.bind_eq_bind, Option.bind_eq_some_iff, Option.some.injEq] at hc
        obtain ⟨kt, hk, ar, h2, pr, h3, qr, h4, rfl⟩ := hc
        simp only [execOp, ho]
        exact op_mup h hu hk h2 h3 h4 hs
      · cases hc
    case entry y =>
      simp only [Option.bind_eq_bind, Option.bind_eq_some_iff, Option.some.injEq] at hc
      obtain ⟨ar, h2, rfl⟩ := hc
      simp only [execOp, ho]
      exact op_ent h h2 hs
    case typeAssert y s t ok =>
      split at hc
      · cases hc
      · rename_i td hni hu
        simp only [Option.bind_eq_bind, Option.bind_eq_some_iff, Option.some.injEq] at hc
        obtain ⟨z, hz, ar, h2, rfl⟩ := hc
        simp only [execOp, ho]
        exact op_tas h hu (fun ms e => hni ms e) hz h2 hs
      · cases hc
  exact hcase o.op rfl

theorem op_sound (h : Rel E M0 w0 N μ M a w x) {o : Oper} {ao : AOp} (hc : cOp E.P o = some ao) {d : D} {x' : AS} (hs : step E.G ao x = some (d, x')) :
    gd E M0 w0 N μ M w x a d x' w (execOp a.eval o) := by
  unfold cOp at hc
  split at hc
  · rename_i op he
    cases hc
    exact ext_sound h he hs
  · exact op_sound0 h hc hs
end

end Zv
