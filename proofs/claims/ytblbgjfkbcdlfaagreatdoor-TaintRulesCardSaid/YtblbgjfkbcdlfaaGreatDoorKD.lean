/- The operations of the model do what the abstract ones say: the rest of them, and all together. Conditions: none. -/
import Derived.Test.YtblbgjfkbcdlfaaGreatDoorKC
set_option linter.unusedSimpArgs false
set_option linter.unusedVariables false
namespace Iv
open Go

section
variable {E : Env} {M0 : Nat → Prop} {w0 : World} {N : Nat} {μ : Mu} {M : Nat → Prop} {a : Act} {w : World} {x : AS}

theorem op_cap (h : Rel E M0 w0 N μ M a w x) {t e ty : TypeId} (hu : E.P.underlying t = some (.slice e)) {o : Operand} {ar : Arg} (h2 : cArg o = some ar) {d : D} {x' : AS}
    (hs : step E.G (.cap ar) x = some (d, x')) : gd E M0 w0 N a d x' w (do pure (.value (← Builtin.cap_ #[t] ty #[a.eval o]))) := by
  have hv := arg_rel h h2
  generalize a.eval o = v at *
  simp only [step] at hs
  split at hs
  · rename_i he
    rw [he] at hv; simp only [VRel] at hv; subst hv
    cases hs
    exact Good.of (v := .int .i64 0) h (run_value (by simp [Builtin.cap_, run_underlying hu, goInt])) (by simp only [VRel])
  · rename_i nm off z len c he
    rw [he] at hv; simp only [VRel] at hv
    obtain ⟨l, b, _, _, rfl, _⟩ := hv
    cases hs
    exact Good.of (v := .int .i64 c) h (run_value (by simp [Builtin.cap_, run_underlying hu, goInt])) (by simp only [VRel])
  · rename_i n cs he
    rw [he] at hv; simp only [VRel] at hv
    obtain ⟨ad, cap, rfl, _, h3, _⟩ := hv
    have := h3 trivial
    subst this
    cases hs
    exact Good.of (v := .int .i64 cap) h (run_value (by simp [Builtin.cap_, run_underlying hu, goInt])) (by simp only [VRel])
  · cases hs

theorem op_len (h : Rel E M0 w0 N μ M a w x) {t ty : TypeId} {st : Bool} {o : Operand} {ar : Arg} (h2 : cArg o = some ar) (hu : if st then E.P.underlying t = some .string else ∃ e, E.P.underlying t = some (.slice e)) {d : D} {x' : AS}
    (hs : step E.G (.len st ar) x = some (d, x')) : gd E M0 w0 N a d x' w (do pure (.value (← Builtin.len_ #[t] ty #[a.eval o]))) := by
  have hv := arg_rel h h2
  simp only [step] at hs
  split at hs
  · rename_i n hn
    cases hs
    exact Good.of h (run_value (lenD_rel (P := E.P) hn hv hu w)) (by simp only [VRel])
  · cases hs

theorem op_mm (h : Rel E M0 w0 N μ M a w x) {mx : Bool} {ts : Array TypeId} {ty : TypeId} {o p : Operand} {ar pr : Arg} (h2 : cArg o = some ar) (h3 : cArg p = some pr) {d : D} {x' : AS}
    (hs : step E.G (.mm mx ar pr) x = some (d, x')) :
    gd E M0 w0 N a d x' w (do pure (.value (← bif mx then Builtin.max_ ts ty #[a.eval o, a.eval p] else Builtin.min_ ts ty #[a.eval o, a.eval p]))) := by
  have hv := arg_rel h h2
  have hp := arg_rel h h3
  generalize a.eval o = v at *
  generalize a.eval p = u at *
  simp only [step] at hs
  split at hs
  · rename_i k n k' m he1 he2
    rw [he1] at hv; rw [he2] at hp
    simp only [VRel] at hv hp; subst hv; subst hp
    cases hs
    cases mx
    · exact Good.of (v := .int k (if m < n then m else n)) h (run_value (by simp [Builtin.min_, Builtin.min2])) (by simp only [VRel, cond_false])
    · exact Good.of (v := .int k (if m > n then m else n)) h (run_value (by simp [Builtin.max_, Builtin.max2])) (by simp only [VRel, cond_true])
  · cases hs

theorem op_cvI (h : Rel E M0 w0 N μ M a w x) {s t : TypeId} {k k' : IntKind} (hu : E.P.underlying s = some (.int k')) (hd : E.P.underlying t = some (.int k)) {o : Operand} {ar : Arg} (h2 : cArg o = some ar) {d : D} {x' : AS}
    (hs : step E.G (.cvI k ar) x = some (d, x')) : gd E M0 w0 N a d x' w (do pure (.value (← convert s t (a.eval o)))) := by
  have hv := arg_rel h h2
  generalize a.eval o = v at *
  simp only [step] at hs
  split at hs
  · rename_i j n he
    rw [he] at hv; simp only [VRel] at hv; subst hv
    cases hs
    exact Good.of (v := .int k (k.wrap n)) h (run_value (by simp [convert, run_underlying hu, run_underlying hd, Conv.intToInt])) (by simp only [VRel, wrapD_eq])
  · cases hs

theorem op_cvN (h : Rel E M0 w0 N μ M a w x) {s t : TypeId} {ds : TypeDesc} (hu : E.P.underlying s = some ds) (hd : E.P.underlying t = some .string) (hk : (∃ k, ds = .int k) ∨ ds = .string) {o : Operand} {ar : Arg} (h2 : cArg o = some ar) {d : D} {x' : AS}
    (hs : step E.G (.cvN ar) x = some (d, x')) : gd E M0 w0 N a d x' w (do pure (.value (← convert s t (a.eval o)))) := by
  have hv := arg_rel h h2
  generalize a.eval o = v at *
  simp only [step] at hs
  split at hs
  · rename_i j n he
    rw [he] at hv; simp only [VRel] at hv; subst hv
    cases hs
    refine Good.of (v := .string (Utf8.encode n)) h (run_value ?_) (by simp only [VRel, Array.toArray_toList])
    rcases hk with ⟨k, rfl⟩ | rfl <;> simp [convert, run_underlying hu, run_underlying hd, Conv.intToString]
  · rename_i s he
    rw [he] at hv; have hvv := hv; simp only [VRel] at hv; subst hv
    cases hs
    refine Good.of h (run_value ?_) hvv
    rcases hk with ⟨k, rfl⟩ | rfl <;> simp [convert, run_underlying hu, run_underlying hd]
  · cases hs

theorem op_cvB (h : Rel E M0 w0 N μ M a w x) {s t e : TypeId} (hu : E.P.underlying s = some .string) (hd : E.P.underlying t = some (.slice e)) (he : E.P.underlying e = some (.int .u8)) {nm : Nat} {o : Operand} {ar : Arg} (h2 : cArg o = some ar)
    {d : D} {x' : AS} (hs : step E.G (.cvB nm ar) x = some (d, x')) : gd E M0 w0 N a d x' w (do pure (.value (← convert s t (a.eval o)))) := by
  have hv := arg_rel h h2
  generalize a.eval o = v at *
  simp only [step] at hs
  split at hs
  · rename_i str hee
    rw [hee] at hv; simp only [VRel] at hv; subst hv
    simp only [Option.map_eq_some_iff] at hs
    obtain ⟨x1, hadd, hh⟩ := hs
    cases hh
    obtain ⟨hn, g1, g2⟩ := add_some hadd
    let c := str.length + (w.tape w.drawn (.appendCap str.length 0 e)) % (2 ^ 63 - str.length)
    let arr : Array Value := (str.toArray.map fun b => Value.int .u8 b.toNat) ++ Array.replicate (c - str.length) (.int .u8 0)
    have hsz : arr.size = c := by simp [arr, c]
    let w' : World := { w with drawn := w.drawn + 1, heap := w.heap.push (.cells arr e (arr.size, arr.size + 1)) }
    obtain ⟨μ', M', hR, hx, hm, hle⟩ := new_grow (w := { w with drawn := w.drawn + 1 }) (h.world rfl) hn g1 g2 (cs := bytesOf str) (vs := arr) (by simp [bytesOf, arr]) (e := e) (fz := (arr.size, arr.size + 1)) (by
        have : arr.toList.take (bytesOf str).length = str.map fun b => Value.int .u8 b.toNat := by
          simp [arr, bytesOf]
        rw [this]
        refine VRels.mk (by simp [bytesOf]) fun i d v hd hv => ?_
        simp only [bytesOf, List.getElem?_map, Option.map_eq_some_iff] at hd hv
        obtain ⟨b, hb, rfl⟩ := hd
        obtain ⟨b', hb', rfl⟩ := hv
        rw [hb] at hb'; cases hb'
        simp only [VRel]) (fun o ho hc => by have := hc.1; simp at this; omega) (w' := w') rfl
    refine ⟨.slice (some ⟨w.heap.size, 0, none⟩) str.length c, w', μ', M', .inl (run_value ?_), ?_, hR⟩
    · have hfz : ∀ o : Obj, (w.heap.push o).modify w.heap.size (fun o => match o with
          | .cells c elem (lo, hi) => .cells c elem (if lo == hi then (arr.size, arr.size + 1) else (min lo arr.size, max hi (arr.size + 1)))
          | o => o) = w.heap.push (match o with
          | .cells c elem (lo, hi) => .cells c elem (if lo == hi then (arr.size, arr.size + 1) else (min lo arr.size, max hi (arr.size + 1)))
          | o => o) := by
        intro o
        apply Array.ext
        · simp
        · intro i h1 h2
          simp only [Array.getElem_modify, Array.getElem_push]
          by_cases hi : i < w.heap.size
          · have : ¬ w.heap.size = i := by omega
            simp [hi, this]
          · have : w.heap.size = i := by simp at h2; omega
            subst this
            simp
      simp only [convert, Sem.run_bind, run_underlying hu, run_underlying hd, run_underlying he, Result.andThen_ok, Conv.stringToBytes, run_choose, Question.forced, Bool.false_eq_true, if_false, Question.cut, newRow, run_newObj, Sem.run_pure, markStringish, run_shape]
      have hsize : (⟨str.toArray⟩ : ByteArray).size = str.length := by simp [ByteArray.size]
      have hshape : World.shape? { w with drawn := w.drawn + 1, heap := w.heap.push (.cells arr e) } w.heap.size = some (e, arr.size) := by
        simp [World.shape?]
      simp only [hsize] at *
      rw [show ((⟨str.toArray⟩ : ByteArray).data.map fun b => Value.int .u8 b.toNat) = str.toArray.map fun b => Value.int .u8 b.toNat from rfl]
      simp only [show (Array.map (fun b : UInt8 => Value.int .u8 b.toNat) str.toArray ++ Array.replicate (str.length + w.tape w.drawn (.appendCap str.length 0 e) % (2 ^ 63 - str.length) - str.length) (Value.int .u8 0)) = arr from rfl]
      rw [hshape]
      simp only [run_freeze, Result.andThen_ok, Sem.run_bind, Sem.run_pure]
      simp only [World.freeze, Nat.one_ne_zero, if_false]
      congr 1
      simp only [w', World.mk.injEq, and_true, true_and]
      exact hfz (.cells arr e)
    · simp only [VRel]
      exact ⟨_, c, hm, rfl, by simp [c], by simp [hsz], fun hn => by cases hn⟩
  · cases hs

theorem byteOfD_some {d : D} {b : UInt8} (h : byteOfD d = some b) : ∃ n, d = .int .u8 n ∧ b = UInt8.ofNat n.toNat := by
  cases d <;> simp only [byteOfD, reduceCtorEq] at h
  rename_i k n
  cases k <;> simp only [byteOfD, reduceCtorEq, Option.some.injEq] at h
  exact ⟨n, rfl, h.symm⟩

theorem bytes_loop {P : Program} (f : Value → ByteArray → Sem (ForInStep ByteArray)) (hf : ∀ n s, f (.int .u8 n) s = pure (ForInStep.yield (s.push (UInt8.ofNat n.toNat)))) : ∀ (ns : List Int) (s : ByteArray) (w : World),
    (forIn (ns.map (fun n => Value.int IntKind.u8 n)) s f).run P w = Result.ok (⟨(s.data.toList ++ ns.map fun n => UInt8.ofNat n.toNat).toArray⟩ : ByteArray) w
  | [], s, w => by simp
  | b :: bs, s, w => by
    simp only [List.map_cons, List.forIn_cons, Sem.run_bind, Sem.run_pure, Result.andThen_ok, hf]
    rw [bytes_loop f hf bs _ w]
    congr 1
    apply ByteArray.ext
    apply Array.ext'
    simp [ByteArray.push]

theorem run_bytesToString_some {P : Program} {ad : Addr} {len cap : Nat} {arr : Array Value} {w : World} (hl : (loadCells ad len).run P w = .ok arr w) (ns : List Int) (hb : arr.toList = ns.map (fun n => Value.int .u8 n)) :
    (Conv.bytesToString (.slice (some ad) len cap)).run P w = .ok (.string ⟨(ns.map fun n => UInt8.ofNat n.toNat).toArray⟩) w := by
  simp only [Conv.bytesToString, Sem.run_bind, hl, Result.andThen_ok]
  rw [← Array.forIn_toList, hb, bytes_loop _ (fun _ _ => rfl)]
  simp

theorem bytesD_rel : ∀ {cs : List D} {bs : List UInt8} {vs : List Value}, cs.mapM byteOfD = some bs → VRels M w μ cs vs → ∃ ns : List Int, vs = ns.map (fun n => Value.int .u8 n) ∧ bs = ns.map fun n => UInt8.ofNat n.toNat
  | [], bs, vs, hb, hr => by
    simp at hb; subst hb
    simp only [VRels] at hr; subst hr; exact ⟨[], rfl, rfl⟩
  | c :: cs, bs, vs, hb, hr => by
    simp only [List.mapM_cons, Option.bind_eq_bind, Option.bind_eq_some_iff, Option.pure_def, Option.some.injEq] at hb
    obtain ⟨b, hb, bs', hbs, rfl⟩ := hb
    simp only [VRels] at hr
    obtain ⟨v, r, rfl, h1, h2⟩ := hr
    obtain ⟨n, rfl, rfl⟩ := byteOfD_some hb
    simp only [VRel] at h1; subst h1
    obtain ⟨ns, rfl, rfl⟩ := bytesD_rel hbs h2
    exact ⟨n :: ns, rfl, rfl⟩

theorem op_cvS (h : Rel E M0 w0 N μ M a w x) {s t e : TypeId} (hu : E.P.underlying s = some (.slice e)) (hd : E.P.underlying t = some .string) (he : E.P.underlying e = some (.int .u8)) {o : Operand} {ar : Arg} (h2 : cArg o = some ar)
    {d : D} {x' : AS} (hs : step E.G (.cvS ar) x = some (d, x')) : gd E M0 w0 N a d x' w (do pure (.value (← convert s t (a.eval o)))) := by
  have hv := arg_rel h h2
  generalize a.eval o = v at *
  simp only [step] at hs
  split at hs
  · cases hs
  · rename_i hns
    simp only [Option.bind_eq_bind, Option.bind_eq_some_iff] at hs
    obtain ⟨⟨cs, n⟩, hsc, bs, hbs, hs⟩ := hs
    cases hs
    obtain ⟨hlen, hcl, hcells⟩ := src_rel h hsc hv E.P
    obtain ⟨arr, hfc, har⟩ := hcells n (Nat.le_refl _)
    rw [List.take_of_length_le (by simp at hcl ⊢; omega)] at har
    obtain ⟨ns, h3, rfl⟩ := bytesD_rel hbs har
    refine Good.of (v := .string ⟨(ns.map fun n => UInt8.ofNat n.toNat).toArray⟩) h (run_value ?_) (by simp only [VRel])
    have hconv : convert s t v = Conv.bytesToString v → True := fun _ => trivial
    have hsl : ∃ ad len cap, v = .slice ad len cap := by
      generalize ar.ev E.G x.t = d0 at *
      cases d0 <;> simp only [sliceCells, reduceCtorEq] at hsc
      case str s => exact absurd rfl (hns s)
      all_goals simp only [VRel] at hv
      · exact ⟨_, _, _, hv⟩
      · obtain ⟨ad, cap, rfl, _⟩ := hv; exact ⟨_, _, _, rfl⟩
      · obtain ⟨l, b, _, _, rfl, _⟩ := hv; exact ⟨_, _, _, rfl⟩
      · obtain ⟨l, b, _, rfl, _⟩ := hv; exact ⟨_, _, _, rfl⟩
    obtain ⟨ad, len, cap, rfl⟩ := hsl
    simp [Builtin.lenOf] at hlen
    subst hlen
    cases ad with
    | none =>
      simp [Builtin.firstCells] at hfc
      subst hfc
      have : ns = [] := by simpa using h3.symm
      subst this
      simp only [convert, Sem.run_bind, run_underlying hu, run_underlying hd, run_underlying he, Result.andThen_ok, Conv.bytesToString, Sem.run_pure]
      rfl
    | some ad =>
      simp only [Builtin.firstCells, Nat.mul_one] at hfc
      simp only [convert, Sem.run_bind, run_underlying hu, run_underlying hd, run_underlying he, Result.andThen_ok]
      exact run_bytesToString_some hfc ns h3

theorem op_copy (h : Rel E M0 w0 N μ M a w x) {t u e ty : TypeId} {sz : Nat} (hu : E.P.underlying t = some (.slice e)) (hsz : szOf E.P e = some sz) {o p : Operand} {ar pr : Arg} (h2 : cArg o = some ar) (h3 : cArg p = some pr)
    {d : D} {x' : AS} (hs : step E.G (.copy sz ar pr) x = some (d, x')) : gd E M0 w0 N a d x' w (do pure (.value (← Builtin.copy_ #[t, u] ty #[a.eval o, a.eval p]))) := by
  have hv := arg_rel h h2
  have hp := arg_rel h h3
  generalize a.eval o = v at *
  generalize a.eval p = y at *
  simp only [step, Option.bind_eq_bind, Option.bind_eq_some_iff] at hs
  obtain ⟨⟨ys, n⟩, hsc, hs⟩ := hs
  obtain ⟨hln, hyl, hyc⟩ := src_rel h hsc hp E.P
  split at hs
  · rename_i he
    rw [he] at hv; simp only [VRel] at hv; subst hv
    cases hs
    obtain ⟨arr, hfc, _⟩ := hyc 0 (Nat.zero_le _)
    refine Good.of (v := .int .i64 0) h (run_value ?_) (by simp only [VRel])
    simp [Builtin.copy_, run_underlying hu, hln, run_sizeOf' hsz, hfc, goInt]
  · rename_i nm off z len c he
    rw [he] at hv; simp only [VRel] at hv
    obtain ⟨l, b, k1, k2, rfl, k3, k4⟩ := hv
    simp only [Option.bind_eq_some_iff] at hs
    obtain ⟨blk, hg, hs⟩ := hs
    cases hz : Nat.beq z sz <;> rw [hz] at hs
    · cases hs
    simp only [cond_true, Option.map_eq_some_iff] at hs
    obtain ⟨blk', hst, he'⟩ := hs
    cases he'
    obtain ⟨arr, hfc, har⟩ := hyc (min n len) (Nat.min_le_left _ _)
    obtain ⟨w', hrun, hx, hR⟩ := write_rel h hg hst k1 k2 har
    refine ⟨.int .i64 (min n len : Nat), w', μ, M, .inl (run_value ?_), by simp only [VRel], hR⟩
    have hmin : Nat.min n len = min n len := rfl
    simp only [Builtin.copy_, List.getElem?_toArray, List.getElem?_cons_zero, List.getElem?_cons_succ, Sem.run_bind, run_underlying hu, hln, run_sizeOf' hsz, Result.andThen_ok, Sem.run_pure, hmin, hfc, hrun, goInt]
  · rename_i nm off z len he
    rw [he] at hv; simp only [VRel] at hv
    obtain ⟨⟨lb, lc⟩, cap, k1, rfl, k3, k4, k5⟩ := hv
    simp only [Option.bind_eq_some_iff] at hs
    obtain ⟨blk, hg, hs⟩ := hs
    cases hz : Nat.beq z sz <;> rw [hz] at hs
    · cases hs
    simp only [cond_true, Option.map_eq_some_iff] at hs
    obtain ⟨blk', hst, he'⟩ := hs
    cases he'
    obtain ⟨arr, hfc, har⟩ := hyc (min n len) (Nat.min_le_left _ _)
    have hmin : Nat.min n len = min n len := rfl
    cases lb with
    | some b =>
      obtain ⟨w', hrun, hx, hR⟩ := write_rel h hg hst k1 rfl har
      refine ⟨.int .i64 (min n len : Nat), w', μ, M, .inl (run_value ?_), by simp only [VRel], hR⟩
      simp only [Option.map_some, Builtin.copy_, List.getElem?_toArray, List.getElem?_cons_zero, List.getElem?_cons_succ, Sem.run_bind, run_underlying hu, hln, run_sizeOf' hsz, Result.andThen_ok, Sem.run_pure, hmin, hfc, hrun, goInt]
    | none =>
      have hc0 : cap = 0 := k5 rfl
      have hl0 : len = 0 := by omega
      subst hl0
      -- nothing is stored
      have hsame : blk' = blk := by
        simp only [Nat.min_zero, Nat.zero_mul, List.take_zero] at hst
        unfold stB at hst
        simp only [List.any_nil, cond_false] at hst
        split at hst
        · rename_i cs
          cases hb : Nat.ble (off + ([] : List D).length) cs.length <;> rw [hb] at hst
          · cases hst
          · simp only [cond_true, setAt, Option.some.injEq] at hst; exact hst.symm
        · rename_i cs
          cases hb : Nat.ble (off + ([] : List D).length) cs.length <;> rw [hb] at hst
          · cases hst
          · simp only [cond_true, setAt, Option.some.injEq] at hst; exact hst.symm
        · cases hst
      subst hsame
      refine ⟨.int .i64 (min n 0 : Nat), w, μ, M, .inl (run_value ?_), by simp only [VRel], h.congr (fun n => .inl rfl) (fun k => ?_)⟩
      · simp only [Option.map_none, Builtin.copy_, List.getElem?_toArray, List.getElem?_cons_zero, List.getElem?_cons_succ, Sem.run_bind, run_underlying hu, hln, run_sizeOf' hsz, Result.andThen_ok, Sem.run_pure, hmin, hfc, goInt]
      · rw [sget_sset, hg]
        by_cases hk : k = nm
        · simp [hk, hg]
        · simp [hk]
  · cases hs

theorem op_rng (h : Rel E M0 w0 N μ M a w x) {t : TypeId} (hu : E.P.underlying t = some .string) {nm : Nat} {o : Operand} {ar : Arg} (h2 : cArg o = some ar) {d : D} {x' : AS}
    (hs : step E.G (.rng nm ar) x = some (d, x')) : gd E M0 w0 N a d x' w (do pure (.value (← Instr.range t (a.eval o)))) := by
  have hv := arg_rel h h2
  generalize a.eval o = v at *
  simp only [step] at hs
  split at hs
  · rename_i s he
    rw [he] at hv; simp only [VRel] at hv; subst hv
    simp only [Option.map_eq_some_iff] at hs
    obtain ⟨x1, hadd, hh⟩ := hs
    cases hh
    obtain ⟨hn, g1, g2⟩ := add_some hadd
    let w' : World := { w with heap := w.heap.push (.stringIter ⟨s.toArray⟩ 0) }
    obtain ⟨hx, hR⟩ := h.fresh nm hn (.iter s 0) (.stringIter ⟨s.toArray⟩ 0) 0 (w' := w') rfl g1 g2 (fun hx => ⟨⟨some w.heap.size, 0⟩, w.heap.size, by simp [muSet], rfl, .inr rfl, by simp [w']⟩)
    refine ⟨.pointer (some ⟨w.heap.size, 0, none⟩), w', _, _, .inl (run_value (by simp [Instr.range, run_underlying hu, w'])), ?_, hR⟩
    simp only [VRel]
    exact ⟨_, _, by simp [muSet]; rfl, rfl, rfl⟩
  · cases hs

theorem op_next (h : Rel E M0 w0 N μ M a w x) {o : Operand} {ar : Arg} (h2 : cArg o = some ar) {ty : TypeId} {d : D} {x' : AS}
    (hs : step E.G (.next ar) x = some (d, x')) : gd E M0 w0 N a d x' w (do pure (.value (← Instr.next (a.eval o) true ty))) := by
  have hv := arg_rel h h2
  generalize a.eval o = v at *
  simp only [step] at hs
  split at hs
  · rename_i nm he
    rw [he] at hv; simp only [VRel] at hv
    obtain ⟨l, b, k1, k2, rfl⟩ := hv
    split at hs
    · rename_i s pos hg
      obtain ⟨l', b', g1, g2, g3, g4⟩ := h.st nm _ hg
      rw [k1] at g1; cases g1; rw [k2] at g2; cases g2
      have hsize : (⟨s.toArray⟩ : ByteArray).size = s.length := by simp [ByteArray.size]
      cases hlt : Nat.blt pos s.length <;> rw [hlt] at hs
      · cases hs
        have hlt' : ¬ pos < s.length := fun hc => by rw [← Nat.blt_eq] at hc; rw [hc] at hlt; cases hlt
        refine Good.of (v := .tuple #[.bool false]) h (run_value ?_) ?_
        · simp [Instr.next, getObj, Sem.run, g4, hsize, hlt']
        · simp only [VRel]
          exact ⟨_, rfl, VRels.cons (by simp only [VRel]) VRels.nil⟩
      · cases hs
        have hlt' : pos < s.length := by rw [Nat.blt_eq] at hlt; exact hlt
        have hb : b < w.heap.size := h.mlt b g3
        let w' : World := { w with heap := w.heap.setIfInBounds b (.stringIter ⟨s.toArray⟩ (pos + (decodeD s pos).2)) }
        obtain ⟨hx, hR⟩ := h.write nm (.iter s (pos + (decodeD s pos).2)) l b (w' := w') (x' := ⟨x.t, sset x.s nm (.iter s (pos + (decodeD s pos).2))⟩) k1 k2 g3 (by simp [w']) (fun k hk => by
            simp only [w']; rw [Array.getElem?_setIfInBounds_ne (fun e => hk e.symm)]) (fun n => rfl) (by intro n; rw [sget_sset, hg]; rfl) (fun hx => ⟨l, b, k1, k2, g3, by simp [w', hb]⟩)
        refine ⟨.tuple #[.bool true, goInt pos, .int .i32 (decodeD s pos).1], w', μ, M, .inl (run_value ?_), ?_, hR⟩
        · simp only [Instr.next, getObj, Sem.run_bind, Sem.run, g4, Result.andThen_ok, hsize, hlt', if_true, setObj, w', decodeD]
          rfl
        · simp only [VRel]
          exact ⟨_, rfl, VRels.cons (by simp only [VRel]) (VRels.cons (by simp only [VRel, goInt]) (VRels.cons (by simp only [VRel]) VRels.nil))⟩
    · cases hs
  · cases hs
end

end Iv
/- Every operation of the model that is translated does what the abstract one says. Conditions: none. -/
set_option linter.unusedSimpArgs false
set_option linter.unusedVariables false
namespace Iv
open Go

section
variable {E : Env} {M0 : Nat → Prop} {w0 : World} {N : Nat} {μ : Mu} {M : Nat → Prop} {a : Act} {w : World} {x : AS}

theorem run_builtin {P : Program} {ρ : Operand → Value} {o : Oper} {c : Call} {b : Builtin} (ho : o.op = .call c) (hb : c.callee = .builtin b) (w : World) :
    ∃ cs, (execOp ρ o).run P w = (builtin b c.argTypes o.type cs (c.args.map ρ)).run P w := by
  refine ⟨c.args.map fun | .const _ => true | _ => false, ?_⟩
  simp only [execOp, ho, resolve, hb, Sem.run_bind, Sem.run_pure, Result.andThen_ok, invoke]
  rfl

theorem op_builtin (h : Rel E M0 w0 N μ M a w x) {nm : Nat} {o : Oper} {c : Call} {b : Builtin} (ho : o.op = .call c) (hb : c.callee = .builtin b) {ao : AOp} (hc : cOp E.P nm o = some ao) {d : D} {x' : AS}
    (hs : step E.G ao x = some (d, x')) : gd E M0 w0 N a d x' w (execOp a.eval o) := by
  unfold gd
  obtain ⟨cs, hrb⟩ := run_builtin (P := E.P) (ρ := a.eval) ho hb w
  rw [hrb]
  clear hrb
  simp only [cOp, ho, hb] at hc
  obtain ⟨callee, args, ats⟩ := c
  obtain ⟨args⟩ := args
  obtain ⟨ats⟩ := ats
  simp only at hb hc ⊢
  have hm : (⟨args⟩ : Array Operand).map a.eval = ⟨args.map a.eval⟩ := by apply Array.ext'; simp
  rw [hm]
  clear hm ho
  subst hb
  split at hc
  · -- len
    rename_i y t
    split at hc
    · rename_i hu
      simp only [Option.bind_eq_bind, Option.bind_eq_some_iff, Option.some.injEq] at hc
      obtain ⟨ar, h2, rfl⟩ := hc
      exact op_len (ty := o.type) h h2 (by simpa using hu) hs
    · rename_i e hu
      simp only [Option.bind_eq_bind, Option.bind_eq_some_iff, Option.some.injEq] at hc
      obtain ⟨ar, h2, rfl⟩ := hc
      exact op_len (ty := o.type) h h2 (by simpa using ⟨e, hu⟩) hs
    · rename_i n e hu
      simp only [Option.some.injEq] at hc
      subst hc
      simp only [step, Arg.ev, Option.some.injEq, Prod.mk.injEq] at hs
      obtain ⟨rfl, rfl⟩ := hs
      exact Good.of (v := .int .i64 n) h (run_value (by simp [Builtin.len_, run_underlying hu, goInt])) (by simp only [VRel])
    · cases hc
  · -- cap
    rename_i y t
    split at hc
    · rename_i e hu
      simp only [Option.bind_eq_bind, Option.bind_eq_some_iff, Option.some.injEq] at hc
      obtain ⟨ar, h2, rfl⟩ := hc
      exact op_cap (ty := o.type) h hu h2 hs
    · cases hc
  · -- append
    rename_i y z t u
    split at hc
    · rename_i e e' hu hu'
      simp only [Option.bind_eq_bind, Option.bind_eq_some_iff] at hc
      obtain ⟨i, hi, j, hj, zv, hz, ar, h2, pr, h3, hc⟩ := hc
      cases hcond : (Nat.beq i.size j.size && !Nat.beq i.size 0 && Nat.beq zv.cells.size i.size)
      · rw [hcond] at hc; cases hc
      rw [hcond] at hc
      simp only [Bool.and_eq_true, Bool.not_eq_true'] at hcond
      simp only [cond_true, Option.some.injEq] at hc
      subst hc
      exact op_app h ⟨hu, .inl ⟨e', hu'⟩, hi, hz, Nat.eq_of_beq_eq_true hcond.2⟩ hcond.1.2 h2 h3 hs o.type
    · rename_i e hu hu'
      simp only [Option.bind_eq_bind, Option.bind_eq_some_iff] at hc
      obtain ⟨i, hi, zv, hz, ar, h2, pr, h3, hc⟩ := hc
      cases hcond : (Nat.beq i.size 1 && Nat.beq zv.cells.size 1) <;> rw [hcond] at hc
      · cases hc
      simp only [Bool.and_eq_true] at hcond
      have e1 := Nat.eq_of_beq_eq_true hcond.1
      have e2 := Nat.eq_of_beq_eq_true hcond.2
      simp only [cond_true, Option.some.injEq] at hc
      subst hc
      exact op_app h ⟨hu, .inr hu', hi, hz, by omega⟩ (by rw [e1]; rfl) h2 h3 hs o.type
    · cases hc
  · -- copy
    rename_i y z t u
    split at hc
    · rename_i e e' hu hu'
      simp only [Option.bind_eq_bind, Option.bind_eq_some_iff] at hc
      obtain ⟨i, hi, j, hj, ar, h2, pr, h3, hc⟩ := hc
      cases hcond : (Nat.beq i.size j.size) <;> rw [hcond] at hc
      · cases hc
      simp only [cond_true, Option.some.injEq] at hc
      subst hc
      exact op_copy (ty := o.type) h hu (by simp [szOf, hi]) h2 h3 hs
    · rename_i e hu hu'
      simp only [Option.bind_eq_bind, Option.bind_eq_some_iff] at hc
      obtain ⟨i, hi, ar, h2, pr, h3, hc⟩ := hc
      cases hcond : (Nat.beq i.size 1) <;> rw [hcond] at hc
      · cases hc
      have e1 := Nat.eq_of_beq_eq_true hcond
      simp only [cond_true, Option.some.injEq] at hc
      subst hc
      exact op_copy (ty := o.type) h hu (by simp [szOf, hi, e1]) h2 h3 hs
    · cases hc
  · -- min
    simp only [Option.bind_eq_bind, Option.bind_eq_some_iff, Option.some.injEq] at hc
    obtain ⟨ar, h2, pr, h3, rfl⟩ := hc
    exact op_mm (mx := false) (ts := ⟨ats⟩) (ty := o.type) h h2 h3 hs
  · -- max
    simp only [Option.bind_eq_bind, Option.bind_eq_some_iff, Option.some.injEq] at hc
    obtain ⟨ar, h2, pr, h3, rfl⟩ := hc
    exact op_mm (mx := true) (ts := ⟨ats⟩) (ty := o.type) h h2 h3 hs
  · cases hc

theorem op_sound (h : Rel E M0 w0 N μ M a w x) {nm : Nat} {o : Oper} {ao : AOp} (hc : cOp E.P nm o = some ao) {d : D} {x' : AS} (hs : step E.G ao x = some (d, x')) :
    gd E M0 w0 N a d x' w (execOp a.eval o) := by
  have hcase : ∀ op, o.op = op → gd E M0 w0 N a d x' w (execOp a.eval o) := by
    intro op ho
    have hc' := hc
    simp only [cOp, ho] at hc
    cases op <;> simp only [reduceCtorEq] at hc
    case move y =>
      simp only [Option.bind_eq_bind, Option.bind_eq_some_iff, Option.some.injEq] at hc
      obtain ⟨ar, h2, rfl⟩ := hc
      simp only [execOp, ho]; exact op_mv h h2 hs
    case assign y =>
      simp only [Option.bind_eq_bind, Option.bind_eq_some_iff, Option.some.injEq] at hc
      obtain ⟨ar, h2, rfl⟩ := hc
      simp only [execOp, ho]; exact op_mv h h2 hs
    case pick c p q =>
      simp only [Option.bind_eq_bind, Option.bind_eq_some_iff, Option.some.injEq] at hc
      obtain ⟨c', h1, p', h2, q', h3, rfl⟩ := hc
      simp only [execOp, ho]; exact op_pick h h1 h2 h3 hs
    case alloc t =>
      simp only [Option.bind_eq_bind, Option.bind_eq_some_iff, Option.some.injEq] at hc
      obtain ⟨zd, hz, rfl⟩ := hc
      simp only [zeroOf, Option.bind_eq_bind, Option.bind_eq_some_iff] at hz
      obtain ⟨i, hi, v, hv, hz⟩ := hz
      simp only [execOp, ho]
      refine op_new (v := v) (e := t) h (by simp only [Arg.ev]; exact ofV_rel _ _ _ hz) hs ?_
      simp [Instr.alloc, zeroValue, run_typeInfo' hi, hv, newVar, newRow]
    case box t y =>
      simp only [Option.bind_eq_bind, Option.bind_eq_some_iff, Option.some.injEq] at hc
      obtain ⟨ar, h2, rfl⟩ := hc
      simp only [execOp, ho]
      refine op_new (v := a.eval y) (e := t) h (arg_rel h h2) hs ?_
      simp [Instr.box, newVar, newRow]
    case build t ps =>
      simp only [Option.bind_eq_bind, Option.bind_eq_some_iff] at hc
      obtain ⟨zd, hz, cells, hcl, hc⟩ := hc
      simp only [execOp, ho]
      split at hc
      · rename_i fs hu
        simp only [Option.bind_eq_some_iff] at hc
        obtain ⟨l, hl, hc⟩ := hc
        cases hall : (fs.all fun f => (E.P.info? f.type).isSome) <;> rw [hall] at hc
        · cases hc
        simp only [cond_true, Option.some.injEq] at hc
        subst hc
        exact op_bld_struct h hz hcl hu hl hall hs
      · rename_i n e hu
        simp only [Option.bind_eq_some_iff, Option.some.injEq] at hc
        obtain ⟨s, hsz, l, hl, rfl⟩ := hc
        exact op_bld_array h hz hcl hu hsz hl hs
      · cases hc
    case buildSlice t len ps =>
      simp only [execOp, ho]
      split at hc
      · rename_i e hu
        simp only [Option.bind_eq_bind, Option.bind_eq_some_iff] at hc
        obtain ⟨s, hsz, zd, hz, l, hl, zc, hzc, hc⟩ := hc
        cases hcond : (Nat.ble (len * s) 16777216 && Nat.beq zc.length s) <;> rw [hcond] at hc
        · cases hc
        simp only [Bool.and_eq_true] at hcond
        simp only [cond_true, Option.some.injEq] at hc
        subst hc
        exact op_bsl h hu hsz hz hzc hcond.1 hcond.2 hl hs
      · cases hc
    case load t y =>
      simp only [Option.bind_eq_bind, Option.bind_eq_some_iff, Option.some.injEq] at hc
      obtain ⟨sz, h1, ar, h2, rfl⟩ := hc
      simp only [execOp, ho]; exact op_ld h h1 h2 hs
    case store t y v =>
      simp only [Option.bind_eq_bind, Option.bind_eq_some_iff, Option.some.injEq] at hc
      obtain ⟨n, h1, ar, h2, pr, h3, rfl⟩ := hc
      simp only [execOp, ho]; exact op_st h h1 h2 h3 hs
    case nilCheck y =>
      simp only [Option.bind_eq_bind, Option.bind_eq_some_iff, Option.some.injEq] at hc
      obtain ⟨ar, h2, rfl⟩ := hc
      exact op_nilc h ho h2 hs
    case binOp op t y z t' =>
      simp only [execOp, ho]
      cases hn : isNumT E.P t <;> rw [hn] at hc
      · simp only [cond_false] at hc
        cases op <;> simp only [reduceCtorEq] at hc
        · simp only [Option.bind_eq_bind, Option.bind_eq_some_iff, Option.some.injEq] at hc
          obtain ⟨k, hk, ar, h2, pr, h3, rfl⟩ := hc
          exact op_cmp (neg := false) h hk h2 h3 hs
        · simp only [Option.bind_eq_bind, Option.bind_eq_some_iff, Option.some.injEq] at hc
          obtain ⟨k, hk, ar, h2, pr, h3, rfl⟩ := hc
          exact op_cmp (neg := true) h hk h2 h3 hs
      · simp only [cond_true, Option.bind_eq_bind, Option.bind_eq_some_iff, Option.some.injEq] at hc
        obtain ⟨ar, h2, pr, h3, rfl⟩ := hc
        exact op_bin h h2 h3 hs
    case unOp op t y =>
      simp only [Option.bind_eq_bind, Option.bind_eq_some_iff, Option.some.injEq] at hc
      obtain ⟨ar, h2, rfl⟩ := hc
      simp only [execOp, ho]; exact op_un h h2 hs
    case convert s t y =>
      simp only [execOp, ho]
      split at hc
      · rename_i k k' hu hd
        simp only [Option.bind_eq_bind, Option.bind_eq_some_iff, Option.some.injEq] at hc
        obtain ⟨ar, h2, rfl⟩ := hc
        exact op_cvI h hu hd h2 hs
      · rename_i k hu hd
        simp only [Option.bind_eq_bind, Option.bind_eq_some_iff, Option.some.injEq] at hc
        obtain ⟨ar, h2, rfl⟩ := hc
        exact op_cvN h hu hd (.inl ⟨k, rfl⟩) h2 hs
      · rename_i hu hd
        simp only [Option.bind_eq_bind, Option.bind_eq_some_iff, Option.some.injEq] at hc
        obtain ⟨ar, h2, rfl⟩ := hc
        exact op_cvN h hu hd (.inr rfl) h2 hs
      · rename_i e hu hd
        split at hc
        · rename_i he
          cases hcond : (E.P.cellsOf e == 1) <;> rw [hcond] at hc
          · cases hc
          simp only [cond_true, Option.bind_eq_bind, Option.bind_eq_some_iff, Option.some.injEq] at hc
          obtain ⟨ar, h2, rfl⟩ := hc
          exact op_cvB h hu hd he h2 hs
        · cases hc
      · rename_i e hu hd
        split at hc
        · rename_i he
          simp only [Option.bind_eq_bind, Option.bind_eq_some_iff, Option.some.injEq] at hc
          obtain ⟨ar, h2, rfl⟩ := hc
          exact op_cvS h hu hd he h2 hs
        · cases hc
      · cases hc
    case makeInterface t y =>
      simp only [execOp, ho]
      split at hc
      · cases hc
      · rename_i ds hn hu
        simp only [Option.bind_eq_bind, Option.bind_eq_some_iff, Option.some.injEq] at hc
        obtain ⟨ar, h2, rfl⟩ := hc
        exact op_mkif h hu (fun ms e => hn ms e) h2 hs
      · cases hc
    case makeFunc f p q =>
      simp only [Option.bind_eq_bind, Option.bind_eq_some_iff, Option.some.injEq] at hc
      obtain ⟨p', h2, q', h3, rfl⟩ := hc
      simp only [execOp, ho]; exact op_mkfn h h2 h3 hs
    case makeSlice t l c =>
      simp only [execOp, ho]
      split at hc
      · rename_i e hu
        simp only [Option.bind_eq_bind, Option.bind_eq_some_iff] at hc
        obtain ⟨i, hi, zd, hz, zc, hzc, lr, h2, cr, h3, hc⟩ := hc
        cases hcond : (Nat.beq zc.length i.size) <;> rw [hcond] at hc
        · cases hc
        simp only [cond_true, Option.some.injEq] at hc
        subst hc
        exact op_mks h hu hi hz hzc hcond h2 h3 hs
      · cases hc
    case slice t y l hi m =>
      simp only [execOp, ho]
      split at hc
      · rename_i hu
        cases m with
        | none =>
          simp only [Option.bind_eq_bind, Option.bind_eq_some_iff, Option.some.injEq] at hc
          obtain ⟨ar, h2, l', hl, h', hh, rfl⟩ := hc
          exact op_slS h hu h2 hl hh hs
        | some m => cases hc
      · rename_i e hu
        simp only [Option.bind_eq_bind, Option.bind_eq_some_iff] at hc
        obtain ⟨s, hsz, hc⟩ := hc
        split at hc
        · cases hc
        · rename_i hno
          simp only [Option.bind_eq_some_iff, Option.some.injEq] at hc
          obtain ⟨ar, h2, l', hl, h', hh, m', hm, rfl⟩ := hc
          refine op_slV h hu hsz h2 hl hh hm ?_ hs
          rintro ⟨rfl, hm'⟩
          have e1 := cArgO_none hh
          cases m with
          | none => simp [cArgO] at hm; exact hm' hm.symm
          | some m => exact hno m e1 rfl
      · rename_i n e hu
        simp only [Option.bind_eq_bind, Option.bind_eq_some_iff] at hc
        obtain ⟨s, hsz, hc⟩ := hc
        split at hc
        · cases hc
        · rename_i hno
          simp only [Option.bind_eq_some_iff, Option.some.injEq] at hc
          obtain ⟨ar, h2, l', hl, h', hh, m', hm, rfl⟩ := hc
          refine op_slA h hu hsz h2 hl hh hm ?_ hs
          rintro ⟨rfl, hm'⟩
          have e1 := cArgO_none hh
          cases m with
          | none => simp [cArgO] at hm; exact hm' hm.symm
          | some m => exact hno m e1 rfl
      · cases hc
    case fieldAddr t y i =>
      simp only [execOp, ho]
      split at hc
      · rename_i fs hu
        simp only [Option.bind_eq_bind, Option.bind_eq_some_iff] at hc
        obtain ⟨f, hf, s, hsz, ar, h2, hc⟩ := hc
        cases hcond : Nat.beq s 0 <;> rw [hcond] at hc
        · simp only [cond_false, Option.some.injEq] at hc
          subst hc
          exact op_fa h hu hf hsz hcond h2 hs
        · cases hc
      · cases hc
    case field t y i =>
      simp only [execOp, ho]
      split at hc
      · rename_i fs hu
        simp only [Option.bind_eq_bind, Option.bind_eq_some_iff, Option.some.injEq] at hc
        obtain ⟨f, hf, sz, hsz, ar, h2, rfl⟩ := hc
        exact op_fld h hu hf hsz h2 hs
      · cases hc
    case indexAddr t y i =>
      simp only [execOp, ho]
      split at hc
      · rename_i n e hu
        simp only [Option.bind_eq_bind, Option.bind_eq_some_iff, Option.some.injEq] at hc
        obtain ⟨s, hsz, ar, h2, pr, h3, rfl⟩ := hc
        exact op_iaA h hu hsz h2 h3 hs
      · rename_i e hu
        simp only [Option.bind_eq_bind, Option.bind_eq_some_iff, Option.some.injEq] at hc
        obtain ⟨s, hsz, ar, h2, pr, h3, rfl⟩ := hc
        exact op_iaS h hu hsz h2 h3 hs
      · cases hc
    case index t y i =>
      simp only [execOp, ho]
      split at hc
      · rename_i n e hu
        simp only [Option.bind_eq_bind, Option.bind_eq_some_iff, Option.some.injEq] at hc
        obtain ⟨s, hsz, bb, hag, ar, h2, pr, h3, rfl⟩ := hc
        exact op_ixA h hu hsz hag h2 h3 hs
      · rename_i hu
        simp only [Option.bind_eq_bind, Option.bind_eq_some_iff, Option.some.injEq] at hc
        obtain ⟨ar, h2, pr, h3, rfl⟩ := hc
        exact op_ixS h hu h2 h3 hs
      · cases hc
    case range t y =>
      simp only [execOp, ho]
      split at hc
      · rename_i hu
        simp only [Option.bind_eq_bind, Option.bind_eq_some_iff, Option.some.injEq] at hc
        obtain ⟨ar, h2, rfl⟩ := hc
        exact op_rng h hu h2 hs
      · cases hc
    case next y s =>
      simp only [execOp, ho]
      cases s
      · cases hc
      · simp only [cond_true, Option.bind_eq_bind, Option.bind_eq_some_iff, Option.some.injEq] at hc
        obtain ⟨ar, h2, rfl⟩ := hc
        exact op_next h h2 hs
    case extract y i =>
      simp only [Option.bind_eq_bind, Option.bind_eq_some_iff, Option.some.injEq] at hc
      obtain ⟨ar, h2, rfl⟩ := hc
      simp only [execOp, ho]; exact op_ext h h2 hs
    case call c =>
      cases hcal : c.callee with
      | builtin b => exact op_builtin h ho hcal hc' hs
      | value f =>
        rw [hcal] at hc
        cases f with
        | func f =>
          simp only [Option.bind_eq_bind, Option.bind_eq_some_iff] at hc
          obtain ⟨fn, hfn, as, _, hc⟩ := hc
          cases hcond : (fn.name == "runtime.NumGoroutine" || fn.body.isNone) <;> rw [hcond] at hc
          · simp only [cond_false, Option.some.injEq] at hc
            subst hc
            simp [step] at hs
          · cases hc
        | _ =>
          simp only [Option.bind_eq_bind, Option.bind_eq_some_iff, Option.some.injEq] at hc
          obtain ⟨ar, _, as, _, rfl⟩ := hc
          simp [step] at hs
      | invoke r m => rw [hcal] at hc; cases hc
  exact hcase o.op rfl
end

end Iv
/- Calls, and operations with their guards: the model's come to what the abstract ones come to. Conditions: none. -/
set_option linter.unusedSimpArgs false
set_option linter.unusedVariables false
namespace Iv
open Go

theorem cOp_call {P : Program} {nm : Nat} {o : Oper} {f : Nat} {args : List Arg} (h : cOp P nm o = some (.call false f args)) :
    ∃ c, o.op = .call c ∧ c.callee = .value (.func f) ∧ cArgs c.args = some args ∧ ∃ fn, P.funcs[f]? = some fn ∧ (fn.name == "runtime.NumGoroutine" || fn.body.isNone) = false := by
  cases ho : o.op
  case call c =>
    simp only [cOp, ho] at h
    refine ⟨c, rfl, ?_⟩
    cases hcal : c.callee with
    | value g =>
      rw [hcal] at h
      cases g with
      | func g =>
        simp only [Option.bind_eq_bind, Option.bind_eq_some_iff] at h
        obtain ⟨fn, hfn, as, has, hc⟩ := h
        cases hcond : (fn.name == "runtime.NumGoroutine" || fn.body.isNone) <;> rw [hcond] at hc
        · simp only [cond_false, Option.some.injEq, AOp.call.injEq, true_and] at hc
          obtain ⟨rfl, rfl⟩ := hc
          exact ⟨rfl, has, fn, hfn, hcond⟩
        · cases hc
      | _ =>
        simp only [Option.bind_eq_bind, Option.bind_eq_some_iff, Option.some.injEq, reduceCtorEq, and_false, exists_false] at h
    | invoke r m => rw [hcal] at h; cases h
    | builtin b =>
      rw [hcal] at h
      dsimp only at h
      repeat' (first | contradiction | (split at h) | (simp only [Option.bind_eq_bind, Option.bind_eq_some_iff, Option.some.injEq, reduceCtorEq, and_false, exists_false] at h) | (simp [Option.bind_eq_some_iff, cond_eq_ite] at h) | (obtain ⟨_, h⟩ := h))
  all_goals
    simp only [cOp, ho] at h
    repeat' (first | contradiction | (split at h) | (simp only [Option.bind_eq_bind, Option.bind_eq_some_iff, Option.some.injEq, reduceCtorEq, and_false, exists_false] at h) | (simp [Option.bind_eq_some_iff, cond_eq_ite] at h) | (obtain ⟨_, h⟩ := h))

theorem cOp_callv {P : Program} {nm : Nat} {o : Oper} {g : Arg} {args : List Arg} (h : cOp P nm o = some (.callv false g args)) :
    ∃ c x, o.op = .call c ∧ c.callee = .value x ∧ cArg x = some g ∧ cArgs c.args = some args := by
  cases ho : o.op
  case call c =>
    simp only [cOp, ho] at h
    refine ⟨c, ?_⟩
    cases hcal : c.callee with
    | value g =>
      rw [hcal] at h
      cases g with
      | func g =>
        simp only [Option.bind_eq_bind, Option.bind_eq_some_iff] at h
        obtain ⟨fn, hfn, as, has, hc⟩ := h
        cases hcond : (fn.name == "runtime.NumGoroutine" || fn.body.isNone) <;> rw [hcond] at hc
        · simp only [cond_false, Option.bind_eq_some_iff, Option.some.injEq, reduceCtorEq, and_false, exists_false] at hc
        · cases hc
      | _ =>
        simp only [Option.bind_eq_bind, Option.bind_eq_some_iff, Option.some.injEq, AOp.callv.injEq, true_and] at h
        obtain ⟨ar, h1, as, h2, rfl, rfl⟩ := h
        exact ⟨_, rfl, rfl, h1, h2⟩
    | invoke r m => rw [hcal] at h; cases h
    | builtin b =>
      rw [hcal] at h
      dsimp only at h
      repeat' (first | contradiction | (split at h) | (simp only [Option.bind_eq_bind, Option.bind_eq_some_iff, Option.some.injEq, reduceCtorEq, and_false, exists_false] at h) | (simp [Option.bind_eq_some_iff, cond_eq_ite] at h) | (obtain ⟨_, h⟩ := h))
  all_goals
    simp only [cOp, ho] at h
    repeat' (first | contradiction | (split at h) | (simp only [Option.bind_eq_bind, Option.bind_eq_some_iff, Option.some.injEq, reduceCtorEq, and_false, exists_false] at h) | (simp [Option.bind_eq_some_iff, cond_eq_ite] at h) | (obtain ⟨_, h⟩ := h))

section
variable {E : Env} {M0 : Nat → Prop} {w0 : World} {N : Nat} {μ : Mu} {M : Nat → Prop} {a : Act} {w : World} {x : AS}

theorem Rel.ext0 (h : Rel E M0 w0 N μ M a w x) : Ext M w M0 w :=
  ⟨Nat.le_refl _, fun _ _ _ => rfl, fun b _ hm => (h.mold b (h.m0lt b hm)).2 hm⟩

theorem not_m0_own (h : Rel E M0 w0 N μ M a w x) {nm : Nat} {l : Loc} {b : Nat} (hl : μ nm = some l) (hb : l.blk = some b) : ¬ M0 b := fun hm => by
  have := h.m0lt b hm; have := h.own nm l b hl hb; omega

theorem mapM_rels {f : D → Option D} {R R' : D → Value → Prop} {cs ds : List D} {vs : List Value} (hm : cs.mapM f = some ds) (hl : vs.length = cs.length)
    (hr : ∀ (i : Nat) (c : D) (v : Value), cs[i]? = some c → vs[i]? = some v → R c v) (hf : ∀ c d v, c ∈ cs → f c = some d → R c v → R' d v) :
    vs.length = ds.length ∧ ∀ (i : Nat) (d : D) (v : Value), ds[i]? = some d → vs[i]? = some v → R' d v := by
  obtain ⟨h1, h2⟩ := mapM_rel hm
  refine ⟨by omega, fun i d v hd hv => ?_⟩
  have hi : i < cs.length := by
    rw [List.getElem?_eq_some_iff] at hd; obtain ⟨h, _⟩ := hd; omega
  have hc : cs[i]? = some cs[i] := List.getElem?_eq_getElem hi
  exact hf cs[i] d v (List.getElem_mem hi) (h2 i _ d hc hd) (hr i _ v hc hv)

/-- Data by which nothing of our own is reached any more stand as the values stood. -/
theorem fr_relG (h : Rel E M0 w0 N μ M a w x) {M1 : Nat → Prop} (hx : Ext M w M1 w) : ∀ (n : Nat) (d d' : D) (v : Value), fr n x.s d = some d' → VRel M w μ d v →
    (∀ m ∈ frN n x.s d, ∀ l b, μ m = some l → l.blk = some b → ¬ M1 b) → VRel M1 w mu0 d' v := by
  have hpure : ∀ (d : D) (v : Value), d.pure = true → VRel M w μ d v → VRel M1 w mu0 d v := fun d v hp hv =>
    VRel.mono hx d v (muLe.refl _) (VRel.pure d v hp hv)
  intro n
  induction n with
  | zero =>
    intro d d' v hf hv _
    simp only [fr] at hf
    cases hp : d.pure <;> rw [hp] at hf
    · cases hf
    · cases hf; exact hpure d v hp hv
  | succ n ih =>
    intro d d' v hf hv hN
    simp only [fr] at hf
    simp only [frN] at hN
    cases hp : d.pure <;> rw [hp] at hf hN
    rotate_left
    · cases hf; exact hpure d v hp hv
    simp only [cond_false] at hf hN
    have lists : ∀ (cs ds : List D) (vs : List Value), cs.mapM (fr n x.s) = some ds → VRels M w μ cs vs → (∀ m ∈ cs.flatMap (frN n x.s), ∀ l b, μ m = some l → l.blk = some b → ¬ M1 b) → VRels M1 w mu0 ds vs := fun cs ds vs hm hr hN => by
      obtain ⟨h1, h2⟩ := mapM_rels (R := VRel M w μ) (R' := VRel M1 w mu0) hm hr.length (fun i c v hc hv => hr.at hc hv) (fun c d v hc hf hr => ih c d v hf hr fun m hm => hN m (List.mem_flatMap.2 ⟨c, hc, hm⟩))
      exact VRels.mk h1 h2
    have cells : ∀ (b off : Nat) (cs ds : List D), cs.mapM (fr n x.s) = some ds → (∀ (i : Nat) (e : D), cs[i]? = some e → ∃ v', w.cell? ⟨b, off + i, none⟩ = some v' ∧ VRel M w μ e v') → (∀ m ∈ cs.flatMap (frN n x.s), ∀ l b, μ m = some l → l.blk = some b → ¬ M1 b) → CRel M1 w b off ds := by
      intro b off cs ds hm hc hN
      obtain ⟨h1, h2⟩ := mapM_rel hm
      refine CRel.mk fun i d hd => ?_
      have hi : i < cs.length := by
        rw [List.getElem?_eq_some_iff] at hd; obtain ⟨h, _⟩ := hd; omega
      have hci : cs[i]? = some cs[i] := List.getElem?_eq_getElem hi
      obtain ⟨v', hv', hr⟩ := hc i _ hci
      exact ⟨v', hv', ih _ _ _ (h2 i _ d hci hd) hr fun m hm => hN m (List.mem_flatMap.2 ⟨_, List.getElem_mem hi, hm⟩)⟩
    have sub : ∀ (cs : List D) (off k : Nat), (∀ m ∈ cs.flatMap (frN n x.s), ∀ l b, μ m = some l → l.blk = some b → ¬ M1 b) → (∀ m ∈ ((cs.drop off).take k).flatMap (frN n x.s), ∀ l b, μ m = some l → l.blk = some b → ¬ M1 b) := fun cs off k hh m hm => by
      obtain ⟨c, hc, hm⟩ := List.mem_flatMap.1 hm
      exact hh m (List.mem_flatMap.2 ⟨c, List.mem_of_mem_drop (List.mem_of_mem_take hc), hm⟩)
    cases d <;> dsimp only at hN <;> simp only [reduceCtorEq] at hf
    case agg cs =>
      simp only [Option.map_eq_some_iff] at hf
      obtain ⟨ds, hm, rfl⟩ := hf
      simp only [VRel] at hv ⊢
      obtain ⟨vs, rfl, hr⟩ := hv
      exact ⟨vs, rfl, lists _ _ _ hm hr hN⟩
    case tup cs =>
      simp only [Option.map_eq_some_iff] at hf
      obtain ⟨ds, hm, rfl⟩ := hf
      simp only [VRel] at hv ⊢
      obtain ⟨vs, rfl, hr⟩ := hv
      exact ⟨vs, rfl, lists _ _ _ hm hr hN⟩
    case iface t d =>
      simp only [Option.map_eq_some_iff] at hf
      obtain ⟨d', hd, rfl⟩ := hf
      simp only [VRel] at hv ⊢
      obtain ⟨y, rfl, hr⟩ := hv
      exact ⟨y, rfl, ih _ _ _ hd hr hN⟩
    case fn f p q =>
      simp only [Option.bind_eq_bind, Option.bind_eq_some_iff, Option.some.injEq] at hf
      obtain ⟨p', hp', q', hq', rfl⟩ := hf
      simp only [VRel] at hv ⊢
      obtain ⟨va, vb, rfl, h1, h2⟩ := hv
      exact ⟨va, vb, rfl, lists _ _ _ hp' h1 fun m hm => hN m (List.mem_append_left _ hm), lists _ _ _ hq' h2 fun m hm => hN m (List.mem_append_right _ hm)⟩
    case ms nm off sz len cap =>
      simp only [VRel] at hv
      obtain ⟨l, b, h1, h2, rfl, h3, h4⟩ := hv
      have key : ∀ (blk : Blk) (cs : List D), sget x.s nm = some blk → blkCells blk = some cs → (∀ m ∈ cs.flatMap (frN n x.s), ∀ l b, μ m = some l → l.blk = some b → ¬ M1 b) → 
          (bif Nat.ble (off + len * sz) cs.length then (((cs.drop off).take (len * sz)).mapM (fr n x.s)).map (D.sl (Nat.beq cap len) len) else none) = some d' → VRel M1 w mu0 d' (.slice (some ⟨b, off, none⟩) len cap) := by
        intro blk cs hg hb hN' hf
        cases hle : Nat.ble (off + len * sz) cs.length <;> rw [hle] at hf
        · cases hf
        simp only [cond_true, Option.map_eq_some_iff] at hf
        obtain ⟨ds, hm, rfl⟩ := hf
        simp only [VRel]
        obtain ⟨_, _, _, hlt⟩ : True ∧ True ∧ True ∧ b < w.heap.size := by
          obtain ⟨l', k1, _, k3⟩ := blk_cells h hg hb
          rw [h1] at k1; cases k1
          exact ⟨trivial, trivial, trivial, (k3 b h2).2.1⟩
        refine ⟨_, _, rfl, h3, fun he => Nat.eq_of_beq_eq_true he, .inr ⟨b, off, rfl, hN nm List.mem_cons_self _ _ h1 h2, hlt, ?_⟩⟩
        refine cells b off _ _ hm (fun i e hi => ?_) (sub _ _ _ hN')
        rw [List.getElem?_take] at hi
        split at hi
        · exact blk_at h hg hb h1 h2 off i e hi
        · cases hi
      split at hf
      · rename_i cs hg; exact key _ cs hg rfl (fun m hm => hN m (by rw [hg]; exact List.mem_cons_of_mem _ hm)) hf
      · rename_i cs hg; exact key _ cs hg rfl (fun m hm => hN m (by rw [hg]; exact List.mem_cons_of_mem _ hm)) hf
      · cases hf
    case gs nm off sz len =>
      simp only [VRel] at hv
      obtain ⟨⟨lb, lc⟩, cap, h1, rfl, h3, h4, h5⟩ := hv
      split at hf
      · rename_i cs hg
        cases hle : Nat.ble (off + len * sz) cs.length <;> rw [hle] at hf
        · cases hf
        simp only [cond_true, Option.map_eq_some_iff] at hf
        obtain ⟨ds, hm, rfl⟩ := hf
        simp only [VRel]
        refine ⟨_, _, rfl, h3, (fun he => by simp at he), ?_⟩
        cases lb with
        | none => have := h5 rfl; left; omega
        | some b =>
          have hlt : b < w.heap.size := by
            obtain ⟨l', k1, _, k3⟩ := blk_cells h hg rfl
            rw [h1] at k1; cases k1
            exact (k3 b rfl).2.1
          refine .inr ⟨b, off, rfl, hN nm List.mem_cons_self _ _ h1 rfl, hlt, cells b off _ _ hm (fun i e hi => ?_) (sub _ _ _ fun m hm => hN m (by rw [hg]; exact List.mem_cons_of_mem _ hm))⟩
          rw [List.getElem?_take] at hi
          split at hi
          · exact blk_at h hg rfl h1 rfl off i e hi
          · cases hi
      · cases hf
    case ptr nm off =>
      simp only [VRel] at hv
      obtain ⟨l, b, h1, h2, rfl⟩ := hv
      split at hf
      · rename_i cs hg
        simp only [Option.map_eq_some_iff] at hf
        obtain ⟨ds, hm, rfl⟩ := hf
        have hlt : b < w.heap.size := by
          obtain ⟨l', k1, _, k3⟩ := blk_cells h hg rfl
          rw [h1] at k1; cases k1
          exact (k3 b h2).2.1
        simp only [VRel]
        refine ⟨b, 0, by simp, hN nm List.mem_cons_self _ _ h1 h2, hlt, cells b 0 _ _ hm (fun i e hi => ?_) (fun m hm => hN m (by rw [hg]; exact List.mem_cons_of_mem _ hm))⟩
        have := blk_at h hg rfl h1 h2 0 i e (by simpa using hi)
        exact this
      · cases hf

theorem fr_rel (h : Rel E M0 w0 N μ M a w x) (n : Nat) (d d' : D) (v : Value) (hf : fr n x.s d = some d') (hv : VRel M w μ d v) : VRel M0 w mu0 d' v :=
  fr_relG h h.ext0 n d d' v hf hv fun _ _ _ _ h1 h2 => not_m0_own h h1 h2

theorem frs_relG (h : Rel E M0 w0 N μ M a w x) {M1 : Nat → Prop} (hx : Ext M w M1 w) {n : Nat} {ds as : List D} {vs : List Value} (hf : frs n x.s ds = some as) (hv : VRels M w μ ds vs)
    (hN : ∀ m ∈ ds.flatMap (frN n x.s), ∀ l b, μ m = some l → l.blk = some b → ¬ M1 b) : VRels M1 w mu0 as vs := by
  obtain ⟨h1, h2⟩ := mapM_rels (R := VRel M w μ) (R' := VRel M1 w mu0) hf hv.length (fun i c v hc hv' => hv.at hc hv') (fun c d v hc hf hr => fr_relG h hx n c d v hf hr fun m hm => hN m (List.mem_flatMap.2 ⟨c, hc, hm⟩))
  exact VRels.mk h1 h2

theorem frs_rel (h : Rel E M0 w0 N μ M a w x) {n : Nat} {ds as : List D} {vs : List Value} (hf : frs n x.s ds = some as) (hv : VRels M w μ ds vs) : VRels M0 w mu0 as vs := by
  obtain ⟨h1, h2⟩ := mapM_rels (R := VRel M w μ) (R' := VRel M0 w mu0) hf hv.length (fun i c v hc hv' => hv.at hc hv') (fun c d v _ hf hr => fr_rel h n c d v hf hr)
  exact VRels.mk h1 h2

theorem fr_pure (n : Nat) (s : St) (d : D) (hp : d.pure = true) : fr n s d = some d := by
  cases n <;> simp [fr, hp]

theorem frs_pure (n : Nat) (s : St) : ∀ (ds : List D), D.pures ds = true → frs n s ds = some ds
  | [], _ => rfl
  | d :: ds, hp => by
    simp only [D.pures, Bool.and_eq_true] at hp
    have := frs_pure n s ds hp.2
    simp only [frs] at this ⊢
    simp only [List.mapM_cons, fr_pure n s d hp.1, this]
    rfl

/-- After a call all that stood stands. -/
theorem Rel.called (h : Rel E M0 w0 N μ M a w x) {w' : World} (hs : w.heap.size ≤ w'.heap.size) (he : Env0 w w') (hb : ∀ b, b < w.heap.size → w'.heap[b]? = w.heap[b]?) : Ext M w M w' ∧ Rel E M0 w0 N μ M a w' x := by
  have hx : Ext M w M w' := ⟨hs, fun b hlt _ => hb b hlt, fun _ _ hm => hm⟩
  have hlt : ∀ nm l b, μ nm = some l → l.blk = some b → b < w.heap.size := fun nm l b hl hlb => by
    obtain ⟨bk, hbk⟩ := shas_iff.1 (h.dom nm l hl)
    have hB := h.st nm bk hbk
    cases bk with
    | fix cs =>
      obtain ⟨l', b', vs, e, fz, h1, h2, h3, h4, _⟩ := hB
      rw [hl] at h1; cases h1; rw [hlb] at h2; cases h2; exact h.mlt _ h4
    | grow cs =>
      obtain ⟨l', h1, hh⟩ := hB
      rw [hl] at h1; cases h1
      rcases hh with ⟨h2, _⟩ | ⟨b', vs, e, fz, h2, h4, _⟩
      · rw [hlb] at h2; cases h2
      · rw [hlb] at h2; cases h2; exact h.mlt _ h4
    | iter s pos =>
      obtain ⟨l', b', h1, h2, h4, _⟩ := hB
      rw [hl] at h1; cases h1; rw [hlb] at h2; cases h2; exact h.mlt _ h4
  exact ⟨hx, { h with
    size := Nat.le_trans h.size hs
    old := fun b hlt' => by rw [hb b (Nat.lt_of_lt_of_le hlt' h.size)]; exact h.old b hlt'
    env := ⟨he.1.trans h.env.1, he.2.trans h.env.2⟩
    mlt := fun b hm => Nat.lt_of_lt_of_le (h.mlt b hm) hs
    tm := fun n => VRel.mono hx _ _ (muLe.refl _) (h.tm n)
    st := fun nm blk hg => BRel.mono hx (muLe.refl _) (fun l b hl hlb => ⟨hb b (hlt nm l b hl hlb), id⟩) (h.st nm blk hg) }⟩

theorem Rel.purge (h : Rel E M0 w0 N μ M a w x) (nm : Nat) : ∃ μ', Rel E M0 w0 N μ' M a w (x.purge nm) ∧ ∀ n l, μ' n = some l → μ n = some l := by
  refine ⟨muSet μ nm none, h.forget nm (fun n => tget_tkill _ _ _) (fun n => ?_), fun n l e => ?_⟩
  · simp only [AS.purge, sget_skill, sget_sdel]
    split <;> rfl
  · by_cases hn : n = nm
    · simp [muSet, hn] at e
    · simpa [muSet, hn] using e

theorem sget_purge (x : AS) (nm n : Nat) : sget (x.purge nm).s n = if n = nm then none else (sget x.s n).map (Blk.kill nm) := by
  simp only [AS.purge, sget_skill, sget_sdel]
  split <;> rfl

theorem sget_purges_none : ∀ (l : List Nat) {x : AS} {n : Nat}, sget x.s n = none → sget (AS.purges l x).s n = none
  | [], x, n, h => h
  | m :: r, x, n, h => sget_purges_none r (by rw [sget_purge]; split; rfl; rw [h]; rfl)

theorem sget_purges : ∀ (l : List Nat) {x : AS} {n : Nat}, n ∈ l → sget (AS.purges l x).s n = none
  | m :: r, x, n, h => by
    rcases List.mem_cons.1 h with rfl | h
    · exact sget_purges_none r (by rw [sget_purge, if_pos rfl])
    · exact sget_purges r h

theorem Rel.purges (l : List Nat) : ∀ {μ : Mu} {x : AS}, Rel E M0 w0 N μ M a w x → ∃ μ', Rel E M0 w0 N μ' M a w (AS.purges l x) ∧ ∀ n k, μ' n = some k → μ n = some k := by
  induction l with
  | nil => intro μ x h; exact ⟨μ, h, fun _ _ e => e⟩
  | cons m r ih =>
    intro μ x h
    obtain ⟨μ1, h1, e1⟩ := h.purge m
    obtain ⟨μ2, h2, e2⟩ := ih h1
    exact ⟨μ2, h2, fun n k e => e1 n k (e2 n k e)⟩

/-- What these names stand for is ours no longer. -/
def mLess (μ : Mu) (L : List Nat) (M : Nat → Prop) : Nat → Prop := fun b => M b ∧ ¬ ∃ n ∈ L, ∃ l, μ n = some l ∧ l.blk = some b

theorem mLess_ext {L : List Nat} : Ext M w (mLess μ L M) w := ⟨Nat.le_refl _, fun _ _ _ => rfl, fun _ _ h => h.1⟩

theorem Rel.freeze (h : Rel E M0 w0 N μ M a w x) (L : List Nat) : ∃ μ', Rel E M0 w0 N μ' (mLess μ L M) a w (AS.purges L x) := by
  obtain ⟨μ', h', hsub⟩ := Rel.purges L h
  have hnot : ∀ n l, μ' n = some l → n ∉ L := fun n l hl hn => by
    have := h'.dom n l hl
    rw [shas_false.2 (sget_purges L hn)] at this; cases this
  have keep : ∀ n l b, μ' n = some l → l.blk = some b → M b → mLess μ L M b := fun n l b hl hb hM =>
    ⟨hM, fun ⟨m, hm, l', h1, h2⟩ => hnot n l hl (by rw [h.inj n m l l' b (hsub n l hl) h1 hb h2]; exact hm)⟩
  exact ⟨μ', { h' with
    mold := fun b hb => ⟨fun hm => (h'.mold b hb).1 hm.1, fun hm => ⟨(h'.mold b hb).2 hm, fun ⟨m, _, l, h1, h2⟩ => by have := h.own m l b h1 h2; omega⟩⟩
    mlt := fun b hb => h'.mlt b hb.1
    tm := fun n => VRel.mono mLess_ext _ _ (muLe.refl _) (h'.tm n)
    st := fun nm blk hg => BRel.mono mLess_ext (muLe.refl _) (fun l b hl hlb => ⟨rfl, keep nm l b hl hlb⟩) (h'.st nm blk hg) }⟩

theorem call_sound {z : Bool} (h : Rel E M0 w0 N μ M a w x) {f : Nat} {ds : List D} {dst : Option Nat} (hd : (match dst with | some k => Nat.blt k N | none => true) = true) {K : AS → Prop} (hc : ACall z E f ds dst x K) {vals : List Value} (hv : VRels M w μ ds vals) :
    Calls E.P f vals.toArray w fun e w' => ∃ v μ' M' x', e = .returned v ∧ Rel E M0 w0 N μ' M' (a.put dst v) w' x' ∧ K x' := by
  obtain ⟨as, d, hf, hP, hc⟩ := hc
  cases z with
  | true =>
    simp only [cond_true] at hc
    obtain ⟨μ', hF⟩ := h.freeze (ds.flatMap (frN 20 x.s))
    have hA : VRels (mLess μ (ds.flatMap (frN 20 x.s)) M) w mu0 as vals := frs_relG h mLess_ext hf hv fun m hm l b h1 h2 h3 => h3.2 ⟨m, hm, l, h1, h2⟩
    refine (hP _ w vals hF.mlt hF.globals hA).mono ?_
    rintro e w' ⟨v, rfl, hr, hs, he, hb⟩
    obtain ⟨hx, hR⟩ := hF.called hs he hb
    exact ⟨v, μ', _, _, rfl, hR.put hd (VRel.mono (Ext.refl _ w') d v (mu0_le μ') hr), hc⟩
  | false =>
    simp only [cond_false] at hc
    obtain ⟨hfl, hK⟩ := hc
    cases hflat : d.flat with
    | true =>
      refine (hP M0 w vals (fun b hb => Nat.lt_of_lt_of_le (h.m0lt b hb) h.size) h.globals0 (frs_rel h hf hv)).mono ?_
      rintro e w' ⟨v, rfl, hr, hs, he, hb⟩
      obtain ⟨hx, hR⟩ := h.called hs he hb
      exact ⟨v, μ, M, _, rfl, hR.put hd (VRel.flat d v hflat hr), hK⟩
    | false =>
      rw [hflat, Bool.false_or] at hfl
      rw [frs_pure 20 x.s ds hfl] at hf
      cases hf
      refine (hP M w vals h.mlt h.globals (VRels.pure ds vals hfl hv)).mono ?_
      rintro e w' ⟨v, rfl, hr, hs, he, hb⟩
      obtain ⟨hx, hR⟩ := h.called hs he hb
      exact ⟨v, μ, M, _, rfl, hR.put hd (VRel.mono (Ext.refl M w') d v (mu0_le μ) hr), hK⟩

theorem callFunc_run {P : Program} {f : Nat} {args : Array Value} {w : World} (hc : callable P f = true) : (callFunc f args).run P w = .ok (.enter f args) w := by
  unfold callable at hc
  split at hc
  · rename_i fn hf
    simp only [Bool.not_eq_true', Bool.or_eq_false_iff] at hc
    simp only [callFunc, Sem.run_bind, run_program, Result.andThen_ok, hf]
    rw [if_neg (by rw [hc.1]; simp), if_neg (by rw [hc.2]; simp)]
    rfl
  · cases hc

theorem cOper_spec {P : Program} {base id i : Nat} {ops : Array Oper} {o : Oper} {ao : AOper} (hc : cOper P N base id ops i o = some ao) :
    cOp P (nameAt base id i) o = some ao.op ∧ ao.dst = o.dst ∧ cGuard ops o.guard = some ao.guard ∧ (match o.dst with | some k => Nat.blt k N | none => true) = true := by
  simp only [cOper, Option.bind_eq_bind, Option.bind_eq_some_iff] at hc
  obtain ⟨op, hop, g, hg, hc⟩ := hc
  cases hd : o.dst with
  | none =>
    simp only [hd, cond_true, Option.some.injEq] at hc
    subst hc
    exact ⟨hop, rfl, hg, rfl⟩
  | some k =>
    simp only [hd] at hc
    cases hk : Nat.blt k N <;> rw [hk] at hc
    · cases hc
    · simp only [cond_true, Option.some.injEq] at hc
      subst hc
      exact ⟨hop, rfl, hg, hk⟩

/-- One operation, carried out. -/
theorem oper_on (h : Rel E M0 w0 N μ M a w x) {base id i : Nat} {ops : Array Oper} {o : Oper} {ao : AOper} (hc : cOper E.P N base id ops i o = some ao.bare) {K : AS → Prop} (hK : AOpK E ao x K)
    {next : Act → World → Prop} {Q : Exit → Act → World → Prop} (hn : ∀ a w μ M x, Rel E M0 w0 N μ M a w x → K x → next a w) : o.wp E.P a w next Q := by
  obtain ⟨hop, hdst, _, hd⟩ := cOper_spec hc
  have hdst : ao.dst = o.dst := hdst
  have hop : cOp E.P (nameAt base id i) o = some ao.op.bare := hop
  have plain : ∀ d x', step E.G ao.op.bare x = some (d, x') → K (x'.put o.dst d) → o.wp E.P a w next Q := by
    intro d x' hs hk
    obtain ⟨v, w', μ', M', hr, hv, hR⟩ := op_sound h hop hs
    unfold Oper.wp
    rcases hr with hr | ⟨hr, rfl⟩
    · rw [hr]; exact hn _ _ _ _ _ (hR.put hd hv) hk
    · rw [hr]; exact hn _ _ _ _ _ (hR.put hd hv) hk
  have calls : ∀ z f vals ds, (execOp a.eval o).run E.P w = .ok (.enter f vals) w → ACall z E f ds o.dst x K → VRels M w μ ds vals.toList → o.wp E.P a w next Q := by
    intro z f vals ds hr hac hv
    unfold Oper.wp
    rw [hr]
    have := call_sound h hd hac hv
    simp only [Array.toArray_toList] at this
    refine this.mono ?_
    rintro e w' ⟨v, μ', M', x', rfl, hR, hk⟩
    exact hn _ _ _ _ _ hR hk
  unfold AOpK at hK
  rw [hdst] at hK
  cases hao : ao.op
  case call z f args =>
    rw [hao] at hK hop
    simp only [AOp.bare] at hop
    obtain ⟨c, ho, hcal, hargs, fn, hfn, hcb⟩ := cOp_call hop
    have hcb : callable E.P f = true := by simp only [callable, hfn, hcb, Bool.not_false]
    refine calls z f (c.args.map a.eval) _ ?_ hK ?_
    · simp only [execOp, ho, resolve, hcal, Act.eval, Deferred.ofValue, Sem.run_bind, Sem.run_pure, Result.andThen_ok, invoke]
      simpa using callFunc_run (args := c.args.map a.eval) hcb
    · have := args_rel h (show c.args.toList.mapM cArg = some args from hargs)
      simpa using this
  case callv z g args =>
    rw [hao] at hK hop
    simp only [AOp.bare] at hop
    obtain ⟨c, y, ho, hcal, hg, hargs⟩ := cOp_callv hop
    have hy := arg_rel h hg
    have hA := args_rel h (show c.args.toList.mapM cArg = some args from hargs)
    dsimp only at hK
    split at hK
    · rename_i f fs cs hev
      rw [hev] at hy
      simp only [VRel] at hy
      obtain ⟨va, vb, hy, h1, h2⟩ := hy
      refine calls z f (va ++ c.args.map a.eval ++ vb) _ ?_ hK.2 ?_
      · simp only [execOp, ho, resolve, hcal, hy, Deferred.ofValue, Sem.run_bind, Sem.run_pure, Result.andThen_ok, invoke]
        exact callFunc_run hK.1
      · simp only [Array.toList_append, Array.toList_map]
        exact (h1.append hA).append h2
    · exact hK.elim
  all_goals
    rw [hao] at hK plain
    simp only [AOp.bare] at plain
    dsimp only at hK
    split at hK
    · rename_i d x' hs
      exact plain d x' hs hK
    · exact hK.elim
end

end Iv
