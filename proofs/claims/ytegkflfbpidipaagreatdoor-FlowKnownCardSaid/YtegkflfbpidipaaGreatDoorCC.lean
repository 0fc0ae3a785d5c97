/- The operations of the model do what the abstract ones say: literals, lengths, cuts, conversions that make no memory. Conditions: none. -/
import Derived.Test.YtegkflfbpidipaaGreatDoorCB
set_option linter.unusedSimpArgs false
set_option linter.unusedVariables false
namespace Zv
open Go

section
variable {E : Env} {M0 : Nat → Prop} {w0 : World} {N : Nat} {μ : Mu} {M : Nat → Prop} {a : Act} {w : World} {x : AS}

theorem op_un (h : Rel E M0 w0 N μ M a w x) {op : UnOp} {o : Operand} {ar : Arg} (h2 : cArg o = some ar) {d : D} {x' : AS}
    (hs : step E.G (.un op ar) x = some (d, x')) : gd E M0 w0 N μ M w x a d x' w (do pure (.value (← Op.unary op (a.eval o)))) := by
  have hv := arg_rel h h2
  simp only [step_mv, st_mv, step_pick, st_pick, step_new, st_new, step_ld, st_ld, step_st, st_st, step_fa, st_fa, step_iaA, st_iaA, step_iaS, st_iaS, step_ixA, st_ixA, step_ixS, st_ixS, step_fld, st_fld, step_ext, st_ext, step_bin, st_bin, step_cmp, st_cmp, step_un, st_un, step_bld, st_bld, step_bsl, st_bsl, step_mks, st_mks, step_slS, st_slS, step_slV, st_slV, step_slA, st_slA, step_len, st_len, step_cap, st_cap, step_app, st_app, step_copy, st_copy, step_cvI, st_cvI, step_cvN, st_cvN, step_cvB, st_cvB, step_cvS, st_cvS, step_mkif, st_mkif, step_mkfn, st_mkfn, step_nilc, st_nilc, step_rng, st_rng, step_next, st_next, step_mm, st_mm, step_mkm, st_mkm, step_mlk, st_mlk, step_mup, st_mup, step_men, st_men, step_mst, st_mst, step_mln, st_mln, step_rgm, st_rgm, step_nxm, st_nxm, step_ent, st_ent, step_tas, st_tas, step_tai, st_tai, step_xl, st_xl, step_xa, st_xa, step_call, step_callv, step_inv, step_pan, step_dfr, step_rcv, Option.map_eq_some_iff] at hs
  obtain ⟨d', hs, he⟩ := hs
  cases he
  generalize ar.ev E.G x.t = d1 at *
  generalize a.eval o = v at *
  cases op <;> cases d1 <;> simp only [unD, reduceCtorEq] at hs
  · cases hs
    simp only [VRel] at hv; subst hv
    rename_i k n
    exact Good.of (v := .int k (k.wrap (0 - n))) h (run_value (by simp [Op.unary, Op.intArith])) (by simp only [VRel, wrapD_eq])
  · obtain ⟨n, rfl, hr⟩ := bits_rel hs E.P w
    simp only [VRel] at hv; subst hv
    exact Good.of h (run_value (by simpa [Op.unary] using hr)) (by simp only [VRel])
  · cases hs
    simp only [VRel] at hv; subst hv
    exact Good.of h (run_value (by simp [Op.unary]; rfl)) (by simp only [VRel])

theorem setAt_length {α : Type} : ∀ (ds cs : List α) (off : Nat), (setAt cs off ds).length = cs.length
  | [], cs, off => rfl
  | d :: ds, cs, off => by simp [setAt, setAt_length ds]

theorem VRels.set {cs : List D} {vs : List Value} (h : VRels M w μ cs vs) (i : Nat) {d : D} {v : Value} (hd : VRel M w μ d v) : VRels M w μ (cs.set i d) (vs.set i v) := by
  refine VRels.mk (by simp [h.length]) fun j e u he hu => ?_
  rw [List.getElem?_set] at he hu
  have hl := h.length
  split at he
  · rename_i hij
    rw [if_pos hij] at hu
    split at he
    · rename_i hlt
      rw [if_pos (by omega)] at hu
      cases he; cases hu; exact hd
    · cases he
  · rename_i hij
    rw [if_neg hij] at hu
    exact h.at he hu

theorem VRels.setAt : ∀ {ds : List D} {us : List Value} {cs : List D} {vs : List Value} (off : Nat), VRels M w μ cs vs → VRels M w μ ds us → VRels M w μ (setAt cs off ds) (Zv.setAt vs off us)
  | [], us, cs, vs, off, h, h' => by
    simp only [VRels] at h'; subst h'; exact h
  | d :: ds, us, cs, vs, off, h, h' => by
    simp only [VRels] at h'
    obtain ⟨v, r, rfl, h1, h2⟩ := h'
    simp only [Zv.setAt]
    exact VRels.setAt (off + 1) (h.set off h1) h2

theorem foldl_set (off : Nat) : ∀ (l : List Value) (k : Nat) (cells : Array Value),
    ((l.zipIdx k).foldl (fun (cs : Array Value) (p : Value × Nat) => cs.setIfInBounds (off + p.2) p.1) cells).toList = setAt cells.toList (off + k) l
  | [], k, cells => rfl
  | v :: l, k, cells => by
    simp only [List.zipIdx_cons, List.foldl_cons, setAt]
    rw [foldl_set off l (k + 1)]
    simp [Nat.add_assoc]

theorem fill_rel (h : Rel E M0 w0 N μ M a w x) (pl : Nat → Option (Nat × Nat)) (g : Nat × Operand → Option (Nat × Nat × Arg))
    (hg : ∀ p q, g p = some q → pl p.1 = some (q.1, q.2.1) ∧ cArg p.2 = some q.2.2) :
    ∀ (ps : List (Nat × Operand)) (l : List (Nat × Nat × Arg)), ps.mapM g = some l → ∀ (cs out : List D) (vs : Array Value), VRels M w μ cs vs.toList → place cs (parts E.G x.t l) = some out →
      ∃ arr, Instr.fill pl vs (ps.map fun p => (p.1, a.eval p.2)) = some arr ∧ VRels M w μ out arr.toList
  | [], l, hl, cs, out, vs, hr, ho => by
    simp at hl; subst hl
    simp [parts, place] at ho; subst ho
    exact ⟨vs, rfl, hr⟩
  | p :: ps, l, hl, cs, out, vs, hr, ho => by
    simp only [List.mapM_cons, Option.bind_eq_bind, Option.bind_eq_some_iff, Option.pure_def, Option.some.injEq] at hl
    obtain ⟨q, hq, l', hl', rfl⟩ := hl
    obtain ⟨h1, h2⟩ := hg p q hq
    simp only [parts, List.map_cons, place] at ho
    split at ho
    · rename_i ds hds
      cases hcond : (Nat.beq ds.length q.2.1 && Nat.ble (q.1 + q.2.1) cs.length) <;> rw [hcond] at ho
      · cases ho
      · simp only [cond_true, Bool.and_eq_true] at ho hcond
        have e1 := Nat.eq_of_beq_eq_true hcond.1
        have e2 := Nat.le_of_ble_eq_true hcond.2
        have hcells := cells_rel hds (arg_rel h h2)
        have hlen := hcells.length
        have hlen2 := hr.length
        simp only [Array.length_toList] at hlen hlen2
        simp only [List.map_cons, Instr.fill, h1]
        rw [if_neg (by simp; omega)]
        have hset : ((a.eval p.2).cells.zipIdx.foldl (fun (cs : Array Value) (x : Value × Nat) => match x with | (c, j) => cs.setIfInBounds (q.1 + j) c) vs).toList = setAt vs.toList q.1 (a.eval p.2).cells.toList := by
          have := foldl_set q.1 (a.eval p.2).cells.toList 0 vs
          rw [Nat.add_zero] at this
          rw [← this, ← Array.foldl_toList, Array.toList_zipIdx]
        exact fill_rel h pl g hg ps l' hl' _ out _ (by rw [hset]; exact VRels.setAt q.1 hr hcells) ho
    · cases ho

theorem run_mapM_list {P : Program} {α β : Type} {f : α → Sem β} {g : α → β} {w : World} : ∀ (l : List α), (∀ y ∈ l, (f y).run P w = .ok (g y) w) → (l.mapM f).run P w = .ok (l.map g) w
  | [], _ => by simp
  | y :: l, h => by
    simp only [List.mapM_cons, Sem.run_bind, h y (by simp), Result.andThen_ok, run_mapM_list l (fun z hz => h z (by simp [hz])), Sem.run_pure, List.map_cons]

theorem op_bld_struct (h : Rel E M0 w0 N μ M a w x) {t : TypeId} {fs : Array Field} {ps : Array (Nat × Operand)} {cells : List D} {zd : D} (hz : zeroOf E.P t = some zd) (hc : aggCells zd = some cells)
    (hu : E.P.underlying t = some (.struct fs)) {l : List (Nat × Nat × Arg)}
    (hl : ps.toList.mapM (fun (p : Nat × Operand) => do
        let f ← fs[p.1]?
        let s ← szOf E.P f.type
        let a ← cArg p.2
        some (f.offset, s, a)) = some l) (hall : fs.all (fun f => (E.P.info? f.type).isSome) = true) {d : D} {x' : AS}
    (hs : step E.G (.bld cells l) x = some (d, x')) : gd E M0 w0 N μ M w x a d x' w (do pure (.value (← Instr.build t (ps.map fun (i, x) => (i, a.eval x))))) := by
  simp only [step_mv, st_mv, step_pick, st_pick, step_new, st_new, step_ld, st_ld, step_st, st_st, step_fa, st_fa, step_iaA, st_iaA, step_iaS, st_iaS, step_ixA, st_ixA, step_ixS, st_ixS, step_fld, st_fld, step_ext, st_ext, step_bin, st_bin, step_cmp, st_cmp, step_un, st_un, step_bld, st_bld, step_bsl, st_bsl, step_mks, st_mks, step_slS, st_slS, step_slV, st_slV, step_slA, st_slA, step_len, st_len, step_cap, st_cap, step_app, st_app, step_copy, st_copy, step_cvI, st_cvI, step_cvN, st_cvN, step_cvB, st_cvB, step_cvS, st_cvS, step_mkif, st_mkif, step_mkfn, st_mkfn, step_nilc, st_nilc, step_rng, st_rng, step_next, st_next, step_mm, st_mm, step_mkm, st_mkm, step_mlk, st_mlk, step_mup, st_mup, step_men, st_men, step_mst, st_mst, step_mln, st_mln, step_rgm, st_rgm, step_nxm, st_nxm, step_ent, st_ent, step_tas, st_tas, step_tai, st_tai, step_xl, st_xl, step_xa, st_xa, step_call, step_callv, step_inv, step_pan, step_dfr, step_rcv, Option.map_eq_some_iff] at hs
  obtain ⟨out, ho, he⟩ := hs
  cases he
  simp only [zeroOf, Option.bind_eq_bind, Option.bind_eq_some_iff] at hz
  obtain ⟨i, hi, v, hv, hz⟩ := hz
  have hzr := ofV_rel (M := M) (w := w) (μ := μ) _ _ _ hz
  cases zd <;> simp only [aggCells, reduceCtorEq, Option.some.injEq] at hc
  subst hc
  simp only [VRel] at hzr
  obtain ⟨vs, rfl, hzr⟩ := hzr
  let pls : Array (Nat × Nat) := fs.map fun f => (f.offset, (szOf E.P f.type).getD 0)
  obtain ⟨arr, hfill, hr⟩ := fill_rel h (pls[·]?) _ (fun p q hq => by
    simp only [Option.bind_eq_bind, Option.bind_eq_some_iff, Option.some.injEq] at hq
    obtain ⟨f, hf, s, hs, ar, har, rfl⟩ := hq
    exact ⟨by simp [pls, hf, hs], har⟩) ps.toList l hl _ out vs hzr ho
  refine Good.of (v := .agg arr) h (run_value ?_) (by simp only [VRel]; exact ⟨arr, rfl, hr⟩)
  have hm : (fs.mapM fun f => (do pure (f.offset, ← Go.sizeOf f.type) : Sem (Nat × Nat))).run E.P w = .ok pls w := by
    rw [Array.mapM_eq_mapM_toList]
    simp only [Sem.run_map]
    rw [run_mapM_list (g := fun f => (f.offset, (szOf E.P f.type).getD 0))]
    · simp only [Result.andThen_ok, pls]
      congr 1
      apply Array.ext'
      simp
    · intro f hf
      have hall' : ∀ g ∈ fs.toList, (E.P.info? g.type).isSome = true := by
        rw [← Array.all_toList, List.all_eq_true] at hall
        exact hall
      obtain ⟨inf, hinf⟩ := Option.isSome_iff_exists.1 (hall' f hf)
      have hsz : szOf E.P f.type = some inf.size := by simp [szOf, hinf]
      simp [run_sizeOf' hsz, hsz]
  simp only [Instr.build, Sem.run_bind, zeroValue, run_typeInfo' hi, hv, Result.andThen_ok, Sem.run_pure, run_underlying hu, hm, Value.cells]
  have hp : (ps.map fun (p : Nat × Operand) => (p.1, a.eval p.2)).toList = ps.toList.map fun p => (p.1, a.eval p.2) := by simp
  rw [show (ps.map fun (x : Nat × Operand) => match x with | (i, x) => (i, a.eval x)) = ps.map fun p => (p.1, a.eval p.2) from rfl, hp, hfill]
  rfl

theorem op_bld_array (h : Rel E M0 w0 N μ M a w x) {t e : TypeId} {n s : Nat} {ps : Array (Nat × Operand)} {cells : List D} {zd : D} (hz : zeroOf E.P t = some zd) (hc : aggCells zd = some cells)
    (hu : E.P.underlying t = some (.array n e)) (hsz : szOf E.P e = some s) {l : List (Nat × Nat × Arg)}
    (hl : ps.toList.mapM (fun (p : Nat × Operand) => do
        let a ← cArg p.2
        some (p.1 * s, s, a)) = some l) {d : D} {x' : AS}
    (hs : step E.G (.bld cells l) x = some (d, x')) : gd E M0 w0 N μ M w x a d x' w (do pure (.value (← Instr.build t (ps.map fun (i, x) => (i, a.eval x))))) := by
  simp only [step_mv, st_mv, step_pick, st_pick, step_new, st_new, step_ld, st_ld, step_st, st_st, step_fa, st_fa, step_iaA, st_iaA, step_iaS, st_iaS, step_ixA, st_ixA, step_ixS, st_ixS, step_fld, st_fld, step_ext, st_ext, step_bin, st_bin, step_cmp, st_cmp, step_un, st_un, step_bld, st_bld, step_bsl, st_bsl, step_mks, st_mks, step_slS, st_slS, step_slV, st_slV, step_slA, st_slA, step_len, st_len, step_cap, st_cap, step_app, st_app, step_copy, st_copy, step_cvI, st_cvI, step_cvN, st_cvN, step_cvB, st_cvB, step_cvS, st_cvS, step_mkif, st_mkif, step_mkfn, st_mkfn, step_nilc, st_nilc, step_rng, st_rng, step_next, st_next, step_mm, st_mm, step_mkm, st_mkm, step_mlk, st_mlk, step_mup, st_mup, step_men, st_men, step_mst, st_mst, step_mln, st_mln, step_rgm, st_rgm, step_nxm, st_nxm, step_ent, st_ent, step_tas, st_tas, step_tai, st_tai, step_xl, st_xl, step_xa, st_xa, step_call, step_callv, step_inv, step_pan, step_dfr, step_rcv, Option.map_eq_some_iff] at hs
  obtain ⟨out, ho, he⟩ := hs
  cases he
  simp only [zeroOf, Option.bind_eq_bind, Option.bind_eq_some_iff] at hz
  obtain ⟨i, hi, v, hv, hz⟩ := hz
  have hzr := ofV_rel (M := M) (w := w) (μ := μ) _ _ _ hz
  cases zd <;> simp only [aggCells, reduceCtorEq, Option.some.injEq] at hc
  subst hc
  simp only [VRel] at hzr
  obtain ⟨vs, rfl, hzr⟩ := hzr
  obtain ⟨arr, hfill, hr⟩ := fill_rel h (fun i => some (i * s, s)) _ (fun p q hq => by
    simp only [Option.bind_eq_bind, Option.bind_eq_some_iff, Option.some.injEq] at hq
    obtain ⟨ar, har, rfl⟩ := hq
    exact ⟨rfl, har⟩) ps.toList l hl _ out vs hzr ho
  refine Good.of (v := .agg arr) h (run_value ?_) (by simp only [VRel]; exact ⟨arr, rfl, hr⟩)
  simp only [Instr.build, Sem.run_bind, zeroValue, run_typeInfo' hi, hv, Result.andThen_ok, Sem.run_pure, run_underlying hu, run_sizeOf' hsz, Value.cells]
  have hp : (ps.map fun (p : Nat × Operand) => (p.1, a.eval p.2)).toList = ps.toList.map fun p => (p.1, a.eval p.2) := by simp
  rw [show (ps.map fun (x : Nat × Operand) => match x with | (i, x) => (i, a.eval x)) = ps.map fun p => (p.1, a.eval p.2) from rfl, hp, hfill]
  rfl

/-! Cuts. -/
theorem cArgO_none {o : Option Operand} (h : cArgO o = some none) : o = none := by
  cases o with
  | none => rfl
  | some y => simp [cArgO] at h

theorem cArgO_some {o : Option Operand} {ar : Arg} (h : cArgO o = some (some ar)) : ∃ y, o = some y ∧ cArg y = some ar := by
  cases o with
  | none => simp [cArgO] at h
  | some y => simp [cArgO] at h; exact ⟨y, rfl, h⟩

theorem bound_rel {P : Program} {n r : Nat} {d : D} {v : Value} (hb : bndD n d = some r) (hv : VRel M w μ d v) {c : Nat} (hc : n ≤ c) (code : BoundsCode) (w' : World) :
    (Instr.sliceBound v c code).run P w' = .ok r w' ∧ r ≤ n := by
  cases d <;> simp only [bndD, reduceCtorEq] at hb
  rename_i k i
  split at hb
  · rename_i hi
    cases hb
    simp only [VRel] at hv; subst hv
    refine ⟨?_, by omega⟩
    have : i ≤ (c : Int) := by omega
    simp [Instr.sliceBound, asIntOf, hi.1, this]
  · cases hb

/-- The bounds of a cut, as values and what they come to. -/
theorem run_bounds {P : Program} {b : Bool} {len C rm rh rl : Nat} {lv hv mv : Option Value} {w : World}
    (b1 : ∀ v, mv = some v → ∀ code, (Instr.sliceBound v C code).run P w = .ok rm w) (b1' : mv = none → rm = C)
    (b2 : ∀ v, hv = some v → ∀ code, (Instr.sliceBound v rm code).run P w = .ok rh w) (b2' : hv = none → rh = len ∧ mv = none)
    (b3 : ∀ v, lv = some v → ∀ code, (Instr.sliceBound v rh code).run P w = .ok rl w) (b3' : lv = none → rl = 0) :
    (Instr.sliceBounds b len C lv hv mv).run P w = .ok (rl, rh, rm) w := by
  cases lv with
  | none =>
    have := b3' rfl; subst this
    cases hv with
    | none =>
      obtain ⟨rfl, rfl⟩ := b2' rfl
      have := b1' rfl; subst this
      simp [Instr.sliceBounds]
    | some h =>
      cases mv with
      | none =>
        have := b1' rfl; subst this
        simp [Instr.sliceBounds, b2 h rfl]
      | some m => simp [Instr.sliceBounds, b1 m rfl, b2 h rfl]
  | some l =>
    cases hv with
    | none =>
      obtain ⟨rfl, rfl⟩ := b2' rfl
      have := b1' rfl; subst this
      simp [Instr.sliceBounds, b3 l rfl]
    | some h =>
      cases mv with
      | none =>
        have := b1' rfl; subst this
        simp [Instr.sliceBounds, b2 h rfl, b3 l rfl]
      | some m => simp [Instr.sliceBounds, b1 m rfl, b2 h rfl, b3 l rfl]

theorem bounds_rel (h : Rel E M0 w0 N μ M a w x) {l hi m : Option Operand} {l' h' m' : Option Arg} (hl : cArgO l = some l') (hh : cArgO hi = some h') (hm : cArgO m = some m')
    (hno : ¬ (h' = none ∧ m' ≠ none)) {len c C rm rh rl : Nat} (hcC : c ≤ C) (hlc : len ≤ c) (b1 : bndO c c (m'.map (·.ev E.G x.t)) = some rm) (b2 : bndO rm len (h'.map (·.ev E.G x.t)) = some rh)
    (b3 : bndO rh 0 (l'.map (·.ev E.G x.t)) = some rl) (b : Bool) :
    (Instr.sliceBounds b len C (l.map a.eval) (hi.map a.eval) (m.map a.eval)).run E.P w = .ok (rl, rh, bif m'.isSome then rm else C) w ∧ rl ≤ rh ∧ rh ≤ rm ∧ rm ≤ c := by
  have hm1 : rm ≤ c ∧ (m' = none → rm = c) ∧ ∀ v, m.map a.eval = some v → ∀ code, (Instr.sliceBound v C code).run E.P w = .ok rm w := by
    cases m' with
    | none =>
      rw [cArgO_none hm]
      simp [bndO] at b1; subst b1
      exact ⟨Nat.le_refl _, fun _ => rfl, fun v hv => by cases hv⟩
    | some mr =>
      obtain ⟨y, rfl, hy⟩ := cArgO_some hm
      simp only [Option.map_some, bndO] at b1
      refine ⟨(bound_rel (P := E.P) b1 (arg_rel h hy) hcC .index w).2, (fun e => by cases e), fun v hv code => ?_⟩
      simp only [Option.map_some, Option.some.injEq] at hv; subst hv
      exact (bound_rel (P := E.P) b1 (arg_rel h hy) hcC code w).1
  have hh1 : rh ≤ rm ∧ (h' = none → rh = len) ∧ ∀ v, hi.map a.eval = some v → ∀ n, rm ≤ n → ∀ code, (Instr.sliceBound v n code).run E.P w = .ok rh w := by
    cases h' with
    | none =>
      rw [cArgO_none hh]
      simp [bndO] at b2; subst b2
      refine ⟨?_, fun _ => rfl, fun v hv => by cases hv⟩
      cases m' with
      | none => rw [hm1.2.1 rfl]; exact hlc
      | some y => exact absurd ⟨rfl, by simp⟩ hno
    | some ar =>
      obtain ⟨y, rfl, hy⟩ := cArgO_some hh
      simp only [Option.map_some, bndO] at b2
      refine ⟨(bound_rel (P := E.P) b2 (arg_rel h hy) (Nat.le_refl _) .index w).2, (fun e => by cases e), fun v hv n hn code => ?_⟩
      simp only [Option.map_some, Option.some.injEq] at hv; subst hv
      exact (bound_rel (P := E.P) b2 (arg_rel h hy) hn code w).1
  have hl1 : rl ≤ rh ∧ (l' = none → rl = 0) ∧ ∀ v, l.map a.eval = some v → ∀ code, (Instr.sliceBound v rh code).run E.P w = .ok rl w := by
    cases l' with
    | none =>
      rw [cArgO_none hl]
      simp [bndO] at b3; subst b3
      exact ⟨Nat.zero_le _, fun _ => rfl, fun v hv => by cases hv⟩
    | some ar =>
      obtain ⟨y, rfl, hy⟩ := cArgO_some hl
      simp only [Option.map_some, bndO] at b3
      refine ⟨(bound_rel (P := E.P) b3 (arg_rel h hy) (Nat.le_refl _) .index w).2, (fun e => by cases e), fun v hv code => ?_⟩
      simp only [Option.map_some, Option.some.injEq] at hv; subst hv
      exact (bound_rel (P := E.P) b3 (arg_rel h hy) (Nat.le_refl _) code w).1
  refine ⟨?_, hl1.1, hh1.1, hm1.1⟩
  have e1 : ∀ {o : Option Operand} {r : Option Arg}, cArgO o = some r → o.map a.eval = none → r = none := by
    intro o r hr he
    cases o with
    | none => simp [cArgO] at hr; exact hr.symm
    | some y => cases he
  refine run_bounds ?_ ?_ ?_ ?_ hl1.2.2 (fun he => hl1.2.1 (e1 hl he))
  · intro v hv code
    have := hm1.2.2 v hv code
    cases m' with
    | none => rw [cArgO_none hm] at hv; cases hv
    | some y => exact this
  · intro he; rw [e1 hm he]; rfl
  · intro v hv code
    refine hh1.2.2 v hv _ ?_ code
    cases m' with
    | none => have := hm1.2.1 rfl; simp; omega
    | some y => exact Nat.le_refl _
  · intro he
    have := e1 hh he
    refine ⟨hh1.2.1 this, ?_⟩
    cases m' with
    | none => rw [cArgO_none hm]; rfl
    | some y => exact absurd ⟨this, by simp⟩ hno

theorem op_slS (h : Rel E M0 w0 N μ M a w x) {t : TypeId} (hu : E.P.underlying t = some .string) {o : Operand} {l hi : Option Operand} {ar : Arg} {l' h' : Option Arg} (h2 : cArg o = some ar)
    (hl : cArgO l = some l') (hh : cArgO hi = some h') {d : D} {x' : AS} (hs : step E.G (.slS ar l' h') x = some (d, x')) :
    gd E M0 w0 N μ M w x a d x' w (do pure (.value (← Instr.sliceAt t (a.eval o) (l.map a.eval) (hi.map a.eval) ((none : Option Operand).map a.eval)))) := by
  have hv := arg_rel h h2
  simp only [step_mv, st_mv, step_pick, st_pick, step_new, st_new, step_ld, st_ld, step_st, st_st, step_fa, st_fa, step_iaA, st_iaA, step_iaS, st_iaS, step_ixA, st_ixA, step_ixS, st_ixS, step_fld, st_fld, step_ext, st_ext, step_bin, st_bin, step_cmp, st_cmp, step_un, st_un, step_bld, st_bld, step_bsl, st_bsl, step_mks, st_mks, step_slS, st_slS, step_slV, st_slV, step_slA, st_slA, step_len, st_len, step_cap, st_cap, step_app, st_app, step_copy, st_copy, step_cvI, st_cvI, step_cvN, st_cvN, step_cvB, st_cvB, step_cvS, st_cvS, step_mkif, st_mkif, step_mkfn, st_mkfn, step_nilc, st_nilc, step_rng, st_rng, step_next, st_next, step_mm, st_mm, step_mkm, st_mkm, step_mlk, st_mlk, step_mup, st_mup, step_men, st_men, step_mst, st_mst, step_mln, st_mln, step_rgm, st_rgm, step_nxm, st_nxm, step_ent, st_ent, step_tas, st_tas, step_tai, st_tai, step_xl, st_xl, step_xa, st_xa, step_call, step_callv, step_inv, step_pan, step_dfr, step_rcv] at hs
  split at hs
  · rename_i s he
    rw [he] at hv
    simp only [VRel] at hv
    simp only [Option.bind_eq_bind, Option.bind_eq_some_iff] at hs
    obtain ⟨rh, b2, rl, b3, hs⟩ := hs
    cases hs
    obtain ⟨hrun, h3, h4, h5⟩ := bounds_rel (m := none) (m' := none) h hl hh rfl (by simp) (Nat.le_refl _) (Nat.le_refl _) (show bndO s.length s.length none = some s.length from rfl) b2 b3 false
    refine Good.of (v := .string ((⟨s.toArray⟩ : ByteArray).extract rl rh)) h (run_value ?_) ?_
    · have hsz : (⟨s.toArray⟩ : ByteArray).size = s.length := by simp [ByteArray.size]
      simp only [Instr.sliceAt, Sem.run_bind, run_underlying hu, Result.andThen_ok, Instr.slice, hv, hsz, Option.map_none, Option.isSome_none, Bool.false_eq_true, if_false, Sem.run_pure] at hrun ⊢
      rw [hrun]
      rfl
    · simp only [VRel, Value.string.injEq]
      apply ByteArray.ext
      simp only [ByteArray.data_extract]
      apply Array.ext'
      rw [Array.toList_extract, List.extract_eq_take_drop, List.drop_take]
  · cases hs

theorem run_slice_s {P : Program} {t e : TypeId} {sz : Nat} (hu : P.underlying t = some (.slice e)) (hsz : szOf P e = some sz) {ad : Option Addr} {len cap : Nat} {l h m : Option Value} {rl rh rm : Nat} {w : World}
    (hb : (Instr.sliceBounds true len cap l h m).run P w = .ok (rl, rh, rm) w) :
    (Instr.sliceAt t (.slice ad len cap) l h m).run P w = .ok (.slice (if rm = rl then ad else ad.map (·.add (rl * sz))) (rh - rl) (rm - rl)) w := by
  simp only [Instr.sliceAt, Sem.run_bind, run_underlying hu, Result.andThen_ok, Instr.slice, hb, run_sizeOf' hsz, Sem.run_pure]

theorem op_slV (h : Rel E M0 w0 N μ M a w x) {t e : TypeId} {sz : Nat} (hu : E.P.underlying t = some (.slice e)) (hsz : szOf E.P e = some sz) {o : Operand} {l hi m : Option Operand} {ar : Arg} {l' h' m' : Option Arg}
    (h2 : cArg o = some ar) (hl : cArgO l = some l') (hh : cArgO hi = some h') (hm : cArgO m = some m') (hno : ¬ (h' = none ∧ m' ≠ none)) {d : D} {x' : AS} (hs : step E.G (.slV sz ar l' h' m') x = some (d, x')) :
    gd E M0 w0 N μ M w x a d x' w (do pure (.value (← Instr.sliceAt t (a.eval o) (l.map a.eval) (hi.map a.eval) (m.map a.eval)))) := by
  have hv := arg_rel h h2
  simp only [step_mv, st_mv, step_pick, st_pick, step_new, st_new, step_ld, st_ld, step_st, st_st, step_fa, st_fa, step_iaA, st_iaA, step_iaS, st_iaS, step_ixA, st_ixA, step_ixS, st_ixS, step_fld, st_fld, step_ext, st_ext, step_bin, st_bin, step_cmp, st_cmp, step_un, st_un, step_bld, st_bld, step_bsl, st_bsl, step_mks, st_mks, step_slS, st_slS, step_slV, st_slV, step_slA, st_slA, step_len, st_len, step_cap, st_cap, step_app, st_app, step_copy, st_copy, step_cvI, st_cvI, step_cvN, st_cvN, step_cvB, st_cvB, step_cvS, st_cvS, step_mkif, st_mkif, step_mkfn, st_mkfn, step_nilc, st_nilc, step_rng, st_rng, step_next, st_next, step_mm, st_mm, step_mkm, st_mkm, step_mlk, st_mlk, step_mup, st_mup, step_men, st_men, step_mst, st_mst, step_mln, st_mln, step_rgm, st_rgm, step_nxm, st_nxm, step_ent, st_ent, step_tas, st_tas, step_tai, st_tai, step_xl, st_xl, step_xa, st_xa, step_call, step_callv, step_inv, step_pan, step_dfr, step_rcv] at hs
  split at hs
  · rename_i he
    rw [he] at hv
    simp only [VRel] at hv
    simp only [Option.bind_eq_bind, Option.bind_eq_some_iff] at hs
    obtain ⟨rm, b1, rh, b2, rl, b3, hs⟩ := hs
    cases hs
    obtain ⟨hrun, h3, h4, h5⟩ := bounds_rel h hl hh hm hno (Nat.le_refl _) (Nat.le_refl _) b1 b2 b3 true
    refine Good.of h (run_value (by rw [hv]; exact run_slice_s hu hsz hrun)) ?_
    have e1 : rm = 0 := by omega
    have e2 : rh = 0 := by omega
    have e3 : rl = 0 := by omega
    subst e1; subst e2; subst e3
    simp only [VRel]
    cases m'.isSome <;> simp
  · rename_i ex len cs he
    rw [he] at hv
    simp only [VRel] at hv
    obtain ⟨ad, cap, hv, h6, h7, h8⟩ := hv
    simp only [Option.bind_eq_bind, Option.bind_eq_some_iff] at hs
    obtain ⟨rm, b1, rh, b2, rl, b3, hs⟩ := hs
    cases hcond : Nat.ble (rh * sz) cs.length <;> rw [hcond] at hs
    · cases hs
    simp only [cond_true, Option.some.injEq, Prod.mk.injEq] at hs
    obtain ⟨rfl, rfl⟩ := hs
    obtain ⟨hrun, h3, h4, h5⟩ := bounds_rel h hl hh hm hno h6 (Nat.le_refl _) b1 b2 b3 true
    refine Good.of h (run_value (by rw [hv]; exact run_slice_s hu hsz hrun)) ?_
    simp only [VRel]
    refine ⟨_, _, rfl, ?_, ?_, ?_⟩
    · cases m'.isSome <;> simp <;> omega
    · intro hex
      cases m' with
      | none =>
        simp at hex
        have := h7 hex.1
        have := hex.2
        simp; omega
      | some mm =>
        simp at hex
        have := hex
        simp; omega
    · by_cases h0 : rh - rl = 0
      · exact .inl h0
      · right
        rcases h8 with h8 | ⟨b, q, rfl, h9, h10, h11⟩
        · omega
        · refine ⟨b, q + rl * sz, ?_, h9, h10, (h11.drop _).take _⟩
          have hne : ¬ (bif m'.isSome then rm else cap) = rl := by cases m'.isSome <;> simp <;> omega
          rw [if_neg hne]
          simp [Addr.add_lit]
  · rename_i nm off z len c he
    rw [he] at hv
    simp only [VRel] at hv
    obtain ⟨lo, b, h6, h7, hv, h8, h9⟩ := hv
    simp only [Option.bind_eq_bind, Option.bind_eq_some_iff] at hs
    obtain ⟨rm, b1, rh, b2, rl, b3, hs⟩ := hs
    cases hz : Nat.beq z sz <;> rw [hz] at hs
    · cases hs
    have hz' := Nat.eq_of_beq_eq_true hz
    subst hz'
    simp only [cond_true, Option.some.injEq, Prod.mk.injEq] at hs
    obtain ⟨rfl, rfl⟩ := hs
    obtain ⟨hrun, h3, h4, h5⟩ := bounds_rel h hl hh hm hno (Nat.le_refl _) h8 b1 b2 b3 true
    have hrm : (bif m'.isSome then rm else c) = rm := by
      cases m' with
      | none => simp [bndO] at b1; simp [b1]
      | some y => rfl
    rw [hrm] at hrun
    refine Good.of h (run_value (by rw [hv]; exact run_slice_s hu hsz hrun)) ?_
    simp only [VRel]
    refine ⟨lo, b, h6, h7, ?_, by omega, ?_⟩
    · by_cases hmr : rm = rl
      · subst hmr; simp
      · simp [hmr, beq_ne hmr, Addr.add_lit]
    · by_cases hmr : rm = rl
      · subst hmr; simp; exact Nat.le_trans (Nat.le_add_right _ _) h9
      · rw [beq_ne hmr]
        simp only [cond_false]
        have : rl * z + (rm - rl) * z = rm * z := by rw [← Nat.add_mul]; congr 1; omega
        have : rm * z ≤ c * z := Nat.mul_le_mul_right _ h5
        omega
  · rename_i nm off z len he
    rw [he] at hv
    simp only [VRel] at hv
    obtain ⟨lo, cap, h6, hv, h8, h9, h10⟩ := hv
    split at hs
    · simp only [Option.bind_eq_bind, Option.bind_eq_some_iff] at hs
      obtain ⟨rh, b2, rl, b3, hs⟩ := hs
      cases hz : Nat.beq z sz <;> rw [hz] at hs
      · cases hs
      have hz' := Nat.eq_of_beq_eq_true hz
      subst hz'
      obtain ⟨hrun, h3, h4, h5⟩ := bounds_rel h hl hh hm hno h8 (Nat.le_refl _) (show bndO len len (Option.map (fun y : Arg => y.ev E.G x.t) none) = some len from rfl) b2 b3 true
      simp only [Option.isSome_none, cond_false] at hrun
      simp only [cond_true] at hs
      have hres := run_slice_s (ad := lo.blk.map fun b => ⟨b, off, none⟩) hu hsz hrun
      cases h0 : Nat.beq rl 0 <;> rw [h0] at hs
      · cases hlt : Nat.blt rl rh <;> rw [hlt] at hs
        · simp only [cond_false, Option.some.injEq, Prod.mk.injEq] at hs
          obtain ⟨rfl, rfl⟩ := hs
          refine Good.of h (run_value (by rw [hv]; exact hres)) ?_
          simp only [VRel]
          have : ¬ rl < rh := fun hc => by rw [← Nat.blt_eq] at hc; rw [hc] at hlt; cases hlt
          have e : rh - rl = 0 := by omega
          exact ⟨_, _, by rw [e], Nat.zero_le _, (fun hh => by simp at hh), Or.inl trivial⟩
        · simp only [cond_false, cond_true, Option.some.injEq, Prod.mk.injEq] at hs
          obtain ⟨rfl, rfl⟩ := hs
          have hlt' : rl < rh := by simpa [Nat.blt_eq] using hlt
          refine Good.of h (run_value (by rw [hv]; exact hres)) ?_
          simp only [VRel]
          refine ⟨lo, cap - rl, h6, ?_, by omega, ?_, fun hn => by have := h10 hn; omega⟩
          · rw [if_neg (by omega)]
            cases lo.blk <;> simp [Addr.add_lit]
          · have : rl * z + (cap - rl) * z = cap * z := by rw [← Nat.add_mul]; congr 1; omega
            omega
      · have e0 := Nat.eq_of_beq_eq_true h0
        subst e0
        simp only [cond_true, Option.some.injEq, Prod.mk.injEq] at hs
        obtain ⟨rfl, rfl⟩ := hs
        refine Good.of h (run_value (by rw [hv]; exact hres)) ?_
        simp only [VRel]
        refine ⟨lo, cap, h6, ?_, by omega, h9, h10⟩
        cases lo.blk <;> simp [Addr.add_zero']
    · rename_i mr
      simp only [Option.bind_eq_bind, Option.bind_eq_some_iff] at hs
      obtain ⟨rm, b1, rh, b2, rl, b3, hs⟩ := hs
      cases hz : (Nat.beq z sz && Nat.blt 0 len) <;> rw [hz] at hs
      · cases hs
      simp only [Bool.and_eq_true] at hz
      have hz' := Nat.eq_of_beq_eq_true hz.1
      have hlen : 0 < len := by simpa [Nat.blt_eq] using hz.2
      subst hz'
      simp only [cond_true, Option.some.injEq, Prod.mk.injEq] at hs
      obtain ⟨rfl, rfl⟩ := hs
      obtain ⟨hrun, h3, h4, h5⟩ := bounds_rel h hl hh hm hno h8 (Nat.le_refl _) (show bndO len len (Option.map (fun y : Arg => y.ev E.G x.t) (some mr)) = some rm from b1) b2 b3 true
      simp only [Option.isSome_some, cond_true] at hrun
      have hres := run_slice_s (ad := lo.blk.map fun b => ⟨b, off, none⟩) hu hsz hrun
      refine Good.of h (run_value (by rw [hv]; exact hres)) ?_
      simp only [VRel]
      cases hb : lo.blk with
      | none => have := h10 hb; omega
      | some b =>
        refine ⟨lo, b, h6, hb, ?_, by omega, ?_⟩
        · by_cases hmr : rm = rl
          · subst hmr; simp
          · simp [hmr, beq_ne hmr, Addr.add_lit]
        · by_cases hmr : rm = rl
          · subst hmr; simp; exact Nat.le_trans (Nat.le_add_right _ _) (Nat.le_of_eq h9)
          · rw [beq_ne hmr]
            simp only [cond_false]
            have : rl * z + (rm - rl) * z = rm * z := by rw [← Nat.add_mul]; congr 1; omega
            have : rm * z ≤ cap * z := Nat.mul_le_mul_right _ (by omega)
            omega
  · cases hs

theorem run_slice_a {P : Program} {t e : TypeId} {n sz : Nat} (hu : P.underlying t = some (.array n e)) (hsz : szOf P e = some sz) {b off : Nat} {l h m : Option Value} {rl rh rm : Nat} {w : World}
    (hb : (Instr.sliceBounds false n n l h m).run P w = .ok (rl, rh, rm) w) :
    (Instr.sliceAt t (.pointer (some ⟨b, off, none⟩)) l h m).run P w = .ok (.slice (some (if rm = rl then ⟨b, off, none⟩ else ⟨b, off + rl * sz, none⟩)) (rh - rl) (rm - rl)) w := by
  simp only [Instr.sliceAt, Sem.run_bind, run_underlying hu, Result.andThen_ok, Instr.sureAddr, hb, run_sizeOf' hsz, Sem.run_pure, Addr.add_lit]

theorem op_slA (h : Rel E M0 w0 N μ M a w x) {t e : TypeId} {n sz : Nat} (hu : E.P.underlying t = some (.array n e)) (hsz : szOf E.P e = some sz) {o : Operand} {l hi m : Option Operand} {ar : Arg} {l' h' m' : Option Arg}
    (h2 : cArg o = some ar) (hl : cArgO l = some l') (hh : cArgO hi = some h') (hm : cArgO m = some m') (hno : ¬ (h' = none ∧ m' ≠ none)) {d : D} {x' : AS} (hs : step E.G (.slA n sz ar l' h' m') x = some (d, x')) :
    gd E M0 w0 N μ M w x a d x' w (do pure (.value (← Instr.sliceAt t (a.eval o) (l.map a.eval) (hi.map a.eval) (m.map a.eval)))) := by
  have hv := arg_rel h h2
  simp only [step_mv, st_mv, step_pick, st_pick, step_new, st_new, step_ld, st_ld, step_st, st_st, step_fa, st_fa, step_iaA, st_iaA, step_iaS, st_iaS, step_ixA, st_ixA, step_ixS, st_ixS, step_fld, st_fld, step_ext, st_ext, step_bin, st_bin, step_cmp, st_cmp, step_un, st_un, step_bld, st_bld, step_bsl, st_bsl, step_mks, st_mks, step_slS, st_slS, step_slV, st_slV, step_slA, st_slA, step_len, st_len, step_cap, st_cap, step_app, st_app, step_copy, st_copy, step_cvI, st_cvI, step_cvN, st_cvN, step_cvB, st_cvB, step_cvS, st_cvS, step_mkif, st_mkif, step_mkfn, st_mkfn, step_nilc, st_nilc, step_rng, st_rng, step_next, st_next, step_mm, st_mm, step_mkm, st_mkm, step_mlk, st_mlk, step_mup, st_mup, step_men, st_men, step_mst, st_mst, step_mln, st_mln, step_rgm, st_rgm, step_nxm, st_nxm, step_ent, st_ent, step_tas, st_tas, step_tai, st_tai, step_xl, st_xl, step_xa, st_xa, step_call, step_callv, step_inv, step_pan, step_dfr, step_rcv, Option.bind_eq_bind, Option.bind_eq_some_iff] at hs
  obtain ⟨rm, b1, rh, b2, rl, b3, hs⟩ := hs
  obtain ⟨hrun, h3, h4, h5⟩ := bounds_rel h hl hh hm hno (Nat.le_refl _) (Nat.le_refl _) b1 b2 b3 false
  have hrm : (bif m'.isSome then rm else n) = rm := by
    cases m' with
    | none => simp [bndO] at b1; simp [b1]
    | some y => rfl
  rw [hrm] at hrun
  split at hs
  · rename_i nm off he
    rw [he] at hv
    simp only [VRel] at hv
    obtain ⟨lo, b, h6, h7, hv⟩ := hv
    simp only [Option.bind_eq_some_iff] at hs
    obtain ⟨blk, hg, cs, hbc, hs⟩ := hs
    cases hcond : Nat.ble (off + rm * sz) cs.length <;> rw [hcond] at hs
    · cases hs
    have hle := Nat.le_of_ble_eq_true hcond
    simp only [cond_true, Option.some.injEq, Prod.mk.injEq] at hs
    obtain ⟨rfl, rfl⟩ := hs
    obtain ⟨l0, k1, k2, k3⟩ := blk_cells h h6 hg hbc
    rw [h6] at k1; cases k1
    obtain ⟨_, _, vs, ee, fz, _, _, k4, k5, _⟩ := k3 b h7
    refine Good.of h (run_value (by rw [hv]; exact run_slice_a hu hsz hrun)) ?_
    simp only [VRel]
    refine ⟨lo, b, h6, h7, ?_, by omega, ?_⟩
    · by_cases hmr : rm = rl
      · subst hmr; simp
      · simp [hmr, beq_ne hmr]
    · by_cases hmr : rm = rl
      · subst hmr; simp; omega
      · rw [beq_ne hmr]
        simp only [cond_false]
        have : rl * sz + (rm - rl) * sz = rm * sz := by rw [← Nat.add_mul]; congr 1; omega
        omega
  · rename_i cs off he
    rw [he] at hv
    simp only [VRel] at hv
    obtain ⟨b, q, hv, h6, h7, h8⟩ := hv
    cases hcond : Nat.ble (off + rh * sz) cs.length <;> rw [hcond] at hs
    · cases hs
    simp only [cond_true, Option.some.injEq, Prod.mk.injEq] at hs
    obtain ⟨rfl, rfl⟩ := hs
    refine Good.of h (run_value (by rw [hv]; exact run_slice_a hu hsz hrun)) ?_
    simp only [VRel]
    refine ⟨_, _, rfl, by omega, fun he => ?_, ?_⟩
    · have := Nat.eq_of_beq_eq_true he; omega
    · by_cases h0 : rh - rl = 0
      · exact .inl h0
      · refine .inr ⟨b, q + (off + rl * sz), ?_, h6, h7, (h8.drop _).take _⟩
        rw [if_neg (by omega)]
        simp [Nat.add_assoc]
  · cases hs

/-! Lengths, numbers. -/
theorem lenD_rel {P : Program} {t : TypeId} {ty : TypeId} {st : Bool} {d : D} {v : Value} {n : Nat} (hn : lenD st d = some n) (hv : VRel M w μ d v)
    (hu : if st then P.underlying t = some .string else ∃ e, P.underlying t = some (.slice e)) (w' : World) : (Builtin.len_ #[t] ty #[v]).run P w' = .ok (.int .i64 n) w' := by
  cases st
  · simp only [Bool.false_eq_true, if_false] at hu
    obtain ⟨e, hu⟩ := hu
    cases d <;> simp only [lenD, Option.some.injEq, reduceCtorEq] at hn
    all_goals subst hn; simp only [VRel] at hv
    · subst hv; simp [Builtin.len_, run_underlying hu, goInt]
    · obtain ⟨ad, cap, rfl, _⟩ := hv; simp [Builtin.len_, run_underlying hu, goInt]
    · obtain ⟨l, b, _, _, rfl, _⟩ := hv; simp [Builtin.len_, run_underlying hu, goInt]
    · obtain ⟨l, b, _, rfl, _⟩ := hv; simp [Builtin.len_, run_underlying hu, goInt]
  · simp only [if_true] at hu
    cases d <;> simp only [lenD, Option.some.injEq, reduceCtorEq] at hn
    subst hn
    simp only [VRel] at hv; subst hv
    simp only [Builtin.len_, run_underlying hu, Sem.run_bind, Result.andThen_ok, goInt, Sem.run_pure, List.getElem?_toArray, List.getElem?_cons_zero]
    simp
    rfl

end

end Zv
/- The operations of the model do what the abstract ones say: new blocks, stores, appends, copies. Conditions: none. -/
set_option linter.unusedSimpArgs false
set_option linter.unusedVariables false
namespace Zv
open Go

section
variable {E : Env} {M0 : Nat → Prop} {w0 : World} {N : Nat} {μ : Mu} {M : Nat → Prop} {a : Act} {w : World} {x : AS}

/-- A new block that holds these cells. -/
theorem new_fix (h : Rel E M0 w0 N μ M a w x) {cs : List D} {vs : Array Value} (hr : VRels M w μ cs vs.toList) {e : TypeId} {fz : Nat × Nat}
    (ht : Thaw vs.size fz) {ty : Nat} (hty : ∀ k, ty = k + 1 → e = k) {w' : World} (hw : w'.heap = w.heap.push (.cells vs e fz)) (he : Env0 w w' := by exact ⟨rfl, rfl⟩) :
    ∃ μ', Rel E M0 w0 N μ' M a w' (x.add (.fix ty cs)) ∧ Ext M w M w' ∧ μ' x.c = some ⟨some w.heap.size, cs.length⟩ ∧ muLe μ μ' ∧ Fr x.c x.s μ w (x.add (.fix ty cs)).c (x.add (.fix ty cs)).s μ' w' := by
  have hle := h.free_le (Nat.le_refl _) (some ⟨some w.heap.size, cs.length⟩)
  obtain ⟨hx, hr', hf⟩ := h.fresh x.c (Nat.le_refl _) (.fix ty cs) (.cells vs e fz) cs.length (x' := x.add (.fix ty cs)) hw (fun _ => rfl) (fun n => sget_sadd _ _ _ _) rfl rfl (fun hx hM =>
    ⟨⟨some w.heap.size, cs.length⟩, w.heap.size, vs, e, fz, by simp [muSet], rfl, rfl, hM, by rw [hw]; simp, ht, VRels.mono hx _ _ hle hr, hty⟩) he
  exact ⟨_, hr', hx, by simp [muSet], hle, hf⟩

/-- A new block that begins with these cells. -/
theorem new_grow (h : Rel E M0 w0 N μ M a w x) {cs : List D} {vs : Array Value} (hlen : cs.length ≤ vs.size) (hr : VRels M w μ cs (vs.toList.take cs.length)) {e : TypeId} {fz : Nat × Nat}
    (ht : Thaw vs.size fz) {ty : Nat} (hty : ∀ k, ty = k + 1 → e = k) {w' : World} (hw : w'.heap = w.heap.push (.cells vs e fz)) (he : Env0 w w' := by exact ⟨rfl, rfl⟩) :
    ∃ μ', Rel E M0 w0 N μ' M a w' (x.add (.grow ty cs)) ∧ Ext M w M w' ∧ μ' x.c = some ⟨some w.heap.size, vs.size⟩ ∧ muLe μ μ' ∧ Fr x.c x.s μ w (x.add (.grow ty cs)).c (x.add (.grow ty cs)).s μ' w' := by
  have hle := h.free_le (Nat.le_refl _) (some ⟨some w.heap.size, vs.size⟩)
  obtain ⟨hx, hr', hf⟩ := h.fresh x.c (Nat.le_refl _) (.grow ty cs) (.cells vs e fz) vs.size (x' := x.add (.grow ty cs)) hw (fun _ => rfl) (fun n => sget_sadd _ _ _ _) rfl rfl (fun hx hM =>
    ⟨⟨some w.heap.size, vs.size⟩, by simp [muSet], .inr ⟨w.heap.size, vs, e, fz, rfl, hM, by rw [hw]; simp, ht, rfl, hlen, VRels.mono hx _ _ hle hr, hty⟩⟩) he
  exact ⟨_, hr', hx, by simp [muSet], hle, hf⟩

theorem thaw0 (n : Nat) : Thaw n (0, 0) := fun o _ h => by have := h.2; simp at this

theorem op_new (h : Rel E M0 w0 N μ M a w x) {ar : Arg} {v : Value} (hv : VRel M w μ (ar.ev E.G x.t) v) {e : TypeId} {d : D} {x' : AS}
    (hs : step E.G (.new (e + 1) ar) x = some (d, x')) {s : Sem Value} (hrun : s.run E.P w = .ok (.pointer (some ⟨w.heap.size, 0, none⟩)) { w with heap := w.heap.push (.cells v.cells e) }) :
    gd E M0 w0 N μ M w x a d x' w (do pure (.value (← s))) := by
  simp only [step_mv, st_mv, step_pick, st_pick, step_new, st_new, step_ld, st_ld, step_st, st_st, step_fa, st_fa, step_iaA, st_iaA, step_iaS, st_iaS, step_ixA, st_ixA, step_ixS, st_ixS, step_fld, st_fld, step_ext, st_ext, step_bin, st_bin, step_cmp, st_cmp, step_un, st_un, step_bld, st_bld, step_bsl, st_bsl, step_mks, st_mks, step_slS, st_slS, step_slV, st_slV, step_slA, st_slA, step_len, st_len, step_cap, st_cap, step_app, st_app, step_copy, st_copy, step_cvI, st_cvI, step_cvN, st_cvN, step_cvB, st_cvB, step_cvS, st_cvS, step_mkif, st_mkif, step_mkfn, st_mkfn, step_nilc, st_nilc, step_rng, st_rng, step_next, st_next, step_mm, st_mm, step_mkm, st_mkm, step_mlk, st_mlk, step_mup, st_mup, step_men, st_men, step_mst, st_mst, step_mln, st_mln, step_rgm, st_rgm, step_nxm, st_nxm, step_ent, st_ent, step_tas, st_tas, step_tai, st_tai, step_xl, st_xl, step_xa, st_xa, step_call, step_callv, step_inv, step_pan, step_dfr, step_rcv] at hs
  split at hs
  · rename_i cs hcs
    cases hs
    obtain ⟨μ', hr, hx, hm, hle, hf⟩ := new_fix h (cells_rel hcs hv) (thaw0 _) (ty := e + 1) (fun k hk => by first | exact Nat.add_right_cancel hk | exact absurd hk.symm (Nat.succ_ne_zero k)) (w' := { w with heap := w.heap.push (.cells v.cells e) }) rfl
    refine ⟨_, _, μ', .inl (run_value hrun), ?_, hr, hf⟩
    simp only [VRel]
    exact ⟨_, _, hm, rfl, rfl⟩
  · cases hs

/-! Stores. -/
theorem run_storeCells_rel (P : Program) {b : Nat} {e : TypeId} {fz : Nat × Nat} (o : Nat) : ∀ (us : List Value) (i : Nat) (w : World) (cur : Array Value), w.heap[b]? = some (.cells cur e fz) → Thaw cur.size fz →
    o + i + us.length ≤ cur.size → (∀ v ∈ us, v.oneCell' = true) →
    ∃ w' cur', (storeCells ⟨b, o, none⟩ us i).run P w = .ok () w' ∧ w'.heap.size = w.heap.size ∧ (∀ k, k ≠ b → w'.heap[k]? = w.heap[k]?) ∧ w'.heap[b]? = some (.cells cur' e fz) ∧ cur'.size = cur.size ∧
      cur'.toList = setAt cur.toList (o + i) us ∧ Env0 w w'
  | [], i, w, cur, hb, _, _, _ => ⟨w, cur, by simp [storeCells], rfl, fun _ _ => rfl, hb, rfl, rfl, rfl, rfl⟩
  | u :: us, i, w, cur, hb, ht, hl, h1 => by
    simp only [List.length_cons] at hl
    have hcell : ∃ c, w.cell? ⟨b, o + i, none⟩ = some c := by
      refine ⟨cur[o + i]'(by omega), ?_⟩
      simp only [World.cell?, hb, Option.isSome_none, Bool.false_eq_true, if_false]
      exact Array.getElem?_eq_getElem (by omega)
    obtain ⟨c, hc⟩ := hcell
    have hfz : w.frozen? ⟨b, o + i, none⟩ = false := by
      simp only [World.frozen?, hb]
      have := ht (o + i) (by omega)
      simp only [Bool.and_eq_false_iff, decide_eq_false_iff_not]
      by_cases h2 : fz.1 ≤ o + i
      · exact .inr fun h3 => this ⟨h2, h3⟩
      · exact .inl h2
    have hstep : (store ⟨b, o + i, none⟩ u).run P w = .ok () (w.setCell ⟨b, o + i, none⟩ u) := by
      rw [run_store P w _ u .plain (h1 u (by simp)), hc]
      simp [hfz]
    have hb' : b < w.heap.size := by
      rcases Nat.lt_or_ge b w.heap.size with h | h
      · exact h
      · rw [Array.getElem?_eq_none h] at hb; cases hb
    have hset : (w.setCell ⟨b, o + i, none⟩ u).heap[b]? = some (.cells (cur.setIfInBounds (o + i) u) e fz) := by
      simp only [World.setCell, Array.getElem?_modify, if_true, hb, Option.map_some, Option.isSome_none, Bool.false_eq_true, if_false]
    obtain ⟨w', cur', hrun, hs1, hs2, hs3, hs4, hs5, hs6⟩ := run_storeCells_rel P o us (i + 1) (w.setCell ⟨b, o + i, none⟩ u) (cur.setIfInBounds (o + i) u) hset (by simpa using ht) (by simp; omega)
      (fun v hv => h1 v (by simp [hv]))
    refine ⟨w', cur', ?_, ?_, fun k hk => ?_, hs3, by simpa using hs4, ?_, hs6⟩
    · simp only [storeCells, Addr.add_lit, Sem.run_bind, hstep, Result.andThen_ok, hrun]
    · rw [hs1]; simp [World.setCell]
    · rw [hs2 k hk]
      simp only [World.setCell, Array.getElem?_modify]
      rw [if_neg (fun e => hk e.symm)]
    · rw [hs5]
      simp [setAt, Nat.add_assoc]

theorem oneCell_of {d : D} {v : Value} (hd : isAg d = false) (h : VRel M w μ d v) : v.oneCell' = true := by
  cases d <;> simp only [isAg, reduceCtorEq] at hd
  all_goals simp only [VRel] at h
  all_goals first
    | subst h
    | (obtain ⟨_, rfl, _⟩ := h)
    | (obtain ⟨_, _, rfl, _⟩ := h)
    | (obtain ⟨_, _, _, rfl, _⟩ := h)
    | (obtain ⟨_, _, _, _, rfl⟩ := h)
    | (obtain ⟨_, _, _, _, rfl, _⟩ := h)
  all_goals rfl

theorem oneCells_of : ∀ {ds : List D} {us : List Value}, ds.any isAg = false → VRels M w μ ds us → ∀ v ∈ us, v.oneCell' = true
  | [], us, _, h => by simp only [VRels] at h; subst h; simp
  | d :: ds, us, hd, h => by
    simp only [VRels] at h
    obtain ⟨v, r, rfl, h1, h2⟩ := h
    simp only [List.any_cons, Bool.or_eq_false_iff] at hd
    intro u hu
    rcases List.mem_cons.1 hu with rfl | hu
    · exact oneCell_of hd.1 h1
    · exact oneCells_of hd.2 h2 u hu

theorem setAt_take {α : Type} : ∀ (us vs : List α) (off n : Nat), off + us.length ≤ n → (setAt vs off us).take n = setAt (vs.take n) off us
  | [], vs, off, n, _ => rfl
  | u :: us, vs, off, n, h => by
    simp only [List.length_cons] at h
    simp only [setAt]
    rw [setAt_take us _ _ n (by omega), List.take_set]

/-- Cells are stored into a block of our own. -/
theorem write_rel (h : Rel E M0 w0 N μ M a w x) {nm off : Nat} {blk blk' : Blk} {ds : List D} (hg : sget x.s nm = some blk) (hst : stB blk off ds = some blk') {l : Loc} {b : Nat} (hl : μ nm = some l) (hlb : l.blk = some b)
    {us : List Value} (hr : VRels M w μ ds us) :
    ∃ w', (storeCells ⟨b, off, none⟩ us).run E.P w = .ok () w' ∧ Ext M w M w' ∧ Rel E M0 w0 N μ M a w' { x with s := sset x.s nm blk' } ∧ Fr x.c x.s μ w x.c (sset x.s nm blk') μ w' := by
  unfold stB at hst
  have hag : ds.any isAg = false := by
    cases hag : ds.any isAg
    · rfl
    · rw [hag] at hst; cases hst
  rw [hag] at hst
  have hone := oneCells_of hag hr
  have hlen := hr.length
  simp only [cond_false] at hst
  have hss : ∀ n, sget (sset x.s nm blk') n = if n = nm then some blk' else sget x.s n := by
    intro n; rw [sget_sset]
  have hB := h.st nm blk l hl hg
  have hlive : (sget x.s nm).isSome = true := by rw [hg]; rfl
  split at hst
  · rename_i ty cs
    obtain ⟨l', b', vs, e, fz, h1, h2, h3, h4, h5, h6, h7, h8⟩ := hB
    rw [hl] at h1; cases h1; rw [hlb] at h2; cases h2
    cases hle : Nat.ble (off + ds.length) cs.length <;> rw [hle] at hst
    · cases hst
    have hle' := Nat.le_of_ble_eq_true hle
    simp only [cond_true, Option.some.injEq] at hst
    subst hst
    have hcl := h7.length
    simp only [Array.length_toList] at hcl
    obtain ⟨w', cur', hrun, g1, g2, g3, g4, g5, ge⟩ := run_storeCells_rel E.P off us 0 w vs h5 h6 (by omega) hone
    obtain ⟨hx, hR, hf⟩ := h.write nm (.fix ty (setAt cs off ds)) l b (x' := { x with s := sset x.s nm (.fix ty (setAt cs off ds)) }) hl hlb hlive g1 g2 (fun n => rfl) hss rfl rfl (fun hx =>
      ⟨l, b, cur', e, fz, hl, hlb, by rw [setAt_length]; exact h3, h4, g3, by rw [g4]; exact h6, by
        rw [g5, Nat.add_zero]; exact VRels.setAt off (VRels.mono hx _ _ (muLe.refl _) h7) (VRels.mono hx _ _ (muLe.refl _) hr), h8⟩) ge
    exact ⟨w', hrun, hx, hR, hf⟩
  · rename_i ty cs
    obtain ⟨l', h1, hh⟩ := hB
    rw [hl] at h1; cases h1
    rcases hh with ⟨h2, _⟩ | ⟨b', vs, e, fz, h2, h4, h5, h6, h7, h8, h9, h10⟩
    · rw [hlb] at h2; cases h2
    rw [hlb] at h2; cases h2
    cases hle : Nat.ble (off + ds.length) cs.length <;> rw [hle] at hst
    · cases hst
    have hle' := Nat.le_of_ble_eq_true hle
    simp only [cond_true, Option.some.injEq] at hst
    subst hst
    obtain ⟨w', cur', hrun, g1, g2, g3, g4, g5, ge⟩ := run_storeCells_rel E.P off us 0 w vs h5 h6 (by omega) hone
    obtain ⟨hx, hR, hf⟩ := h.write nm (.grow ty (setAt cs off ds)) l b (x' := { x with s := sset x.s nm (.grow ty (setAt cs off ds)) }) hl hlb hlive g1 g2 (fun n => rfl) hss rfl rfl (fun hx =>
      ⟨l, hl, .inr ⟨b, cur', e, fz, hlb, h4, g3, by rw [g4]; exact h6, by rw [g4]; exact h7, by rw [setAt_length]; exact h8, by
        rw [g5, Nat.add_zero, setAt_length, setAt_take _ _ _ _ (by omega)]
        exact VRels.setAt off (VRels.mono hx _ _ (muLe.refl _) h9) (VRels.mono hx _ _ (muLe.refl _) hr), h10⟩⟩) ge
    exact ⟨w', hrun, hx, hR, hf⟩
  · cases hst

theorem op_st (h : Rel E M0 w0 N μ M a w x) {t : TypeId} {n : Nat} (hsz : szOf E.P t = some n) {o p : Operand} {ar pr : Arg} (h2 : cArg o = some ar) (h3 : cArg p = some pr) {d : D} {x' : AS}
    (hs : step E.G (.st n ar pr) x = some (d, x')) : gd E M0 w0 N μ M w x a d x' w (do Instr.storeAt t (a.eval o) (a.eval p); pure .skip) := by
  have hv := arg_rel h h2
  have hp := arg_rel h h3
  simp only [step_mv, st_mv, step_pick, st_pick, step_new, st_new, step_ld, st_ld, step_st, st_st, step_fa, st_fa, step_iaA, st_iaA, step_iaS, st_iaS, step_ixA, st_ixA, step_ixS, st_ixS, step_fld, st_fld, step_ext, st_ext, step_bin, st_bin, step_cmp, st_cmp, step_un, st_un, step_bld, st_bld, step_bsl, st_bsl, step_mks, st_mks, step_slS, st_slS, step_slV, st_slV, step_slA, st_slA, step_len, st_len, step_cap, st_cap, step_app, st_app, step_copy, st_copy, step_cvI, st_cvI, step_cvN, st_cvN, step_cvB, st_cvB, step_cvS, st_cvS, step_mkif, st_mkif, step_mkfn, st_mkfn, step_nilc, st_nilc, step_rng, st_rng, step_next, st_next, step_mm, st_mm, step_mkm, st_mkm, step_mlk, st_mlk, step_mup, st_mup, step_men, st_men, step_mst, st_mst, step_mln, st_mln, step_rgm, st_rgm, step_nxm, st_nxm, step_ent, st_ent, step_tas, st_tas, step_tai, st_tai, step_xl, st_xl, step_xa, st_xa, step_call, step_callv, step_inv, step_pan, step_dfr, step_rcv] at hs
  split at hs
  · rename_i nm off he
    rw [he] at hv
    simp only [VRel] at hv
    obtain ⟨l, b, h4, h5, hv⟩ := hv
    simp only [Option.bind_eq_bind, Option.bind_eq_some_iff] at hs
    obtain ⟨blk, hg, ds, hds, hs⟩ := hs
    cases hl : Nat.beq ds.length n <;> rw [hl] at hs
    · cases hs
    have hl' := Nat.eq_of_beq_eq_true hl
    simp only [cond_true, Option.map_eq_some_iff] at hs
    obtain ⟨blk', hst, he⟩ := hs
    cases he
    have hcells := cells_rel hds hp
    obtain ⟨w', hrun, hx, hR, hf⟩ := write_rel h hg hst h4 h5 hcells
    have hlen := hcells.length
    simp only [Array.length_toList] at hlen
    refine ⟨undef, w', μ, .inr ⟨?_, rfl⟩, by simp only [VRel], hR, hf⟩
    have hsz' : ¬ (a.eval p).cells.size ≠ n := by omega
    simp only [Instr.storeAt, hv, Instr.sureAddr, Sem.run_bind, Sem.run_pure, Result.andThen_ok, storeVar, run_sizeOf' hsz, hsz', if_false, hrun]
  · cases hs

/-! Literals of slices; 'make'. -/
theorem rep_get {α : Type} (z : List α) : ∀ (n i : Nat), i < n * z.length → ((List.replicate n z).flatten)[i]? = z[i % z.length]?
  | 0, i, h => by simp at h
  | n + 1, i, h => by
    rw [List.replicate_succ, List.flatten_cons]
    by_cases hi : i < z.length
    · rw [List.getElem?_append_left hi, Nat.mod_eq_of_lt hi]
    · rw [List.getElem?_append_right (by omega), rep_get z n (i - z.length) (by rw [Nat.add_mul, Nat.one_mul] at h; omega)]
      have hm : i % z.length = (i - z.length) % z.length := Nat.mod_eq_sub_mod (by omega)
      rw [hm]

theorem rep_length {α : Type} (z : List α) (n : Nat) : ((List.replicate n z).flatten).length = n * z.length := by simp

theorem zero_rep {zs : List D} {z : Array Value} (hr : VRels M w μ zs z.toList) (n k : Nat) (hk : zs.length = k) (c : Nat) (hc : c = n * k) :
    VRels M w μ (rep n zs) ((Array.range c).map fun i => z[i % z.size]!).toList := by
  have hl := hr.length
  simp only [Array.length_toList] at hl
  subst hc; subst hk
  refine VRels.mk (by simp [rep]) fun i d v hd hv => ?_
  have hi : i < n * zs.length := by
    rw [List.getElem?_eq_some_iff] at hd
    obtain ⟨h, _⟩ := hd
    simpa [rep] using h
  unfold rep at hd
  rw [rep_get zs n i hi] at hd
  have hpos : 0 < zs.length := by
    rcases Nat.eq_zero_or_pos zs.length with h0 | h0
    · rw [h0] at hi; simp at hi
    · exact h0
  have hm : i % zs.length < z.size := by rw [hl]; exact Nat.mod_lt _ hpos
  have hv' : v = z[i % zs.length]'hm := by
    simp only [Array.toList_map, List.getElem?_map, Option.map_eq_some_iff] at hv
    obtain ⟨j, hj, rfl⟩ := hv
    have : j = i := by
      have hj' : (List.range (n * zs.length))[i]? = some j := by simpa using hj
      rw [List.getElem?_eq_some_iff] at hj'
      obtain ⟨_, hj'⟩ := hj'
      simpa using hj'.symm
    subst this
    rw [getElem!_pos z (j % z.size) (by rw [hl]; rw [hl] at hm; exact hm)]
    simp only [hl]
  refine hr.at hd ?_
  rw [hv']
  simp [hm]

theorem op_bsl (h : Rel E M0 w0 N μ M a w x) {t e : TypeId} {len s : Nat} {ps : Array (Nat × Operand)} {zd : D} {zc : List D} (hu : E.P.underlying t = some (.slice e)) (hsz : szOf E.P e = some s)
    (hz : zeroOf E.P e = some zd) (hzc : zd.cells? = some zc) (hle : Nat.ble (len * s) 16777216 = true) (hzl : Nat.beq zc.length s = true) {l : List (Nat × Nat × Arg)}
    (hl : ps.toList.mapM (fun (p : Nat × Operand) => do
        let a ← cArg p.2
        some (p.1 * s, s, a)) = some l) {d : D} {x' : AS}
    (hs : step E.G (.bsl len s (repAt len s zc) l) x = some (d, x')) : gd E M0 w0 N μ M w x a d x' w (do pure (.value (← Instr.buildSlice t len (ps.map fun (i, x) => (i, a.eval x))))) := by
  simp only [step_mv, st_mv, step_pick, st_pick, step_new, st_new, step_ld, st_ld, step_st, st_st, step_fa, st_fa, step_iaA, st_iaA, step_iaS, st_iaS, step_ixA, st_ixA, step_ixS, st_ixS, step_fld, st_fld, step_ext, st_ext, step_bin, st_bin, step_cmp, st_cmp, step_un, st_un, step_bld, st_bld, step_bsl, st_bsl, step_mks, st_mks, step_slS, st_slS, step_slV, st_slV, step_slA, st_slA, step_len, st_len, step_cap, st_cap, step_app, st_app, step_copy, st_copy, step_cvI, st_cvI, step_cvN, st_cvN, step_cvB, st_cvB, step_cvS, st_cvS, step_mkif, st_mkif, step_mkfn, st_mkfn, step_nilc, st_nilc, step_rng, st_rng, step_next, st_next, step_mm, st_mm, step_mkm, st_mkm, step_mlk, st_mlk, step_mup, st_mup, step_men, st_men, step_mst, st_mst, step_mln, st_mln, step_rgm, st_rgm, step_nxm, st_nxm, step_ent, st_ent, step_tas, st_tas, step_tai, st_tai, step_xl, st_xl, step_xa, st_xa, step_call, step_callv, step_inv, step_pan, step_dfr, step_rcv, Option.bind_eq_bind, Option.bind_eq_some_iff, Option.map_eq_some_iff] at hs
  obtain ⟨out, ho, he⟩ := hs
  cases he
  have hzl' := Nat.eq_of_beq_eq_true hzl
  have hle' := Nat.le_of_ble_eq_true hle
  simp only [zeroOf, Option.bind_eq_bind, Option.bind_eq_some_iff] at hz
  obtain ⟨i, hi, v, hv, hz⟩ := hz
  have hzr := cells_rel hzc (ofV_rel (M := M) (w := w) (μ := μ) _ _ _ hz)
  let zs : Array Value := if len * s = 0 then #[] else v.cells
  have hrep : VRels M w μ (repAt len s zc) ((Array.range (len * s)).map fun i => zs[i % zs.size]!).toList := by
    unfold repAt
    by_cases h0 : len * s = 0
    · rw [h0]; simp; exact VRels.nil
    · rw [beq_ne h0]
      have : zs = v.cells := if_neg h0
      rw [this]
      exact zero_rep hzr len s hzl' _ rfl
  obtain ⟨arr, hfill, hr⟩ := fill_rel h (fun i => some (i * s, s)) _ (fun p q hq => by
    simp only [Option.bind_eq_bind, Option.bind_eq_some_iff, Option.some.injEq] at hq
    obtain ⟨ar, har, rfl⟩ := hq
    exact ⟨rfl, har⟩) ps.toList l hl _ out _ hrep ho
  obtain ⟨μ', hR, hx, hm, hmle, hf⟩ := new_fix h hr (thaw0 _) (e := e) (ty := 0) (fun k hk => by first | exact Nat.add_right_cancel hk | exact absurd hk.symm (Nat.succ_ne_zero k)) (w' := { w with heap := w.heap.push (.cells arr e) }) rfl
  have hol : out.length = len * s := by
    have place_len : ∀ (l : List (Nat × Nat × D)) (cs out : List D), place cs l = some out → out.length = cs.length := by
      intro l
      induction l with
      | nil => intro cs out h; simp [place] at h; subst h; rfl
      | cons p l ih =>
        intro cs out h
        obtain ⟨o1, n1, d1⟩ := p
        simp only [place] at h
        split at h
        · rename_i c hc
          cases hcond : (Nat.beq c.length n1 && Nat.ble (o1 + n1) cs.length) <;> rw [hcond] at h
          · cases h
          · rw [ih _ _ h, setAt_length]
        · cases h
    rw [place_len _ _ _ ho]
    unfold repAt
    by_cases h0 : len * s = 0
    · rw [h0]; simp
    · rw [beq_ne h0]; simp [rep, hzl']
  refine ⟨.slice (some ⟨w.heap.size, 0, none⟩) len len, _, μ', .inl (run_value ?_), ?_, hR, hf⟩
  · have hp : (ps.map fun (p : Nat × Operand) => (p.1, a.eval p.2)).toList = ps.toList.map fun p => (p.1, a.eval p.2) := by simp
    have hgt : ¬ len * s > 2 ^ 24 := by omega
    simp only [Instr.buildSlice, Sem.run_bind, run_underlying hu, Result.andThen_ok, run_sizeOf' hsz, hgt, if_false]
    rw [show (ps.map fun (x : Nat × Operand) => match x with | (i, x) => (i, a.eval x)) = ps.map fun p => (p.1, a.eval p.2) from rfl, hp]
    by_cases h0 : len * s = 0
    · have hz0 : zs = #[] := if_pos h0
      rw [hz0] at hfill
      simp only [h0, if_true, Sem.run_bind, Sem.run_pure, Result.andThen_ok] at hfill ⊢
      rw [hfill]
      simp [newRow]
    · have hz0 : zs = v.cells := if_neg h0
      rw [hz0] at hfill
      simp only [h0, if_false, Sem.run_bind, Sem.run_pure, Result.andThen_ok, zeroValue, run_typeInfo' hi, hv]
      rw [hfill]
      simp [newRow]
  · simp only [VRel]
    exact ⟨_, _, hm, rfl, rfl, Nat.le_refl _, by simp [hol]⟩

theorem op_mks (h : Rel E M0 w0 N μ M a w x) {t e : TypeId} {i : TypeInfo} {zd : D} {zc : List D} (hu : E.P.underlying t = some (.slice e)) (hi : E.P.info? e = some i)
    (hz : zeroOf E.P e = some zd) (hzc : zd.cells? = some zc) (hzl : Nat.beq zc.length i.size = true) {o p : Operand} {lr cr : Arg} (h2 : cArg o = some lr) (h3 : cArg p = some cr) {d : D} {x' : AS}
    (hs : step E.G (.mks i.size i.bytes zc lr cr) x = some (d, x')) : gd E M0 w0 N μ M w x a d x' w (do pure (.value (← Instr.makeSlice t (a.eval o) (a.eval p)))) := by
  have hv := arg_rel h h2
  have hp := arg_rel h h3
  simp only [step_mv, st_mv, step_pick, st_pick, step_new, st_new, step_ld, st_ld, step_st, st_st, step_fa, st_fa, step_iaA, st_iaA, step_iaS, st_iaS, step_ixA, st_ixA, step_ixS, st_ixS, step_fld, st_fld, step_ext, st_ext, step_bin, st_bin, step_cmp, st_cmp, step_un, st_un, step_bld, st_bld, step_bsl, st_bsl, step_mks, st_mks, step_slS, st_slS, step_slV, st_slV, step_slA, st_slA, step_len, st_len, step_cap, st_cap, step_app, st_app, step_copy, st_copy, step_cvI, st_cvI, step_cvN, st_cvN, step_cvB, st_cvB, step_cvS, st_cvS, step_mkif, st_mkif, step_mkfn, st_mkfn, step_nilc, st_nilc, step_rng, st_rng, step_next, st_next, step_mm, st_mm, step_mkm, st_mkm, step_mlk, st_mlk, step_mup, st_mup, step_men, st_men, step_mst, st_mst, step_mln, st_mln, step_rgm, st_rgm, step_nxm, st_nxm, step_ent, st_ent, step_tas, st_tas, step_tai, st_tai, step_xl, st_xl, step_xa, st_xa, step_call, step_callv, step_inv, step_pan, step_dfr, step_rcv] at hs
  split at hs
  · rename_i k l j c he1 he2
    rw [he1] at hv; rw [he2] at hp
    simp only [VRel] at hv hp
    split at hs
    · rename_i hcond
      obtain ⟨c1, c2, c3, c4⟩ := hcond
      cases hs
      have hzl' := Nat.eq_of_beq_eq_true hzl
      simp only [zeroOf, Option.bind_eq_bind, Option.bind_eq_some_iff] at hz
      obtain ⟨i', hi', v, hv', hz⟩ := hz
      rw [hi] at hi'; cases hi'
      have hzr := cells_rel hzc (ofV_rel (M := M) (w := w) (μ := μ) _ _ _ hz)
      have wl : IntKind.i64.wrap l = l := by rw [← wrapD_eq]; exact wrapD_fits (by simp only [loK]; omega) (by simp only [hiK]; omega)
      have wc : IntKind.i64.wrap c = c := by rw [← wrapD_eq]; exact wrapD_fits (by simp only [loK]; omega) (by simp only [hiK]; omega)
      let n := c.toNat * i.size
      let zs : Array Value := if n = 0 then #[] else v.cells
      have hrep : VRels M w μ (rep c.toNat zc) ((Array.range n).map fun k => zs[k % zs.size]!).toList := by
        by_cases h0 : n = 0
        · have e0 : (rep c.toNat zc) = [] := by
            apply List.eq_nil_of_length_eq_zero
            simp [rep, hzl']
            simpa [n] using h0
          rw [h0, e0]; simp; exact VRels.nil
        · have : zs = v.cells := if_neg h0
          rw [this]
          exact zero_rep hzr c.toNat i.size hzl' n rfl
      obtain ⟨μ', hR, hx, hm, hmle, hf⟩ := new_fix h hrep (thaw0 _) (e := e) (ty := 0) (fun k hk => by first | exact Nat.add_right_cancel hk | exact absurd hk.symm (Nat.succ_ne_zero k)) (w' := { w with heap := w.heap.push (.cells ((Array.range n).map fun k => zs[k % zs.size]!) e) }) rfl
      refine ⟨.slice (some ⟨w.heap.size, 0, none⟩) l.toNat c.toNat, _, μ', .inl (run_value ?_), ?_, hR, hf⟩
      · have hno : ((decide (c < 0) || decide ((i.bytes : Int) * c > 2 ^ 48)) || decide (l < 0) || decide (l > c)) = false := by
          simp only [Bool.or_eq_false_iff, decide_eq_false_iff_not]
          refine ⟨⟨⟨by omega, by omega⟩, by omega⟩, by omega⟩
        simp only [Instr.makeSlice, hv, hp, asInt, asIntOf, Sem.run_bind, run_underlying hu, Result.andThen_ok, Sem.run_pure, run_typeInfo' hi, wl, wc]
        rw [if_neg (by rw [hno]; simp)]
        simp only [Sem.run_bind, Result.andThen_ok, run_askRoom, run_sizeOf' (show szOf E.P e = some i.size by simp [szOf, hi]), Sem.run_pure]
        rw [show c.toNat * i.size = n from rfl]
        by_cases h0 : n = 0
        · have hz0 : zs = #[] := if_pos h0
          rw [hz0]
          simp [h0, newRow]
        · have hz0 : zs = v.cells := if_neg h0
          rw [hz0]
          simp [h0, newRow, zeroValue, run_typeInfo' hi, hv']
      · simp only [VRel]
        exact ⟨_, _, hm, rfl, rfl, by omega, by simp [rep, hzl']⟩
    · cases hs
  · cases hs

end

end Zv
