/- The operations of the model do what the abstract ones say: values, loads, addresses, numbers. Conditions: none. -/
import Derived.Test.YtegkflfbpidipaaGreatDoorCA
import Derived.Laws.Strings
import Derived.Laws.StructEq
import Derived.BigFrame
set_option linter.unusedSimpArgs false
set_option linter.unusedVariables false
namespace Zv
open Go

def Good (E : Env) (M0 : Nat → Prop) (w0 : World) (N : Nat) (μ : Mu) (M : Nat → Prop) (w : World) (x : AS) (a : Act) (d : D) (x' : AS) (r : Result Next) : Prop :=
  ∃ v w' μ', (r = .ok (.value v) w' ∨ (r = .ok .skip w' ∧ v = undef)) ∧ VRel M w' μ' d v ∧ Rel E M0 w0 N μ' M a w' x' ∧ Fr x.c x.s μ w x'.c x'.s μ' w'

theorem mapM_rel {α β : Type} {f : α → Option β} : ∀ {l : List α} {r : List β}, l.mapM f = some r → r.length = l.length ∧ ∀ (i : Nat) (x : α) (y : β), l[i]? = some x → r[i]? = some y → f x = some y
  | [], r, h => by
    simp at h; subst h; exact ⟨rfl, fun i x y h1 _ => by simp at h1⟩
  | x :: l, r, h => by
    simp only [List.mapM_cons] at h
    cases hx : f x with
    | none => rw [hx] at h; cases h
    | some y =>
      rw [hx] at h
      cases hl : l.mapM f with
      | none => rw [hl] at h; cases h
      | some ys =>
        rw [hl] at h
        cases h
        obtain ⟨h1, h2⟩ := mapM_rel hl
        refine ⟨by simp [h1], fun i a b ha hb => ?_⟩
        cases i with
        | zero => simp at ha hb; subst ha; subst hb; exact hx
        | succ i => simp at ha hb; exact h2 i a b ha hb

section
variable {E : Env} {M0 : Nat → Prop} {w0 : World} {N : Nat} {μ : Mu} {M : Nat → Prop} {a : Act} {w : World} {x : AS}

theorem Good.of (h : Rel E M0 w0 N μ M a w x) {r : Result Next} {d : D} {v : Value} (hr : r = .ok (.value v) w) (hv : VRel M w μ d v) : Good E M0 w0 N μ M w x a d x r :=
  ⟨v, w, μ, .inl hr, hv, h, Fr.refl _ _ _ _⟩

theorem ofV_rel : ∀ (n : Nat) (v : Value) (d : D), ofV n v = some d → VRel M w μ d v
  | 0, v, d, h => by simp [ofV] at h
  | n + 1, .bool b, d, h => by simp [ofV] at h; subst h; simp only [VRel]
  | n + 1, .int k m, d, h => by simp [ofV] at h; subst h; simp only [VRel]
  | n + 1, .string s, d, h => by
    simp [ofV] at h; subst h; simp only [VRel]
  | n + 1, .agg cs, d, h => by
    simp only [ofV, Option.map_eq_some_iff] at h
    obtain ⟨ds, h, rfl⟩ := h
    obtain ⟨h1, h2⟩ := mapM_rel h
    simp only [VRel]
    exact ⟨cs, rfl, VRels.mk (by simpa using h1.symm) fun i dd v hd hv => ofV_rel n v dd (h2 i v dd hv hd)⟩
  | n + 1, .tuple cs, d, h => by
    simp only [ofV, Option.map_eq_some_iff] at h
    obtain ⟨ds, h, rfl⟩ := h
    obtain ⟨h1, h2⟩ := mapM_rel h
    simp only [VRel]
    exact ⟨cs, rfl, VRels.mk (by simpa using h1.symm) fun i dd v hd hv => ofV_rel n v dd (h2 i v dd hv hd)⟩
  | n + 1, .slice none 0 0, d, h => by simp [ofV] at h; subst h; simp only [VRel]
  | n + 1, .slice none 0 (_ + 1), d, h => by simp [ofV] at h
  | n + 1, .slice none (_ + 1) _, d, h => by simp [ofV] at h
  | n + 1, .slice (some _) _ _, d, h => by simp [ofV] at h
  | n + 1, .pointer none, d, h => by simp [ofV] at h; subst h; simp only [VRel]
  | n + 1, .pointer (some _), d, h => by simp [ofV] at h
  | n + 1, .map none, d, h => by simp [ofV] at h; subst h; simp only [VRel]
  | n + 1, .map (some _), d, h => by simp [ofV] at h
  | n + 1, .nilIface, d, h => by simp [ofV] at h; subst h; simp only [VRel]
  | n + 1, .nilFunc, d, h => by simp [ofV] at h; subst h; simp only [VRel]
  | n + 1, .iface t v, d, h => by
    simp only [ofV, Option.map_eq_some_iff] at h
    obtain ⟨d', h, rfl⟩ := h
    simp only [VRel]
    exact ⟨v, rfl, ofV_rel n v d' h⟩
  | n + 1, .float .., d, h => by simp [ofV] at h
  | n + 1, .complex .., d, h => by simp [ofV] at h
  | n + 1, .chan _, d, h => by simp [ofV] at h
  | n + 1, .func .., d, h => by simp [ofV] at h

theorem lget_mem {α : Type} : ∀ {l : List (Nat × α)} {n : Nat} {v : α}, lget l n = some v → (n, v) ∈ l
  | [], n, v, h => by simp [lget, lget_nil] at h
  | (k, u) :: r, n, v, h => by
    rw [lget_c] at h
    by_cases e : n = k
    · rw [if_pos e] at h; cases h; subst e; simp
    · rw [if_neg e] at h; exact List.mem_cons_of_mem _ (lget_mem h)

theorem arg_rel (h : Rel E M0 w0 N μ M a w x) {o : Operand} {ar : Arg} (hc : cArg o = some ar) : VRel M w μ (ar.ev E.G x.t) (a.eval o) := by
  cases o with
  | tmp t => simp [cArg] at hc; subst hc; exact h.tm t
  | const v =>
    simp only [cArg, Option.map_eq_some_iff] at hc
    obtain ⟨d, hd, rfl⟩ := hc
    exact ofV_rel 10 v d hd
  | global g =>
    simp [cArg] at hc; subst hc
    show VRel M w μ (Option.rec D.un (fun l => .iptr l 0) (lget E.G g) : D) (.pointer (some ⟨g, 0, none⟩))
    cases hf : lget E.G g with
    | none => simp only [VRel]
    | some l =>
      obtain ⟨h1, h2, h3⟩ := h.globals _ (lget_mem hf)
      simp only [VRel]
      exact ⟨g, 0, rfl, h1, h2, h3⟩
  | func f =>
    simp [cArg] at hc; subst hc
    show VRel M w μ (.fn (.func f) [] []) (.func (.func f) #[] #[])
    simp only [VRel]
    exact ⟨#[], #[], rfl, VRels.nil, VRels.nil⟩

theorem args_rel (h : Rel E M0 w0 N μ M a w x) {l : List Operand} {as : List Arg} (hc : l.mapM cArg = some as) :
    VRels M w μ (as.map (·.ev E.G x.t)) (l.map a.eval) := by
  obtain ⟨h1, h2⟩ := mapM_rel hc
  refine VRels.mk (by simp [h1]) fun i d v hd hv => ?_
  simp only [List.getElem?_map, Option.map_eq_some_iff] at hd hv
  obtain ⟨ar, har, rfl⟩ := hd
  obtain ⟨o, ho, rfl⟩ := hv
  exact arg_rel h (h2 i o ar ho har)

/-- The cells of a value. -/
theorem cells_rel {d : D} {cs : List D} {v : Value} (hc : d.cells? = some cs) (hv : VRel M w μ d v) : VRels M w μ cs v.cells.toList := by
  cases d <;> simp only [D.cells?, Option.some.injEq, reduceCtorEq] at hc
  case agg l => subst hc; simp only [VRel] at hv; obtain ⟨vs, rfl, h⟩ := hv; exact h
  all_goals
    subst hc
    refine VRels.mk ?_ ?_
  all_goals have hv' := hv
  all_goals simp only [VRel] at hv'
  all_goals first
    | subst hv'
    | (obtain ⟨_, rfl, _⟩ := hv')
    | (obtain ⟨_, _, rfl, _⟩ := hv')
    | (obtain ⟨_, _, _, rfl, _⟩ := hv')
    | (obtain ⟨_, _, _, _, rfl⟩ := hv')
    | (obtain ⟨_, _, _, _, rfl, _⟩ := hv')
  all_goals first
    | rfl
    | (intro i d' v' hd hv'
       cases i with
       | zero => simp [Value.cells] at hd hv'; subst hd; subst hv'; exact hv
       | succ i => simp at hd)

/-! Control of pointers: what a pointer sees. -/
theorem blk_cells (h : Rel E M0 w0 N μ M a w x) {nm : Nat} {l0 : Loc} (h0 : μ nm = some l0) {blk : Blk} {cs : List D} (hs : sget x.s nm = some blk) (hb : blkCells blk = some cs) :
    ∃ l, μ nm = some l ∧ (l.blk = none → cs = []) ∧ ∀ b, l.blk = some b → M b ∧ b < w.heap.size ∧ ∃ vs e fz, w.heap[b]? = some (.cells vs e fz) ∧ Thaw vs.size fz ∧ cs.length ≤ vs.size ∧ vs.size = l.cap ∧
      VRels M w μ cs (vs.toList.take cs.length) := by
  have hB := h.st nm blk l0 h0 hs
  cases blk with
  | fix ty c =>
    simp [blkCells] at hb; subst hb
    obtain ⟨l, b, vs, e, fz, h1, h2, h3, h4, h5, h6, h7, _⟩ := hB
    refine ⟨l, h1, fun hn => (by rw [hn] at h2; cases h2), fun b' hb' => ?_⟩
    rw [h2] at hb'; cases hb'
    have hl := h7.length
    simp at hl
    refine ⟨h4, (h.own nm l b h1 h2).2, vs, e, fz, h5, h6, by omega, by omega, ?_⟩
    rw [List.take_of_length_le (by simp; omega)]
    exact h7
  | grow ty c =>
    simp [blkCells] at hb; subst hb
    obtain ⟨l, h1, hh⟩ := hB
    rcases hh with ⟨h2, h3, h4⟩ | ⟨b, vs, e, fz, h2, h4, h5, h6, h7, h8, h9, _⟩
    · exact ⟨l, h1, fun _ => h3, fun b hb => (by rw [h2] at hb; cases hb)⟩
    · refine ⟨l, h1, fun hn => (by rw [hn] at h2; cases h2), fun b' hb' => ?_⟩
      rw [h2] at hb'; cases hb'
      exact ⟨h4, (h.own nm l b h1 h2).2, vs, e, fz, h5, h6, by omega, h7, h9⟩
  | _ => simp [blkCells] at hb

theorem cell_in {b o : Nat} {vs : Array Value} {e : TypeId} {fz : Nat × Nat} {v : Value} (hb : w.heap[b]? = some (.cells vs e fz)) (hv : vs.toList[o]? = some v) :
    w.cell? ⟨b, o, none⟩ = some v := by
  simp only [World.cell?, hb]
  simpa using hv

theorem seen_rel (h : Rel E M0 w0 N μ M a w x) {d : D} {cs : List D} {off : Nat} {v : Value} (hs : seen x.s d = some (cs, off)) (hv : VRel M w μ d v) :
    ∃ b o, v = .pointer (some ⟨b, o + off, none⟩) ∧ ∀ (i : Nat) (e : D), cs[i]? = some e → ∃ v', w.cell? ⟨b, o + i, none⟩ = some v' ∧ VRel M w μ e v' := by
  cases d <;> simp only [seen, reduceCtorEq] at hs
  case ptr nm o =>
    cases hg : sget x.s nm with
    | none => rw [hg] at hs; cases hs
    | some blk =>
      rw [hg] at hs
      cases hb : blkCells blk with
      | none => simp [hb] at hs
      | some c =>
        simp [hb] at hs
        obtain ⟨rfl, rfl⟩ := hs
        simp only [VRel] at hv
        obtain ⟨l', b, h4, h5, rfl⟩ := hv
        obtain ⟨l, h1, h2, h3⟩ := blk_cells h h4 hg hb
        rw [h1] at h4; cases h4
        obtain ⟨hM, hlt, vs, e, fz, h6, h7, h8, h9, h10⟩ := h3 b h5
        refine ⟨b, 0, by simp, fun i e' hi => ?_⟩
        obtain ⟨v', hv', hr⟩ := VRels.get i e' h10 hi
        rw [List.getElem?_take] at hv'
        split at hv'
        · exact ⟨v', by simpa using cell_in h6 hv', hr⟩
        · cases hv'
  case iptr c o =>
    simp at hs
    obtain ⟨rfl, rfl⟩ := hs
    simp only [VRel] at hv
    obtain ⟨b, o, rfl, hb, hlt, hc⟩ := hv
    refine ⟨b, o, rfl, fun i e hi => ?_⟩
    obtain ⟨v', hv', hr⟩ := CRel.get i e hc hi
    exact ⟨v', hv', VRel.mono (Ext.refl M w) e v' (mu0_le μ) hr⟩

theorem run_isAgg {P : Program} {t : TypeId} {b : Bool} (h : isAggT P t = some b) (w : World) : (isAgg t).run P w = .ok b w := by
  unfold isAggT at h
  cases hu : P.underlying t with
  | none => rw [hu] at h; cases h
  | some d =>
    rw [hu] at h
    simp only [isAgg, Sem.run_bind, run_underlying hu, Result.andThen_ok]
    cases d <;> simp at h <;> subst h <;> rfl

theorem run_typeInfo' {P : Program} {t : TypeId} {i : TypeInfo} (h : P.info? t = some i) (w : World) : (typeInfo t).run P w = .ok i w := by
  simp [typeInfo, h]

theorem run_sizeOf' {P : Program} {t : TypeId} {n : Nat} (h : szOf P t = some n) (w : World) : (Go.sizeOf t).run P w = .ok n w := by
  simp only [szOf, Option.map_eq_some_iff] at h
  obtain ⟨i, hi, rfl⟩ := h
  simp [Go.sizeOf, run_typeInfo' hi]

theorem cSz_some {P : Program} {t : TypeId} {r : Option Nat} (h : cSz P t = some r) : ∃ i b, P.info? t = some i ∧ isAggT P t = some b ∧ r = bif b then some i.size else none := by
  simp only [cSz, Option.bind_eq_bind, Option.bind_eq_some_iff, Option.some.injEq] at h
  obtain ⟨i, h1, b, h2, rfl⟩ := h
  exact ⟨i, b, h1, h2, rfl⟩

theorem run_loadVar_rel {P : Program} {b o off : Nat} {cs : List D} {t : TypeId} {sz : Option Nat} {d : D} (hs : cSz P t = some sz) (ht : takeAt cs off sz = some d)
    (hc : ∀ (i : Nat) (e : D), cs[i]? = some e → ∃ v', w.cell? ⟨b, o + i, none⟩ = some v' ∧ VRel M w μ e v') :
    ∃ v, (loadVar t ⟨b, o + off, none⟩).run P w = .ok v w ∧ VRel M w μ d v := by
  obtain ⟨i, bb, h1, h2, rfl⟩ := cSz_some hs
  simp only [loadVar, Sem.run_bind, run_isAgg h2, Result.andThen_ok]
  cases bb with
  | false =>
    simp only [cond_false, takeAt] at ht
    obtain ⟨v, hv, hr⟩ := hc off d ht
    refine ⟨v, ?_, hr⟩
    simp [run_load, hv]
  | true =>
    simp only [cond_true, takeAt] at ht
    cases hle : Nat.ble (off + i.size) cs.length with
    | false => rw [hle] at ht; cases ht
    | true =>
      rw [hle] at ht
      simp at ht; subst ht
      have hle' := Nat.le_of_ble_eq_true hle
      have hall : ∀ j, j < i.size → ∃ v', w.cell? ⟨b, o + off + j, none⟩ = some v' ∧ ∀ e, cs[off + j]? = some e → VRel M w μ e v' := by
        intro j hj
        obtain ⟨v', hv', hr⟩ := hc (off + j) cs[off + j] (List.getElem?_eq_getElem (by omega))
        refine ⟨v', by rw [← hv']; congr 2; omega, fun e he => ?_⟩
        rw [List.getElem?_eq_getElem (by omega)] at he; cases he; exact hr
      let f : Nat → Value := fun j => (w.cell? ⟨b, o + off + j, none⟩).getD undef
      have hrun := run_loadCells (P := P) w ⟨b, o + off, none⟩ i.size f (fun j hj => by
        obtain ⟨v', hv', _⟩ := hall j hj
        rw [Addr.add_lit, hv']; simp [f, hv'])
      refine ⟨.agg ((List.range i.size).map f).toArray, ?_, ?_⟩
      · simp only [if_true, Sem.run_bind, run_sizeOf' (show szOf P t = some i.size by simp [szOf, h1]), Result.andThen_ok, hrun, Sem.run_pure]
      · simp only [VRel]
        refine ⟨_, rfl, VRels.mk (by simp; omega) fun j e v he hv => ?_⟩
        simp only [List.getElem?_map, Option.map_eq_some_iff] at hv
        obtain ⟨k, hk, rfl⟩ := hv
        have hk' : k = j ∧ j < i.size := by
          rw [List.getElem?_eq_some_iff] at hk
          obtain ⟨h3, h4⟩ := hk
          simp at h3 h4
          exact ⟨h4.symm, h3⟩
        obtain ⟨rfl, hj⟩ := hk'
        obtain ⟨v', hv', hr⟩ := hall k hj
        have : f k = v' := by simp [f, hv']
        rw [this]
        refine hr e ?_
        rw [List.getElem?_take, if_pos hj] at he
        simpa using he
end

end Zv
/- The operations of the model do what the abstract ones say: those that write nothing. Conditions: none. -/
set_option linter.unusedSimpArgs false
set_option linter.unusedVariables false
namespace Zv
open Go

section
variable {E : Env} {M0 : Nat → Prop} {w0 : World} {N : Nat} {μ : Mu} {M : Nat → Prop} {a : Act} {w : World} {x : AS}

abbrev gd (E : Env) (M0 : Nat → Prop) (w0 : World) (N : Nat) (μ : Mu) (M : Nat → Prop) (w : World) (x : AS) (a : Act) (d : D) (x' : AS) (w' : World) (s : Sem Next) : Prop := Good E M0 w0 N μ M w x a d x' (s.run E.P w')

theorem run_value {P : Program} {s : Sem Value} {v : Value} {w w' : World} (h : s.run P w = .ok v w') : (do pure (.value (← s)) : Sem Next).run P w = .ok (.value v) w' := by
  simp [h]

theorem op_mv (h : Rel E M0 w0 N μ M a w x) {o : Operand} {ar : Arg} (hc : cArg o = some ar) {d : D} {x' : AS} (hs : step E.G (.mv ar) x = some (d, x')) :
    gd E M0 w0 N μ M w x a d x' w (pure (.value (a.eval o))) := by
  simp [step_mv, st_mv, step_pick, st_pick, step_new, st_new, step_ld, st_ld, step_st, st_st, step_fa, st_fa, step_iaA, st_iaA, step_iaS, st_iaS, step_ixA, st_ixA, step_ixS, st_ixS, step_fld, st_fld, step_ext, st_ext, step_bin, st_bin, step_cmp, st_cmp, step_un, st_un, step_bld, st_bld, step_bsl, st_bsl, step_mks, st_mks, step_slS, st_slS, step_slV, st_slV, step_slA, st_slA, step_len, st_len, step_cap, st_cap, step_app, st_app, step_copy, st_copy, step_cvI, st_cvI, step_cvN, st_cvN, step_cvB, st_cvB, step_cvS, st_cvS, step_mkif, st_mkif, step_mkfn, st_mkfn, step_nilc, st_nilc, step_rng, st_rng, step_next, st_next, step_mm, st_mm, step_mkm, st_mkm, step_mlk, st_mlk, step_mup, st_mup, step_men, st_men, step_mst, st_mst, step_mln, st_mln, step_rgm, st_rgm, step_nxm, st_nxm, step_ent, st_ent, step_tas, st_tas, step_tai, st_tai, step_xl, st_xl, step_xa, st_xa, step_call, step_callv, step_inv, step_pan, step_dfr, step_rcv] at hs
  obtain ⟨rfl, rfl⟩ := hs
  exact Good.of h (by simp) (arg_rel h hc)

theorem bool_of {d : D} {b : Bool} {v : Value} (hd : d = .bool b) (h : VRel M w μ d v) : v = .bool b := by subst hd; simpa only [VRel] using h
theorem int_of {d : D} {k : IntKind} {n : Int} {v : Value} (hd : d = .int k n) (h : VRel M w μ d v) : v = .int k n := by subst hd; simpa only [VRel] using h
theorem str_of {d : D} {s : List UInt8} {v : Value} (hd : d = .str s) (h : VRel M w μ d v) : v = .string ⟨s.toArray⟩ := by subst hd; simpa only [VRel] using h

theorem op_pick (h : Rel E M0 w0 N μ M a w x) {c p q : Operand} {c' p' q' : Arg} (h1 : cArg c = some c') (h2 : cArg p = some p') (h3 : cArg q = some q') {d : D} {x' : AS}
    (hs : step E.G (.pick c' p' q') x = some (d, x')) :
    gd E M0 w0 N μ M w x a d x' w (do pure (.value (if ← asBool (a.eval c) then a.eval p else a.eval q))) := by
  have hv := arg_rel h h1
  simp only [step_mv, st_mv, step_pick, st_pick, step_new, st_new, step_ld, st_ld, step_st, st_st, step_fa, st_fa, step_iaA, st_iaA, step_iaS, st_iaS, step_ixA, st_ixA, step_ixS, st_ixS, step_fld, st_fld, step_ext, st_ext, step_bin, st_bin, step_cmp, st_cmp, step_un, st_un, step_bld, st_bld, step_bsl, st_bsl, step_mks, st_mks, step_slS, st_slS, step_slV, st_slV, step_slA, st_slA, step_len, st_len, step_cap, st_cap, step_app, st_app, step_copy, st_copy, step_cvI, st_cvI, step_cvN, st_cvN, step_cvB, st_cvB, step_cvS, st_cvS, step_mkif, st_mkif, step_mkfn, st_mkfn, step_nilc, st_nilc, step_rng, st_rng, step_next, st_next, step_mm, st_mm, step_mkm, st_mkm, step_mlk, st_mlk, step_mup, st_mup, step_men, st_men, step_mst, st_mst, step_mln, st_mln, step_rgm, st_rgm, step_nxm, st_nxm, step_ent, st_ent, step_tas, st_tas, step_tai, st_tai, step_xl, st_xl, step_xa, st_xa, step_call, step_callv, step_inv, step_pan, step_dfr, step_rcv] at hs
  split at hs
  · rename_i b hb
    rw [hb] at hv
    simp only [VRel] at hv
    simp at hs
    obtain ⟨rfl, rfl⟩ := hs
    cases b
    · exact Good.of h (by simp [hv, asBool]) (arg_rel h h3)
    · exact Good.of h (by simp [hv, asBool]) (arg_rel h h2)
  · cases hs

theorem op_ld (h : Rel E M0 w0 N μ M a w x) {t : TypeId} {sz : Option Nat} {o : Operand} {ar : Arg} (h1 : cSz E.P t = some sz) (h2 : cArg o = some ar) {d : D} {x' : AS}
    (hs : step E.G (.ld sz ar) x = some (d, x')) : gd E M0 w0 N μ M w x a d x' w (do pure (.value (← Instr.loadAt t (a.eval o)))) := by
  have hv := arg_rel h h2
  simp only [step_mv, st_mv, step_pick, st_pick, step_new, st_new, step_ld, st_ld, step_st, st_st, step_fa, st_fa, step_iaA, st_iaA, step_iaS, st_iaS, step_ixA, st_ixA, step_ixS, st_ixS, step_fld, st_fld, step_ext, st_ext, step_bin, st_bin, step_cmp, st_cmp, step_un, st_un, step_bld, st_bld, step_bsl, st_bsl, step_mks, st_mks, step_slS, st_slS, step_slV, st_slV, step_slA, st_slA, step_len, st_len, step_cap, st_cap, step_app, st_app, step_copy, st_copy, step_cvI, st_cvI, step_cvN, st_cvN, step_cvB, st_cvB, step_cvS, st_cvS, step_mkif, st_mkif, step_mkfn, st_mkfn, step_nilc, st_nilc, step_rng, st_rng, step_next, st_next, step_mm, st_mm, step_mkm, st_mkm, step_mlk, st_mlk, step_mup, st_mup, step_men, st_men, step_mst, st_mst, step_mln, st_mln, step_rgm, st_rgm, step_nxm, st_nxm, step_ent, st_ent, step_tas, st_tas, step_tai, st_tai, step_xl, st_xl, step_xa, st_xa, step_call, step_callv, step_inv, step_pan, step_dfr, step_rcv, Option.bind_eq_bind, Option.bind_eq_some_iff, Option.some.injEq] at hs
  obtain ⟨⟨cs, off⟩, hse, d', hta, hs⟩ := hs
  cases hs
  obtain ⟨b, p, hval, hcells⟩ := seen_rel h hse hv
  obtain ⟨v, hrun, hr⟩ := run_loadVar_rel (P := E.P) h1 hta hcells
  exact Good.of h (run_value (by simp [Instr.loadAt, Instr.sureAddr, hval, hrun])) hr

theorem run_fieldAt {P : Program} {t : TypeId} {fs : Array Field} {i : Nat} {f : Field} {s b o : Nat} (hu : P.underlying t = some (.struct fs)) (hf : fs[i]? = some f)
    (hsz : szOf P f.type = some s) (h0 : Nat.beq s 0 = false) (w : World) :
    (Instr.fieldAt t (.pointer (some ⟨b, o, none⟩)) i).run P w = .ok (.pointer (some ⟨b, o + f.offset, none⟩)) w := by
  have hs0 : s ≠ 0 := fun e => by subst e; simp at h0
  simp [Instr.fieldAt, run_underlying hu, hf, Instr.sureAddr, fieldPlace, run_sizeOf' hsz, hs0, Addr.add_lit]

theorem op_fa (h : Rel E M0 w0 N μ M a w x) {t : TypeId} {fs : Array Field} {i : Nat} {f : Field} {s : Nat} (hu : E.P.underlying t = some (.struct fs)) (hf : fs[i]? = some f)
    (hsz : szOf E.P f.type = some s) (h0 : Nat.beq s 0 = false) {o : Operand} {ar : Arg} (h2 : cArg o = some ar) {d : D} {x' : AS}
    (hs : step E.G (.fa f.offset ar) x = some (d, x')) : gd E M0 w0 N μ M w x a d x' w (do pure (.value (← Instr.fieldAt t (a.eval o) i))) := by
  have hv := arg_rel h h2
  simp only [step_mv, st_mv, step_pick, st_pick, step_new, st_new, step_ld, st_ld, step_st, st_st, step_fa, st_fa, step_iaA, st_iaA, step_iaS, st_iaS, step_ixA, st_ixA, step_ixS, st_ixS, step_fld, st_fld, step_ext, st_ext, step_bin, st_bin, step_cmp, st_cmp, step_un, st_un, step_bld, st_bld, step_bsl, st_bsl, step_mks, st_mks, step_slS, st_slS, step_slV, st_slV, step_slA, st_slA, step_len, st_len, step_cap, st_cap, step_app, st_app, step_copy, st_copy, step_cvI, st_cvI, step_cvN, st_cvN, step_cvB, st_cvB, step_cvS, st_cvS, step_mkif, st_mkif, step_mkfn, st_mkfn, step_nilc, st_nilc, step_rng, st_rng, step_next, st_next, step_mm, st_mm, step_mkm, st_mkm, step_mlk, st_mlk, step_mup, st_mup, step_men, st_men, step_mst, st_mst, step_mln, st_mln, step_rgm, st_rgm, step_nxm, st_nxm, step_ent, st_ent, step_tas, st_tas, step_tai, st_tai, step_xl, st_xl, step_xa, st_xa, step_call, step_callv, step_inv, step_pan, step_dfr, step_rcv] at hs
  split at hs
  · rename_i nm off he
    rw [he] at hv
    simp only [VRel] at hv
    obtain ⟨l, b, h3, h4, h5⟩ := hv
    cases hs
    refine Good.of h (run_value (by rw [h5]; exact run_fieldAt hu hf hsz h0 w)) ?_
    simp only [VRel]
    exact ⟨l, b, h3, h4, rfl⟩
  · rename_i cs off he
    rw [he] at hv
    simp only [VRel] at hv
    obtain ⟨b, p, h5, h3, h4, h6⟩ := hv
    cases hs
    refine Good.of h (run_value (by rw [h5]; exact run_fieldAt hu hf hsz h0 w)) ?_
    simp only [VRel]
    exact ⟨b, p, by rw [Nat.add_assoc], h3, h4, h6⟩
  · cases hs

theorem idxD_some {n k : Nat} {d : D} (h : idxD n d = some k) : ∃ kd i, d = .int kd i ∧ 0 ≤ i ∧ i < n ∧ k = i.toNat := by
  cases d <;> simp only [idxD, reduceCtorEq] at h
  rename_i kd i
  split at h
  · rename_i hi
    cases h
    exact ⟨kd, i, rfl, hi.1, hi.2, rfl⟩
  · cases h

theorem op_iaA (h : Rel E M0 w0 N μ M a w x) {t e : TypeId} {n sz : Nat} (hu : E.P.underlying t = some (.array n e)) (hsz : szOf E.P e = some sz)
    {o p : Operand} {ar pr : Arg} (h2 : cArg o = some ar) (h3 : cArg p = some pr) {d : D} {x' : AS}
    (hs : step E.G (.iaA n sz ar pr) x = some (d, x')) : gd E M0 w0 N μ M w x a d x' w (do pure (.value (← Instr.indexAt t (a.eval o) (a.eval p)))) := by
  have hv := arg_rel h h2
  have hi := arg_rel h h3
  simp only [step_mv, st_mv, step_pick, st_pick, step_new, st_new, step_ld, st_ld, step_st, st_st, step_fa, st_fa, step_iaA, st_iaA, step_iaS, st_iaS, step_ixA, st_ixA, step_ixS, st_ixS, step_fld, st_fld, step_ext, st_ext, step_bin, st_bin, step_cmp, st_cmp, step_un, st_un, step_bld, st_bld, step_bsl, st_bsl, step_mks, st_mks, step_slS, st_slS, step_slV, st_slV, step_slA, st_slA, step_len, st_len, step_cap, st_cap, step_app, st_app, step_copy, st_copy, step_cvI, st_cvI, step_cvN, st_cvN, step_cvB, st_cvB, step_cvS, st_cvS, step_mkif, st_mkif, step_mkfn, st_mkfn, step_nilc, st_nilc, step_rng, st_rng, step_next, st_next, step_mm, st_mm, step_mkm, st_mkm, step_mlk, st_mlk, step_mup, st_mup, step_men, st_men, step_mst, st_mst, step_mln, st_mln, step_rgm, st_rgm, step_nxm, st_nxm, step_ent, st_ent, step_tas, st_tas, step_tai, st_tai, step_xl, st_xl, step_xa, st_xa, step_call, step_callv, step_inv, step_pan, step_dfr, step_rcv, Option.bind_eq_bind, Option.bind_eq_some_iff] at hs
  obtain ⟨k, hk, hs⟩ := hs
  obtain ⟨kd, i, he, hi0, hin, rfl⟩ := idxD_some hk
  rw [he] at hi
  simp only [VRel] at hi
  split at hs
  · rename_i nm off he
    rw [he] at hv
    simp only [VRel] at hv
    obtain ⟨l, b, h4, h5, h6⟩ := hv
    cases hs
    refine Good.of (v := .pointer (some ⟨b, off + i.toNat * sz, none⟩)) h (run_value ?_) ?_
    · simp [Instr.indexAt, hi, h6, asIntOf, run_underlying hu, Instr.sureAddr, hi0, hin, run_sizeOf' hsz, Addr.add_lit]
    · simp only [VRel]; exact ⟨l, b, h4, h5, rfl⟩
  · rename_i cs off he
    rw [he] at hv
    simp only [VRel] at hv
    obtain ⟨b, q, h6, h4, h5, h7⟩ := hv
    cases hs
    refine Good.of (v := .pointer (some ⟨b, q + off + i.toNat * sz, none⟩)) h (run_value ?_) ?_
    · simp [Instr.indexAt, hi, h6, asIntOf, run_underlying hu, Instr.sureAddr, hi0, hin, run_sizeOf' hsz, Addr.add_lit]
    · simp only [VRel]; exact ⟨b, q, by rw [Nat.add_assoc], h4, h5, h7⟩
  · cases hs

theorem run_indexAt_s {P : Program} {t e : TypeId} {sz : Nat} (hu : P.underlying t = some (.slice e)) (hsz : szOf P e = some sz) {b off len cap : Nat} {kd : IntKind} {i : Int}
    (hi0 : 0 ≤ i) (hin : i < len) (w : World) : (Instr.indexAt t (.slice (some ⟨b, off, none⟩) len cap) (.int kd i)).run P w = .ok (.pointer (some ⟨b, off + i.toNat * sz, none⟩)) w := by
  simp [Instr.indexAt, asIntOf, run_underlying hu, hi0, hin, run_sizeOf' hsz, Addr.add_lit]

theorem op_iaS (h : Rel E M0 w0 N μ M a w x) {t e : TypeId} {sz : Nat} (hu : E.P.underlying t = some (.slice e)) (hsz : szOf E.P e = some sz)
    {o p : Operand} {ar pr : Arg} (h2 : cArg o = some ar) (h3 : cArg p = some pr) {d : D} {x' : AS}
    (hs : step E.G (.iaS sz ar pr) x = some (d, x')) : gd E M0 w0 N μ M w x a d x' w (do pure (.value (← Instr.indexAt t (a.eval o) (a.eval p)))) := by
  have hv := arg_rel h h2
  have hi := arg_rel h h3
  simp only [step_mv, st_mv, step_pick, st_pick, step_new, st_new, step_ld, st_ld, step_st, st_st, step_fa, st_fa, step_iaA, st_iaA, step_iaS, st_iaS, step_ixA, st_ixA, step_ixS, st_ixS, step_fld, st_fld, step_ext, st_ext, step_bin, st_bin, step_cmp, st_cmp, step_un, st_un, step_bld, st_bld, step_bsl, st_bsl, step_mks, st_mks, step_slS, st_slS, step_slV, st_slV, step_slA, st_slA, step_len, st_len, step_cap, st_cap, step_app, st_app, step_copy, st_copy, step_cvI, st_cvI, step_cvN, st_cvN, step_cvB, st_cvB, step_cvS, st_cvS, step_mkif, st_mkif, step_mkfn, st_mkfn, step_nilc, st_nilc, step_rng, st_rng, step_next, st_next, step_mm, st_mm, step_mkm, st_mkm, step_mlk, st_mlk, step_mup, st_mup, step_men, st_men, step_mst, st_mst, step_mln, st_mln, step_rgm, st_rgm, step_nxm, st_nxm, step_ent, st_ent, step_tas, st_tas, step_tai, st_tai, step_xl, st_xl, step_xa, st_xa, step_call, step_callv, step_inv, step_pan, step_dfr, step_rcv] at hs
  split at hs
  · rename_i ex len cs he
    rw [he] at hv
    simp only [Option.bind_eq_bind, Option.bind_eq_some_iff] at hs
    obtain ⟨k, hk, hs⟩ := hs
    obtain ⟨kd, i, he', hi0, hin, rfl⟩ := idxD_some hk
    rw [he'] at hi
    simp only [VRel] at hi hv
    obtain ⟨ad, cap, h4, h5, h6, h7⟩ := hv
    cases hs
    rcases h7 with h7 | ⟨b, q, rfl, h8, h9, h10⟩
    · omega
    refine Good.of h (run_value (by rw [h4, hi]; exact run_indexAt_s hu hsz hi0 hin w)) ?_
    simp only [VRel]; exact ⟨b, q, rfl, h8, h9, h10⟩
  · rename_i nm off z len cap he
    rw [he] at hv
    simp only [Option.bind_eq_bind, Option.bind_eq_some_iff] at hs
    obtain ⟨k, hk, hs⟩ := hs
    obtain ⟨kd, i, he', hi0, hin, rfl⟩ := idxD_some hk
    rw [he'] at hi
    simp only [VRel] at hi hv
    obtain ⟨l, b, h4, h5, h6, h7⟩ := hv
    cases hz : Nat.beq z sz <;> rw [hz] at hs <;> cases hs
    refine Good.of h (run_value (by rw [h6, hi]; exact run_indexAt_s hu hsz hi0 hin w)) ?_
    simp only [VRel]; exact ⟨l, b, h4, h5, rfl⟩
  · rename_i nm off z len he
    rw [he] at hv
    simp only [Option.bind_eq_bind, Option.bind_eq_some_iff] at hs
    obtain ⟨k, hk, hs⟩ := hs
    obtain ⟨kd, i, he', hi0, hin, rfl⟩ := idxD_some hk
    rw [he'] at hi
    simp only [VRel] at hi hv
    obtain ⟨l, cap, h4, h6, h7, h8, h9⟩ := hv
    cases hz : Nat.beq z sz <;> rw [hz] at hs <;> cases hs
    cases hb : l.blk with
    | none => have := h9 hb; omega
    | some b =>
      rw [hb] at h6
      refine Good.of h (run_value (by rw [h6, hi]; exact run_indexAt_s hu hsz hi0 hin w)) ?_
      simp only [VRel]; exact ⟨l, b, h4, hb, rfl⟩
  · cases hs

/-- A part of the cells of a struct or an array. -/
theorem part_rel {P : Program} {cs : List D} {vs : Array Value} (hr : VRels M w μ cs vs.toList) {off : Nat} {t : TypeId} {bb : Bool} {n : Nat} (h1 : isAggT P t = some bb) (h2 : szOf P t = some n) {d : D}
    (ht : takeAt cs off (bif bb then some n else none) = some d) : ∃ v, (part t vs off).run P w = .ok v w ∧ VRel M w μ d v := by
  simp only [part, Sem.run_bind, run_isAgg h1, Result.andThen_ok]
  cases bb with
  | false =>
    simp only [cond_false, takeAt] at ht
    obtain ⟨v, hv, hd⟩ := VRels.get off d hr ht
    refine ⟨v, ?_, hd⟩
    have : vs[off]? = some v := by simpa using hv
    simp [this]
  | true =>
    simp only [cond_true, takeAt] at ht
    cases hle : Nat.ble (off + n) cs.length with
    | false => rw [hle] at ht; cases ht
    | true =>
      rw [hle] at ht
      simp at ht; subst ht
      refine ⟨.agg (vs.extract off (off + n)), by simp [run_sizeOf' h2], ?_⟩
      simp only [VRel]
      refine ⟨_, rfl, ?_⟩
      have : (vs.extract off (off + n)).toList = (vs.toList.drop off).take n := by
        rw [Array.toList_extract, List.extract_eq_take_drop]; congr 1; omega
      rw [this]
      exact (hr.drop off).take n

theorem op_ixA (h : Rel E M0 w0 N μ M a w x) {t e : TypeId} {n sz : Nat} {bb : Bool} (hu : E.P.underlying t = some (.array n e)) (hsz : szOf E.P e = some sz) (hag : isAggT E.P e = some bb)
    {o p : Operand} {ar pr : Arg} (h2 : cArg o = some ar) (h3 : cArg p = some pr) {d : D} {x' : AS}
    (hs : step E.G (.ixA n sz bb ar pr) x = some (d, x')) : gd E M0 w0 N μ M w x a d x' w (do pure (.value (← Instr.index t (a.eval o) (a.eval p)))) := by
  have hv := arg_rel h h2
  have hi := arg_rel h h3
  simp only [step_mv, st_mv, step_pick, st_pick, step_new, st_new, step_ld, st_ld, step_st, st_st, step_fa, st_fa, step_iaA, st_iaA, step_iaS, st_iaS, step_ixA, st_ixA, step_ixS, st_ixS, step_fld, st_fld, step_ext, st_ext, step_bin, st_bin, step_cmp, st_cmp, step_un, st_un, step_bld, st_bld, step_bsl, st_bsl, step_mks, st_mks, step_slS, st_slS, step_slV, st_slV, step_slA, st_slA, step_len, st_len, step_cap, st_cap, step_app, st_app, step_copy, st_copy, step_cvI, st_cvI, step_cvN, st_cvN, step_cvB, st_cvB, step_cvS, st_cvS, step_mkif, st_mkif, step_mkfn, st_mkfn, step_nilc, st_nilc, step_rng, st_rng, step_next, st_next, step_mm, st_mm, step_mkm, st_mkm, step_mlk, st_mlk, step_mup, st_mup, step_men, st_men, step_mst, st_mst, step_mln, st_mln, step_rgm, st_rgm, step_nxm, st_nxm, step_ent, st_ent, step_tas, st_tas, step_tai, st_tai, step_xl, st_xl, step_xa, st_xa, step_call, step_callv, step_inv, step_pan, step_dfr, step_rcv] at hs
  split at hs
  · rename_i cs he
    rw [he] at hv
    simp only [Option.bind_eq_bind, Option.bind_eq_some_iff] at hs
    obtain ⟨k, hk, d', hd, hs⟩ := hs
    obtain ⟨kd, i, he', hi0, hin, rfl⟩ := idxD_some hk
    rw [he'] at hi
    simp only [VRel] at hi hv
    obtain ⟨vs, h4, h5⟩ := hv
    cases hs
    obtain ⟨v, hrun, hr⟩ := part_rel (P := E.P) h5 hag hsz hd
    exact Good.of h (run_value (by simp [Instr.index, hi, h4, asIntOf, run_underlying hu, hi0, hin, run_sizeOf' hsz, hrun])) hr
  · cases hs

theorem op_ixS (h : Rel E M0 w0 N μ M a w x) {t : TypeId} (hu : E.P.underlying t = some .string)
    {o p : Operand} {ar pr : Arg} (h2 : cArg o = some ar) (h3 : cArg p = some pr) {d : D} {x' : AS}
    (hs : step E.G (.ixS ar pr) x = some (d, x')) : gd E M0 w0 N μ M w x a d x' w (do pure (.value (← Instr.index t (a.eval o) (a.eval p)))) := by
  have hv := arg_rel h h2
  have hi := arg_rel h h3
  simp only [step_mv, st_mv, step_pick, st_pick, step_new, st_new, step_ld, st_ld, step_st, st_st, step_fa, st_fa, step_iaA, st_iaA, step_iaS, st_iaS, step_ixA, st_ixA, step_ixS, st_ixS, step_fld, st_fld, step_ext, st_ext, step_bin, st_bin, step_cmp, st_cmp, step_un, st_un, step_bld, st_bld, step_bsl, st_bsl, step_mks, st_mks, step_slS, st_slS, step_slV, st_slV, step_slA, st_slA, step_len, st_len, step_cap, st_cap, step_app, st_app, step_copy, st_copy, step_cvI, st_cvI, step_cvN, st_cvN, step_cvB, st_cvB, step_cvS, st_cvS, step_mkif, st_mkif, step_mkfn, st_mkfn, step_nilc, st_nilc, step_rng, st_rng, step_next, st_next, step_mm, st_mm, step_mkm, st_mkm, step_mlk, st_mlk, step_mup, st_mup, step_men, st_men, step_mst, st_mst, step_mln, st_mln, step_rgm, st_rgm, step_nxm, st_nxm, step_ent, st_ent, step_tas, st_tas, step_tai, st_tai, step_xl, st_xl, step_xa, st_xa, step_call, step_callv, step_inv, step_pan, step_dfr, step_rcv] at hs
  split at hs
  · rename_i s he
    rw [he] at hv
    simp only [Option.bind_eq_bind, Option.bind_eq_some_iff] at hs
    obtain ⟨k, hk, b, hb, hs⟩ := hs
    obtain ⟨kd, i, he', hi0, hin, rfl⟩ := idxD_some hk
    rw [he'] at hi
    simp only [VRel] at hi hv
    cases hs
    have hb' : (⟨s.toArray⟩ : ByteArray)[i.toNat]? = some b := by
      rw [List.getElem?_eq_some_iff] at hb
      obtain ⟨hlt, hb⟩ := hb
      have hsz : i.toNat < (⟨s.toArray⟩ : ByteArray).size := by simpa [ByteArray.size] using hlt
      rw [getElem?_pos (⟨s.toArray⟩ : ByteArray) i.toNat hsz]
      simp only [Option.some.injEq]
      subst hb
      simp [ByteArray.getElem_eq_getElem_data]
    refine Good.of (v := .int .u8 b.toNat) h (run_value ?_) (by simp only [VRel])
    simp [Instr.index, hi, hv, asIntOf, run_underlying hu, hi0, hb']
  · cases hs

theorem op_fld (h : Rel E M0 w0 N μ M a w x) {t : TypeId} {fs : Array Field} {i : Nat} {f : Field} {sz : Option Nat} (hu : E.P.underlying t = some (.struct fs)) (hf : fs[i]? = some f)
    (hsz : cSz E.P f.type = some sz) {o : Operand} {ar : Arg} (h2 : cArg o = some ar) {d : D} {x' : AS}
    (hs : step E.G (.fld f.offset sz ar) x = some (d, x')) : gd E M0 w0 N μ M w x a d x' w (do pure (.value (← Instr.field t (a.eval o) i))) := by
  have hv := arg_rel h h2
  simp only [step_mv, st_mv, step_pick, st_pick, step_new, st_new, step_ld, st_ld, step_st, st_st, step_fa, st_fa, step_iaA, st_iaA, step_iaS, st_iaS, step_ixA, st_ixA, step_ixS, st_ixS, step_fld, st_fld, step_ext, st_ext, step_bin, st_bin, step_cmp, st_cmp, step_un, st_un, step_bld, st_bld, step_bsl, st_bsl, step_mks, st_mks, step_slS, st_slS, step_slV, st_slV, step_slA, st_slA, step_len, st_len, step_cap, st_cap, step_app, st_app, step_copy, st_copy, step_cvI, st_cvI, step_cvN, st_cvN, step_cvB, st_cvB, step_cvS, st_cvS, step_mkif, st_mkif, step_mkfn, st_mkfn, step_nilc, st_nilc, step_rng, st_rng, step_next, st_next, step_mm, st_mm, step_mkm, st_mkm, step_mlk, st_mlk, step_mup, st_mup, step_men, st_men, step_mst, st_mst, step_mln, st_mln, step_rgm, st_rgm, step_nxm, st_nxm, step_ent, st_ent, step_tas, st_tas, step_tai, st_tai, step_xl, st_xl, step_xa, st_xa, step_call, step_callv, step_inv, step_pan, step_dfr, step_rcv] at hs
  split at hs
  · rename_i cs he
    rw [he] at hv
    simp only [Option.bind_eq_bind, Option.bind_eq_some_iff] at hs
    obtain ⟨d', hd, hs⟩ := hs
    simp only [VRel] at hv
    obtain ⟨vs, h4, h5⟩ := hv
    cases hs
    obtain ⟨ii, bb, h6, h7, rfl⟩ := cSz_some hsz
    obtain ⟨v, hrun, hr⟩ := part_rel (P := E.P) h5 h7 (show szOf E.P f.type = some ii.size by simp [szOf, h6]) hd
    exact Good.of h (run_value (by simp [Instr.field, run_underlying hu, hf, h4, asAgg, hrun])) hr
  · cases hs

theorem op_ext (h : Rel E M0 w0 N μ M a w x) {i : Nat} {o : Operand} {ar : Arg} (h2 : cArg o = some ar) {d : D} {x' : AS}
    (hs : step E.G (.ext i ar) x = some (d, x')) : gd E M0 w0 N μ M w x a d x' w (do pure (.value (← Instr.extract (a.eval o) i))) := by
  have hv := arg_rel h h2
  simp only [step_mv, st_mv, step_pick, st_pick, step_new, st_new, step_ld, st_ld, step_st, st_st, step_fa, st_fa, step_iaA, st_iaA, step_iaS, st_iaS, step_ixA, st_ixA, step_ixS, st_ixS, step_fld, st_fld, step_ext, st_ext, step_bin, st_bin, step_cmp, st_cmp, step_un, st_un, step_bld, st_bld, step_bsl, st_bsl, step_mks, st_mks, step_slS, st_slS, step_slV, st_slV, step_slA, st_slA, step_len, st_len, step_cap, st_cap, step_app, st_app, step_copy, st_copy, step_cvI, st_cvI, step_cvN, st_cvN, step_cvB, st_cvB, step_cvS, st_cvS, step_mkif, st_mkif, step_mkfn, st_mkfn, step_nilc, st_nilc, step_rng, st_rng, step_next, st_next, step_mm, st_mm, step_mkm, st_mkm, step_mlk, st_mlk, step_mup, st_mup, step_men, st_men, step_mst, st_mst, step_mln, st_mln, step_rgm, st_rgm, step_nxm, st_nxm, step_ent, st_ent, step_tas, st_tas, step_tai, st_tai, step_xl, st_xl, step_xa, st_xa, step_call, step_callv, step_inv, step_pan, step_dfr, step_rcv] at hs
  split at hs
  · rename_i cs he
    rw [he] at hv
    simp only [Option.bind_eq_bind, Option.bind_eq_some_iff] at hs
    obtain ⟨d', hd, hs⟩ := hs
    simp only [VRel] at hv
    obtain ⟨vs, h4, h5⟩ := hv
    cases hs
    obtain ⟨v, hv', hr⟩ := VRels.get i _ h5 hd
    have : vs[i]? = some v := by simpa using hv'
    exact Good.of h (run_value (by simp [Instr.extract, h4, this])) hr
  · cases hs

theorem op_mkif (h : Rel E M0 w0 N μ M a w x) {t : TypeId} {ds : TypeDesc} (hu : E.P.underlying t = some ds) (hn : ∀ ms, ds ≠ .interface ms) {o : Operand} {ar : Arg} (h2 : cArg o = some ar) {d : D} {x' : AS}
    (hs : step E.G (.mkif t ar) x = some (d, x')) : gd E M0 w0 N μ M w x a d x' w (do pure (.value (← Instr.makeInterface t (a.eval o)))) := by
  have hv := arg_rel h h2
  simp only [step_mv, st_mv, step_pick, st_pick, step_new, st_new, step_ld, st_ld, step_st, st_st, step_fa, st_fa, step_iaA, st_iaA, step_iaS, st_iaS, step_ixA, st_ixA, step_ixS, st_ixS, step_fld, st_fld, step_ext, st_ext, step_bin, st_bin, step_cmp, st_cmp, step_un, st_un, step_bld, st_bld, step_bsl, st_bsl, step_mks, st_mks, step_slS, st_slS, step_slV, st_slV, step_slA, st_slA, step_len, st_len, step_cap, st_cap, step_app, st_app, step_copy, st_copy, step_cvI, st_cvI, step_cvN, st_cvN, step_cvB, st_cvB, step_cvS, st_cvS, step_mkif, st_mkif, step_mkfn, st_mkfn, step_nilc, st_nilc, step_rng, st_rng, step_next, st_next, step_mm, st_mm, step_mkm, st_mkm, step_mlk, st_mlk, step_mup, st_mup, step_men, st_men, step_mst, st_mst, step_mln, st_mln, step_rgm, st_rgm, step_nxm, st_nxm, step_ent, st_ent, step_tas, st_tas, step_tai, st_tai, step_xl, st_xl, step_xa, st_xa, step_call, step_callv, step_inv, step_pan, step_dfr, step_rcv] at hs
  cases hs
  refine Good.of (v := .iface t (a.eval o)) h (run_value ?_) (by simp only [VRel]; exact ⟨_, rfl, hv⟩)
  simp only [Instr.makeInterface, Sem.run_bind, run_underlying hu, Result.andThen_ok]
  cases ds <;> first | rfl | exact absurd rfl (hn _)

theorem op_mkfn (h : Rel E M0 w0 N μ M a w x) {f : Fn} {p q : Array Operand} {p' q' : List Arg} (h2 : cArgs p = some p') (h3 : cArgs q = some q') {d : D} {x' : AS}
    (hs : step E.G (.mkfn f p' q') x = some (d, x')) : gd E M0 w0 N μ M w x a d x' w (do pure (.value (← Instr.makeFunc f (p.map a.eval) (q.map a.eval)))) := by
  simp only [step_mv, st_mv, step_pick, st_pick, step_new, st_new, step_ld, st_ld, step_st, st_st, step_fa, st_fa, step_iaA, st_iaA, step_iaS, st_iaS, step_ixA, st_ixA, step_ixS, st_ixS, step_fld, st_fld, step_ext, st_ext, step_bin, st_bin, step_cmp, st_cmp, step_un, st_un, step_bld, st_bld, step_bsl, st_bsl, step_mks, st_mks, step_slS, st_slS, step_slV, st_slV, step_slA, st_slA, step_len, st_len, step_cap, st_cap, step_app, st_app, step_copy, st_copy, step_cvI, st_cvI, step_cvN, st_cvN, step_cvB, st_cvB, step_cvS, st_cvS, step_mkif, st_mkif, step_mkfn, st_mkfn, step_nilc, st_nilc, step_rng, st_rng, step_next, st_next, step_mm, st_mm, step_mkm, st_mkm, step_mlk, st_mlk, step_mup, st_mup, step_men, st_men, step_mst, st_mst, step_mln, st_mln, step_rgm, st_rgm, step_nxm, st_nxm, step_ent, st_ent, step_tas, st_tas, step_tai, st_tai, step_xl, st_xl, step_xa, st_xa, step_call, step_callv, step_inv, step_pan, step_dfr, step_rcv] at hs
  cases hs
  refine Good.of (v := .func f (p.map a.eval) (q.map a.eval)) h (run_value rfl) ?_
  simp only [VRel]
  refine ⟨_, _, rfl, ?_, ?_⟩
  · simpa using args_rel h h2
  · simpa using args_rel h h3

theorem op_nilc (h : Rel E M0 w0 N μ M a w x) {o : Operand} {ar : Arg} {oo : Oper} (ho : oo.op = .nilCheck o) (h2 : cArg o = some ar) {d : D} {x' : AS}
    (hs : step E.G (.nilc ar) x = some (d, x')) : gd E M0 w0 N μ M w x a d x' w (execOp a.eval oo) := by
  have hv := arg_rel h h2
  simp only [step_mv, st_mv, step_pick, st_pick, step_new, st_new, step_ld, st_ld, step_st, st_st, step_fa, st_fa, step_iaA, st_iaA, step_iaS, st_iaS, step_ixA, st_ixA, step_ixS, st_ixS, step_fld, st_fld, step_ext, st_ext, step_bin, st_bin, step_cmp, st_cmp, step_un, st_un, step_bld, st_bld, step_bsl, st_bsl, step_mks, st_mks, step_slS, st_slS, step_slV, st_slV, step_slA, st_slA, step_len, st_len, step_cap, st_cap, step_app, st_app, step_copy, st_copy, step_cvI, st_cvI, step_cvN, st_cvN, step_cvB, st_cvB, step_cvS, st_cvS, step_mkif, st_mkif, step_mkfn, st_mkfn, step_nilc, st_nilc, step_rng, st_rng, step_next, st_next, step_mm, st_mm, step_mkm, st_mkm, step_mlk, st_mlk, step_mup, st_mup, step_men, st_men, step_mst, st_mst, step_mln, st_mln, step_rgm, st_rgm, step_nxm, st_nxm, step_ent, st_ent, step_tas, st_tas, step_tai, st_tai, step_xl, st_xl, step_xa, st_xa, step_call, step_callv, step_inv, step_pan, step_dfr, step_rcv] at hs
  have key : ∀ v, a.eval o = v → VRel M w μ d v → x' = x → (v ≠ .pointer none ∧ v ≠ .nilIface ∧ v ≠ .nilFunc ∧ ∀ n f c, v ≠ .func (.method n) f c) → gd E M0 w0 N μ M w x a d x' w (execOp a.eval oo) := by
    intro v he hd hx hn
    subst hx
    refine Good.of (v := v) h ?_ hd
    simp only [execOp, ho]
    rw [he]
    obtain ⟨n1, n2, n3, n4⟩ := hn
    split
    · exact absurd rfl n1
    · exact absurd rfl n2
    · exact absurd rfl n3
    · exact absurd rfl (n4 _ _ _)
    · simp
  split at hs
  · rename_i nm off he
    rw [he] at hv
    cases hs
    have hv' := hv
    simp only [VRel] at hv'
    obtain ⟨l, b, h3, h4, h5⟩ := hv'
    exact key _ rfl hv rfl (by rw [h5]; simp)
  · rename_i cs off he
    rw [he] at hv
    cases hs
    have hv' := hv
    simp only [VRel] at hv'
    obtain ⟨b, q, h5, _⟩ := hv'
    exact key _ rfl hv rfl (by rw [h5]; simp)
  · rename_i f p q he
    rw [he] at hv
    cases hs
    have hv' := hv
    simp only [VRel] at hv'
    obtain ⟨va, vb, h5, _⟩ := hv'
    exact key _ rfl hv rfl (by rw [h5]; simp)
  · cases hs

theorem fitsD_iff (k : IntKind) (n : Int) : fitsD k n = true ↔ -(loK k : Int) ≤ n ∧ n ≤ (hiK k : Int) := by
  cases n with
  | ofNat m => simp only [fitsD, Nat.ble_eq, Int.ofNat_eq_natCast]; omega
  | negSucc m => simp only [fitsD, Nat.ble_eq]; omega

theorem wrapD_eq (k : IntKind) (n : Int) : wrapD k n = k.wrap n := by
  unfold wrapD
  cases h : fitsD k n with
  | false => rfl
  | true =>
    rw [fitsD_iff] at h
    cases k <;> simp only [loK, hiK] at h <;> simp only [cond_true, IntKind.wrap, IntKind.bits, IntKind.signed] <;> simp <;> first | omega | (split <;> omega)

theorem wrapD_fits {k : IntKind} {n : Int} (h1 : -(loK k : Int) ≤ n) (h2 : n ≤ (hiK k : Int)) : wrapD k n = n := by
  unfold wrapD
  rw [(fitsD_iff k n).2 ⟨h1, h2⟩]; rfl

theorem bits_rel {op : BinOp} {k : IntKind} {p q : Int} {d : D} (hs : bitsD op k p q = some d) (P : Program) (w : World) : ∃ n, d = .int k n ∧ (Op.intBits op k p q).run P w = .ok (.int k n) w := by
  cases op <;> simp only [bitsD, Option.some.injEq, reduceCtorEq] at hs <;> subst hs <;> exact ⟨_, rfl, by simp [Op.intBits]⟩

theorem int_rel {op : BinOp} {k : IntKind} {p q : Int} {d : D} (hs : intD op k p q = some d) (hsh : op ≠ .shl) (hsr : op ≠ .shr) (P : Program) (t : TypeId) (w : World) :
    ∃ v, VRel M w μ d v ∧ (binOp op t (.int k p) (.int k q)).run P w = .ok v w := by
  cases op
  case shl => exact absurd rfl hsh
  case shr => exact absurd rfl hsr
  case quo =>
    simp only [intD] at hs
    split at hs
    · cases hs
    · rename_i h0
      cases hs
      exact ⟨_, by simp only [VRel]; rfl, by simp [binOp, Op.intDiv, h0, wrapD_eq]⟩
  case rem =>
    simp only [intD] at hs
    split at hs
    · cases hs
    · rename_i h0
      cases hs
      exact ⟨_, by simp only [VRel]; rfl, by simp [binOp, Op.intDiv, h0, wrapD_eq]⟩
  case and => obtain ⟨n, rfl, h⟩ := bits_rel (by simpa only [intD] using hs) P w; exact ⟨_, by simp only [VRel]; rfl, by simpa [binOp] using h⟩
  case or => obtain ⟨n, rfl, h⟩ := bits_rel (by simpa only [intD] using hs) P w; exact ⟨_, by simp only [VRel]; rfl, by simpa [binOp] using h⟩
  case xor => obtain ⟨n, rfl, h⟩ := bits_rel (by simpa only [intD] using hs) P w; exact ⟨_, by simp only [VRel]; rfl, by simpa [binOp] using h⟩
  case andNot => obtain ⟨n, rfl, h⟩ := bits_rel (by simpa only [intD] using hs) P w; exact ⟨_, by simp only [VRel]; rfl, by simpa [binOp] using h⟩
  all_goals
    simp only [intD, Option.some.injEq] at hs
    subst hs
    exact ⟨_, by simp only [VRel]; rfl, by simp [binOp, Op.intArith, Op.intCmp, wrapD_eq]⟩

theorem sh_rel {op : BinOp} {k j : IntKind} {p q : Int} {d : D} (hs : shD op k p q = some d) (P : Program) (t : TypeId) (w : World) :
    ∃ v, VRel M w μ d v ∧ (Op.shift op k p j q).run P w = .ok v w := by
  simp only [shD] at hs
  split at hs
  · cases hs
  · rename_i h0
    cases op <;> simp only [Option.some.injEq, reduceCtorEq] at hs <;> subst hs
    · exact ⟨_, by simp only [VRel]; rfl, by simp [Op.shift, h0, wrapD_eq]⟩
    · exact ⟨_, by simp only [VRel]; rfl, by simp [Op.shift, h0]⟩

theorem toList_mk (s : List UInt8) : (⟨s.toArray⟩ : ByteArray).toList = s := by simp

theorem strD_rel {op : BinOp} {p q : List UInt8} {d : D} (hs : strD op p q = some d) (P : Program) (t : TypeId) (w : World) :
    ∃ v, VRel M w μ d v ∧ (binOp op t (.string ⟨p.toArray⟩) (.string ⟨q.toArray⟩)).run P w = .ok v w := by
  have e : ∀ op', (binOp op' t (.string ⟨p.toArray⟩) (.string ⟨q.toArray⟩)) = Op.stringOp op' ⟨p.toArray⟩ ⟨q.toArray⟩ := by intro op'; cases op' <;> rfl
  rw [e]
  cases op <;> simp only [strD, Option.some.injEq, reduceCtorEq] at hs
  case add =>
    cases hle : Nat.ble (p.length + q.length) 9223372036854775807 with
    | false => rw [hle] at hs; cases hs
    | true =>
      rw [hle] at hs
      simp at hs; subst hs
      have hle' := Nat.le_of_ble_eq_true hle
      refine ⟨.string (⟨p.toArray⟩ ++ ⟨q.toArray⟩), ?_, ?_⟩
      · simp only [VRel, Value.string.injEq]
        apply ByteArray.ext
        simp
      · have hno : ¬ (((⟨p.toArray⟩ : ByteArray).size + (⟨q.toArray⟩ : ByteArray).size : Nat) : Int) > IntKind.i64.max := by
          simp only [IntKind.max_i64, ByteArray.size]
          simp
          omega
        simp only [Op.stringOp]
        rw [if_neg hno]
        simp
  all_goals
    subst hs
    exact ⟨_, by simp only [VRel]; rfl, by simp [Op.stringOp, toList_mk]⟩
end

end Zv
/- The operations of the model do what the abstract ones say: comparisons, literals, lengths, cuts, conversions. Conditions: none. -/
set_option linter.unusedSimpArgs false
set_option linter.unusedVariables false
namespace Zv
open Go

section
variable {E : Env} {M0 : Nat → Prop} {w0 : World} {N : Nat} {μ : Mu} {M : Nat → Prop} {a : Act} {w : World} {x : AS}

theorem beq_mk (p q : List UInt8) : (p == q) = ((⟨p.toArray⟩ : ByteArray).toList == (⟨q.toArray⟩ : ByteArray).toList) := by rw [toList_mk, toList_mk]

theorem run_equalIn_array {P : Program} (d : Nat) (t e : TypeId) (len n : Nat) (xs ys : Array Value) (hu : P.underlying t = some (.array len e)) (hs : szOf P e = some n) (K : List Nat → Sem Bool)
    (hK0 : K [] = pure true) (hK : ∀ i r, K (i :: r) = (do
      let p ← part e xs (i * n)
      let q ← part e ys (i * n)
      let b ← Op.equalIn d e p q
      if (!b) = true then pure false else K r)) (w : World) :
    (Op.equalIn (d + 1) t (.agg xs) (.agg ys)).run P w = (K (List.range len)).run P w := by
  simp only [Op.equalIn, Sem.run_bind, run_underlying hu, Result.andThen_ok, run_sizeOf' hs]
  simp only [Std.Legacy.Range.forIn_eq_forIn_range', Std.Legacy.Range.size]
  rw [List.range_eq_range']
  simp only [Nat.sub_zero, Nat.add_sub_cancel, Nat.div_one]
  generalize List.range' 0 len = l
  induction l generalizing w with
  | nil => simp [hK0]
  | cons i r ih =>
    simp only [List.forIn_cons, hK, Sem.run_bind, Sem.run_ite]
    generalize (part e xs (i * n)).run P w = r1
    cases r1 with
    | ok p w1 =>
      simp only [Result.andThen_ok]
      generalize (part e ys (i * n)).run P w1 = r2
      cases r2 with
      | ok q w2 =>
        simp only [Result.andThen_ok]
        generalize (Op.equalIn d e p q).run P w2 = r3
        cases r3 with
        | ok b w3 =>
          cases b
          · simp only [Result.andThen_ok, Bool.not_false, if_true, Sem.run_pure]
          · simp only [Result.andThen_ok, Bool.not_true, Bool.false_eq_true, if_false, Sem.run_pure]
            exact ih w3
        | halt y w3 => simp [Result.andThen]
      | halt y w2 => simp [Result.andThen]
    | halt y w1 => simp [Result.andThen]

theorem eq_fields {P : Program} {n : Nat} (ih : ∀ (t : TypeId) (e : ET) (d1 d2 : D) (r : Bool) (v1 v2 : Value), eT P n t = some e → eqT e d1 d2 = some r → VRel M w μ d1 v1 → VRel M w μ d2 v2 →
      ∀ k, n ≤ k → (Op.equalIn k t v1 v2).run P w = .ok r w) {k : Nat} (hk : n ≤ k) {cs ds : List D} {vs us : Array Value} (h1 : VRels M w μ cs vs.toList) (h2 : VRels M w μ ds us.toList) :
    ∀ (fs : List Field) (l : List (Nat × Option Nat × ET)) (r : Bool),
      List.mapM (fun (f : Field) => do
        let s ← cSz P f.type
        let e ← eT P n f.type
        some (f.offset, s, e)) (fs.filter (fun f => f.name != "_")) = some l → eqTs l cs ds = some r → (Op.eqFields k vs us fs).run P w = .ok r w
  | [], l, r, hl, hr => by
    simp at hl; subst hl
    simp [eqTs] at hr; subst hr
    simp [Op.eqFields]
  | f :: fs, l, r, hl, hr => by
    simp only [Op.eqFields]
    by_cases hf : f.name = "_"
    · rw [List.filter_cons_of_neg (by simp [hf])] at hl
      simp only [hf, ne_eq, not_true_eq_false, if_false]
      exact eq_fields ih hk h1 h2 fs l r hl hr
    · rw [List.filter_cons_of_pos (by simpa using hf)] at hl
      simp only [ne_eq, hf, not_false_eq_true, if_true]
      simp only [List.mapM_cons, Option.bind_eq_bind, Option.bind_eq_some_iff, Option.pure_def, Option.some.injEq] at hl
      obtain ⟨p, ⟨s, hs, e, he, rfl⟩, l', hl', rfl⟩ := hl
      simp only [eqTs] at hr
      obtain ⟨i, bb, h3, h4, rfl⟩ := cSz_some hs
      have hsz : szOf P f.type = some i.size := by simp [szOf, h3]
      split at hr
      · rename_i d1 d2 hd1 hd2
        obtain ⟨v1, hv1, hr1⟩ := part_rel (P := P) h1 h4 hsz hd1
        obtain ⟨v2, hv2, hr2⟩ := part_rel (P := P) h2 h4 hsz hd2
        split at hr
        · rename_i b hb
          have heq := ih f.type e d1 d2 b v1 v2 he hb hr1 hr2 k hk
          simp only [Sem.run_bind, hv1, hv2, heq, Result.andThen_ok]
          cases b with
          | false => simp at hr; subst hr; simp
          | true =>
            simp at hr
            simpa using eq_fields ih hk h1 h2 fs l' r hl' hr
        · cases hr
      · cases hr

theorem eqT_rel {P : Program} : ∀ (n : Nat) (t : TypeId) (e : ET) (d1 d2 : D) (r : Bool) (v1 v2 : Value), eT P n t = some e → eqT e d1 d2 = some r → VRel M w μ d1 v1 → VRel M w μ d2 v2 →
      ∀ k, n ≤ k → (Op.equalIn k t v1 v2).run P w = .ok r w
  | 0, t, e, d1, d2, r, v1, v2, he, hr, h1, h2, k, hk => by simp [eT] at he
  | n + 1, t, e, d1, d2, r, v1, v2, he, hr, h1, h2, k, hk => by
    obtain ⟨k, rfl⟩ : ∃ m, k = m + 1 := ⟨k - 1, by omega⟩
    simp only [eT] at he
    split at he
    · rename_i hu
      cases he
      cases d1 <;> cases d2 <;> simp only [eqT, reduceCtorEq] at hr
      simp at hr; subst hr
      simp only [VRel] at h1 h2; subst h1; subst h2
      exact run_equalIn_bool' w k t _ _ hu
    · rename_i kd hu
      cases he
      cases d1 <;> cases d2 <;> simp only [eqT, reduceCtorEq] at hr
      split at hr
      · simp at hr; subst hr
        simp only [VRel] at h1 h2; subst h1; subst h2
        rename_i hkk; subst hkk
        exact run_equalIn_int w k t _ _ _ _ hu
      · cases hr
    · rename_i hu
      cases he
      cases d1 <;> cases d2 <;> simp only [eqT, reduceCtorEq] at hr
      simp at hr; subst hr
      simp only [VRel] at h1 h2; subst h1; subst h2
      rw [beq_mk]
      exact run_equalIn_string w k t _ _ hu
    · rename_i fs hu
      cases hp : P.stoodInHeld t with
      | true => rw [hp] at he; cases he
      | false =>
        rw [hp] at he
        simp only [cond_false, Option.map_eq_some_iff] at he
        obtain ⟨l, hl, rfl⟩ := he
        cases d1 <;> cases d2 <;> simp only [eqT, reduceCtorEq] at hr
        simp only [VRel] at h1 h2
        obtain ⟨vs, rfl, h1⟩ := h1
        obtain ⟨us, rfl, h2⟩ := h2
        have hfs : P.fieldsOf t = fs := by simp [Program.fieldsOf, hu]
        rw [run_equalIn_struct w k t vs us (by rw [hfs]; exact hu) hp, hfs]
        exact eq_fields (fun t e d1 d2 r v1 v2 a b c d k hk => eqT_rel n t e d1 d2 r v1 v2 a b c d k hk) (by omega) h1 h2 _ l r hl hr
    · rename_i len el hu
      simp only [Option.bind_eq_bind, Option.bind_eq_some_iff, Option.some.injEq] at he
      obtain ⟨s, hs, sz, hsz, e', he', rfl⟩ := he
      cases d1 <;> cases d2 <;> simp only [eqT, reduceCtorEq] at hr
      simp only [VRel] at h1 h2
      obtain ⟨vs, rfl, h1⟩ := h1
      obtain ⟨us, rfl, h2⟩ := h2
      let K : List Nat → Sem Bool := fun l => l.foldr (fun i r => do
        let p ← part el vs (i * sz)
        let q ← part el us (i * sz)
        let b ← Op.equalIn k el p q
        if (!b) = true then pure false else r) (pure true)
      rw [run_equalIn_array k t el len sz vs us hu hsz K rfl (fun _ _ => rfl)]
      obtain ⟨ii, bb, h3, h4, rfl⟩ := cSz_some hs
      generalize List.range len = L at hr
      induction L generalizing r with
      | nil => simp [eqTs] at hr; subst hr; rfl
      | cons i L ihL =>
        simp only [List.map_cons, eqTs] at hr
        have hsz' : szOf P el = some ii.size := by simp [szOf, h3]
        split at hr
        · rename_i d1 d2 hd1 hd2
          obtain ⟨v1, hv1, hr1⟩ := part_rel (P := P) h1 h4 hsz' hd1
          obtain ⟨v2, hv2, hr2⟩ := part_rel (P := P) h2 h4 hsz' hd2
          split at hr
          · rename_i b hb
            have heq := eqT_rel n el e' d1 d2 b v1 v2 he' hb hr1 hr2 k (by omega)
            show (do
              let p ← part el vs (i * sz)
              let q ← part el us (i * sz)
              let b ← Op.equalIn k el p q
              if (!b) = true then pure false else K L).run P w = _
            simp only [Sem.run_bind, hv1, hv2, heq, Result.andThen_ok]
            cases b with
            | false => simp at hr; subst hr; simp
            | true =>
              simp at hr
              simpa using ihL r hr
          · cases hr
        · cases hr
    · cases he

theorem op_bin (h : Rel E M0 w0 N μ M a w x) {op : BinOp} {t : TypeId} {o p : Operand} {ar pr : Arg} (h2 : cArg o = some ar) (h3 : cArg p = some pr) {d : D} {x' : AS}
    (hs : step E.G (.bin op ar pr) x = some (d, x')) : gd E M0 w0 N μ M w x a d x' w (do pure (.value (← (do eqGuard op t o p (a.eval o) (a.eval p); binOp op t (a.eval o) (a.eval p) : Sem Value)))) := by
  have hv := arg_rel h h2
  have hi := arg_rel h h3
  simp only [step_mv, st_mv, step_pick, st_pick, step_new, st_new, step_ld, st_ld, step_st, st_st, step_fa, st_fa, step_iaA, st_iaA, step_iaS, st_iaS, step_ixA, st_ixA, step_ixS, st_ixS, step_fld, st_fld, step_ext, st_ext, step_bin, st_bin, step_cmp, st_cmp, step_un, st_un, step_bld, st_bld, step_bsl, st_bsl, step_mks, st_mks, step_slS, st_slS, step_slV, st_slV, step_slA, st_slA, step_len, st_len, step_cap, st_cap, step_app, st_app, step_copy, st_copy, step_cvI, st_cvI, step_cvN, st_cvN, step_cvB, st_cvB, step_cvS, st_cvS, step_mkif, st_mkif, step_mkfn, st_mkfn, step_nilc, st_nilc, step_rng, st_rng, step_next, st_next, step_mm, st_mm, step_mkm, st_mkm, step_mlk, st_mlk, step_mup, st_mup, step_men, st_men, step_mst, st_mst, step_mln, st_mln, step_rgm, st_rgm, step_nxm, st_nxm, step_ent, st_ent, step_tas, st_tas, step_tai, st_tai, step_xl, st_xl, step_xa, st_xa, step_call, step_callv, step_inv, step_pan, step_dfr, step_rcv, Option.map_eq_some_iff] at hs
  obtain ⟨d', hs, he⟩ := hs
  cases he
  simp only [binD] at hs
  split at hs
  · rename_i k p' j q' he1 he2
    rw [he1] at hv; rw [he2] at hi
    simp only [VRel] at hv hi
    split at hs
    · obtain ⟨v, hr, hrun⟩ := sh_rel (j := j) (t := t) hs E.P w
      exact Good.of h (run_value (by rw [hv, hi, eqGuard_at_int]; simpa [binOp] using hrun)) hr
    · obtain ⟨v, hr, hrun⟩ := sh_rel (j := j) (t := t) hs E.P w
      exact Good.of h (run_value (by rw [hv, hi, eqGuard_at_int]; simpa [binOp] using hrun)) hr
    · rename_i hn1 hn2
      split at hs
      · rename_i hkj
        subst hkj
        obtain ⟨v, hr, hrun⟩ := int_rel (M := M) (μ := μ) hs (fun e => hn1 e) (fun e => hn2 e) E.P t w
        exact Good.of h (run_value (by rw [hv, hi, eqGuard_at_int]; simpa using hrun)) hr
      · cases hs
  · rename_i p' q' he1 he2
    rw [he1] at hv; rw [he2] at hi
    simp only [VRel] at hv hi
    obtain ⟨v, hr, hrun⟩ := strD_rel (M := M) (μ := μ) hs E.P t w
    exact Good.of h (run_value (by rw [hv, hi, eqGuard_at_string]; simpa using hrun)) hr
  · cases hs

theorem binOp_eqneq {P : Program} (t : TypeId) (v u : Value) (r : Bool) (neg : Bool) (w : World) (hn : (∀ k n, v ≠ .int k n) ∧ (∀ s, v ≠ .string s) ∧ (∀ k n, v ≠ .float k n) ∧ (∀ k n m, v ≠ .complex k n m))
    (h : (Op.equal t v u).run P w = .ok r w) : (binOp (bif neg then .neq else .eql) t v u).run P w = .ok (.bool (bif neg then !r else r)) w := by
  obtain ⟨n1, n2, n3, n4⟩ := hn
  cases neg <;> cases v <;> first
    | exact absurd rfl (n1 _ _)
    | exact absurd rfl (n2 _)
    | exact absurd rfl (n3 _ _)
    | exact absurd rfl (n4 _ _ _)
    | simp [binOp, h]

theorem eT_struct {P : Program} {n : Nat} {t : TypeId} {fs : Array Field} {e : ET} (hu : P.underlying t = some (.struct fs)) (he : eT P (n + 1) t = some e) : ∃ l, e = .parts l := by
  simp only [eT, hu] at he
  cases hp : P.stoodInHeld t <;> rw [hp] at he
  · simp only [cond_false, Option.map_eq_some_iff] at he
    obtain ⟨l, _, rfl⟩ := he
    exact ⟨l, rfl⟩
  · cases he

theorem eT_array {P : Program} {n : Nat} {t len el : Nat} {e : ET} (hu : P.underlying t = some (.array len el)) (he : eT P (n + 1) t = some e) : ∃ l, e = .parts l := by
  simp only [eT, hu, Option.bind_eq_bind, Option.bind_eq_some_iff, Option.some.injEq] at he
  obtain ⟨_, _, _, _, _, _, rfl⟩ := he
  exact ⟨_, rfl⟩

section eqs
variable {P : Program} (d : Nat) {t : TypeId} (w : World)
theorem eqn_slice1 {e : TypeId} (hu : P.underlying t = some (.slice e)) (b : Option Addr) (n c k l : Nat) : (Op.equalIn (d + 1) t (.slice none k l) (.slice b n c)).run P w = .ok b.isNone w := by
  simp [Op.equalIn, run_underlying hu]
theorem eqn_slice2 {e : TypeId} (hu : P.underlying t = some (.slice e)) (b : Addr) (n c k l : Nat) : (Op.equalIn (d + 1) t (.slice (some b) n c) (.slice none k l)).run P w = .ok false w := by
  simp [Op.equalIn, run_underlying hu]
theorem eqn_ptr1 {e : TypeId} (hu : P.underlying t = some (.pointer e)) (b : Option Addr) : (Op.equalIn (d + 1) t (.pointer none) (.pointer b)).run P w = .ok b.isNone w := by
  simp [Op.equalIn, run_underlying hu]
theorem eqn_ptr2 {e : TypeId} (hu : P.underlying t = some (.pointer e)) (b : Addr) : (Op.equalIn (d + 1) t (.pointer (some b)) (.pointer none)).run P w = .ok false w := by
  simp [Op.equalIn, run_underlying hu]
theorem eqn_ifc0 {ms : Array (String × TypeId)} (hu : P.underlying t = some (.interface ms)) : (Op.equalIn (d + 1) t .nilIface .nilIface).run P w = .ok true w := by
  simp [Op.equalIn, run_underlying hu]
theorem eqn_ifc1 {ms : Array (String × TypeId)} (hu : P.underlying t = some (.interface ms)) (k : TypeId) (v : Value) : (Op.equalIn (d + 1) t .nilIface (.iface k v)).run P w = .ok false w := by
  simp [Op.equalIn, run_underlying hu]
theorem eqn_ifc2 {ms : Array (String × TypeId)} (hu : P.underlying t = some (.interface ms)) (k : TypeId) (v : Value) : (Op.equalIn (d + 1) t (.iface k v) .nilIface).run P w = .ok false w := by
  simp [Op.equalIn, run_underlying hu]
theorem eqn_fn0 {p q : Array TypeId} {b : Bool} (hu : P.underlying t = some (.func p q b)) : (Op.equalIn (d + 1) t .nilFunc .nilFunc).run P w = .ok true w := by
  simp [Op.equalIn, run_underlying hu]
theorem eqn_fn1 {p q : Array TypeId} {b : Bool} (hu : P.underlying t = some (.func p q b)) (f : Fn) (k l : Array Value) : (Op.equalIn (d + 1) t .nilFunc (.func f k l)).run P w = .ok false w := by
  simp [Op.equalIn, run_underlying hu]
theorem eqn_fn2 {p q : Array TypeId} {b : Bool} (hu : P.underlying t = some (.func p q b)) (f : Fn) (k l : Array Value) : (Op.equalIn (d + 1) t (.func f k l) .nilFunc).run P w = .ok false w := by
  simp [Op.equalIn, run_underlying hu]
end eqs

theorem cmp_run {P : Program} {neg : Bool} {t : TypeId} {o p : Operand} {k : EK} (hk : cmpK P t o p = some k) {d1 d2 : D} {r : Bool} (hs : cmpD k d1 d2 = some r) {v u : Value} (hv : VRel M w μ d1 v) (hi : VRel M w μ d2 u) :
    (do eqGuard (bif neg then .neq else .eql) t o p v u; binOp (bif neg then .neq else .eql) t v u : Sem Value).run P w = .ok (.bool (bif neg then !r else r)) w := by
  have fin : (eqGuard (bif neg then .neq else .eql) t o p v u).run P w = .ok () w → ((∀ k n, v ≠ .int k n) ∧ (∀ s, v ≠ .string s) ∧ (∀ k n, v ≠ .float k n) ∧ (∀ k n m, v ≠ .complex k n m)) →
      (Op.equal t v u).run P w = .ok r w →
      (do eqGuard (bif neg then .neq else .eql) t o p v u; binOp (bif neg then .neq else .eql) t v u : Sem Value).run P w = .ok (.bool (bif neg then !r else r)) w := by
    intro hg hn he
    simp only [Sem.run_bind, hg, Result.andThen_ok]
    exact binOp_eqneq t _ _ r neg w hn he
  have agg : P.eqGuardType P.depth t = false → ∀ e, eT P 20 t = some e → (∃ l, e = .parts l) → eqT e d1 d2 = some r →
      (do eqGuard (bif neg then .neq else .eql) t o p v u; binOp (bif neg then .neq else .eql) t v u : Sem Value).run P w = .ok (.bool (bif neg then !r else r)) w := by
    intro hg e he hl hs
    obtain ⟨l, rfl⟩ := hl
    have heq := eqT_rel 20 t _ _ _ r _ _ he hs hv hi 10000 (by omega)
    cases d1 <;> cases d2 <;> simp only [eqT, reduceCtorEq] at hs
    simp only [VRel] at hv hi
    obtain ⟨vs, rfl, _⟩ := hv
    obtain ⟨us, rfl, _⟩ := hi
    exact fin (run_eqGuard_agg w _ t o p vs us hg) (by simp) heq
  simp only [cmpK] at hk
  split at hk
  · rename_i hu
    cases hk
    simp only [cmpD] at hs
    cases d1 <;> cases d2 <;> simp only [eqT, reduceCtorEq] at hs
    simp at hs; subst hs
    simp only [VRel] at hv hi
    subst hv; subst hi
    exact fin (by simp [eqGuard_at_bool]) (by simp) (run_equalIn_bool' w 9999 t _ _ hu)
  · rename_i hu
    cases hg : P.eqGuardType P.depth t <;> rw [hg] at hk
    · simp only [cond_false, Option.map_eq_some_iff] at hk
      obtain ⟨e, he, rfl⟩ := hk
      exact agg hg e he (eT_struct hu he) hs
    · cases hk
  · rename_i hu
    cases hg : P.eqGuardType P.depth t <;> rw [hg] at hk
    · simp only [cond_false, Option.map_eq_some_iff] at hk
      obtain ⟨e, he, rfl⟩ := hk
      exact agg hg e he (eT_array hu he) hs
    · cases hk
  · rename_i e hu
    cases hk
    cases d1 <;> cases d2 <;> simp only [cmpD, reduceCtorEq] at hs
    · cases hs
      simp only [VRel] at hv hi; subst hv; subst hi
      exact fin (by simp [eqGuard_at_slice]) (by simp) (eqn_slice1 9999 w hu _ _ _ _ _)
    · rename_i ex len cs
      cases len <;> simp only [cmpD, reduceCtorEq] at hs
      cases hs
      simp only [VRel] at hv hi; subst hv
      obtain ⟨ad, cap, rfl, _, _, h3⟩ := hi
      rcases h3 with h3 | ⟨b, q, rfl, _⟩
      · omega
      exact fin (by simp [eqGuard_at_slice]) (by simp) (eqn_slice1 9999 w hu _ _ _ _ _)
    · cases hs
      simp only [VRel] at hv hi; subst hv
      obtain ⟨l, b, _, _, rfl, _⟩ := hi
      exact fin (by simp [eqGuard_at_slice]) (by simp) (eqn_slice1 9999 w hu _ _ _ _ _)
    · rename_i nm off sz len
      cases len <;> simp only [cmpD, reduceCtorEq] at hs
      cases hs
      simp only [VRel] at hv hi; subst hv
      obtain ⟨⟨lb, lc⟩, cap, _, rfl, h3, _, h4⟩ := hi
      cases lb with
      | none => have := h4 rfl; omega
      | some b => exact fin (by simp [eqGuard_at_slice]) (by simp) (eqn_slice1 9999 w hu _ _ _ _ _)
    · rename_i ex len cs
      cases len <;> simp only [cmpD, reduceCtorEq] at hs
      cases hs
      simp only [VRel] at hv hi; subst hi
      obtain ⟨ad, cap, rfl, _, _, h3⟩ := hv
      rcases h3 with h3 | ⟨b, q, rfl, _⟩
      · omega
      exact fin (by simp [eqGuard_at_slice]) (by simp) (eqn_slice2 9999 w hu _ _ _ _ _)
    · cases hs
      simp only [VRel] at hv hi; subst hi
      obtain ⟨l, b, _, _, rfl, _⟩ := hv
      exact fin (by simp [eqGuard_at_slice]) (by simp) (eqn_slice2 9999 w hu _ _ _ _ _)
    · rename_i nm off sz len
      cases len <;> simp only [cmpD, reduceCtorEq] at hs
      cases hs
      simp only [VRel] at hv hi; subst hi
      obtain ⟨⟨lb, lc⟩, cap, _, rfl, h3, _, h4⟩ := hv
      cases lb with
      | none => have := h4 rfl; omega
      | some b => exact fin (by simp [eqGuard_at_slice]) (by simp) (eqn_slice2 9999 w hu _ _ _ _ _)
  · rename_i e hu
    cases hk
    cases d1 <;> cases d2 <;> simp only [cmpD, reduceCtorEq] at hs
    all_goals cases hs
    all_goals simp only [VRel] at hv hi
    · obtain ⟨l, b, _, _, rfl⟩ := hv; subst hi
      exact fin (by simp [eqGuard_at_pointer]) (by simp) (eqn_ptr2 9999 w hu _)
    · obtain ⟨b, q, rfl, _⟩ := hv; subst hi
      exact fin (by simp [eqGuard_at_pointer]) (by simp) (eqn_ptr2 9999 w hu _)
    · obtain ⟨l, b, _, _, rfl⟩ := hi; subst hv
      exact fin (by simp [eqGuard_at_pointer]) (by simp) (eqn_ptr1 9999 w hu _)
    · obtain ⟨b, q, rfl, _⟩ := hi; subst hv
      exact fin (by simp [eqGuard_at_pointer]) (by simp) (eqn_ptr1 9999 w hu _)
    · subst hv; subst hi
      exact fin (by simp [eqGuard_at_pointer]) (by simp) (eqn_ptr1 9999 w hu _)
  · rename_i ms hu
    cases hk
    cases d1 <;> cases d2 <;> simp only [cmpD, reduceCtorEq] at hs
    · cases hs
      simp only [VRel] at hv hi
      obtain ⟨y, rfl, _⟩ := hv; subst hi
      exact fin (by simp [eqGuard_at_iface]) (by simp) (eqn_ifc2 9999 w hu _ _)
    · cases hs
      simp only [VRel] at hv hi
      obtain ⟨y, rfl, _⟩ := hi; subst hv
      exact fin (by simp [eqGuard_nil_iface]) (by simp) (eqn_ifc1 9999 w hu _ _)
    · cases hc : (isConstO o || isConstO p) <;> rw [hc] at hs
      · cases hs
      · simp at hs; subst hs
        simp only [VRel] at hv hi; subst hv; subst hi
        refine fin ?_ (by simp) (eqn_ifc0 9999 w hu)
        cases o <;> cases p <;> simp [isConstO] at hc <;> first
          | simp [eqGuard_nil_constR]
          | simp [eqGuard_nil_constL]
  · rename_i hu
    cases hk
    cases d1 <;> cases d2 <;> simp only [cmpD, reduceCtorEq] at hs
    all_goals cases hs
    all_goals simp only [VRel] at hv hi
    · obtain ⟨va, vb, rfl, _⟩ := hv; subst hi
      exact fin (by simp [eqGuard_at_func]) (by simp) (eqn_fn2 9999 w hu _ _ _)
    · obtain ⟨va, vb, rfl, _⟩ := hi; subst hv
      exact fin (by simp [eqGuard_at_nilFunc]) (by simp) (eqn_fn1 9999 w hu _ _ _)
    · subst hv; subst hi
      exact fin (by simp [eqGuard_at_nilFunc]) (by simp) (eqn_fn0 9999 w hu)
  · cases hk

theorem op_cmp (h : Rel E M0 w0 N μ M a w x) {neg : Bool} {t : TypeId} {o p : Operand} {k : EK} {ar pr : Arg} (hk : cmpK E.P t o p = some k) (h2 : cArg o = some ar) (h3 : cArg p = some pr) {d : D} {x' : AS}
    (hs : step E.G (.cmp neg k ar pr) x = some (d, x')) :
    gd E M0 w0 N μ M w x a d x' w (do pure (.value (← (do eqGuard (bif neg then .neq else .eql) t o p (a.eval o) (a.eval p); binOp (bif neg then .neq else .eql) t (a.eval o) (a.eval p) : Sem Value)))) := by
  have hv := arg_rel h h2
  have hi := arg_rel h h3
  simp only [step_mv, st_mv, step_pick, st_pick, step_new, st_new, step_ld, st_ld, step_st, st_st, step_fa, st_fa, step_iaA, st_iaA, step_iaS, st_iaS, step_ixA, st_ixA, step_ixS, st_ixS, step_fld, st_fld, step_ext, st_ext, step_bin, st_bin, step_cmp, st_cmp, step_un, st_un, step_bld, st_bld, step_bsl, st_bsl, step_mks, st_mks, step_slS, st_slS, step_slV, st_slV, step_slA, st_slA, step_len, st_len, step_cap, st_cap, step_app, st_app, step_copy, st_copy, step_cvI, st_cvI, step_cvN, st_cvN, step_cvB, st_cvB, step_cvS, st_cvS, step_mkif, st_mkif, step_mkfn, st_mkfn, step_nilc, st_nilc, step_rng, st_rng, step_next, st_next, step_mm, st_mm, step_mkm, st_mkm, step_mlk, st_mlk, step_mup, st_mup, step_men, st_men, step_mst, st_mst, step_mln, st_mln, step_rgm, st_rgm, step_nxm, st_nxm, step_ent, st_ent, step_tas, st_tas, step_tai, st_tai, step_xl, st_xl, step_xa, st_xa, step_call, step_callv, step_inv, step_pan, step_dfr, step_rcv, Option.map_eq_some_iff] at hs
  obtain ⟨r, hs, he⟩ := hs
  cases he
  exact Good.of h (run_value (cmp_run hk hs hv hi)) (by simp only [VRel])
end

end Zv
