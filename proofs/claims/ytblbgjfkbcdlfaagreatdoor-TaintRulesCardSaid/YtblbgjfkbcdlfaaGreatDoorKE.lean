/- Steps with their guards, and regions that are run in the order of the text. Conditions: none. -/
import Derived.Test.YtblbgjfkbcdlfaaGreatDoorKD
set_option linter.unusedSimpArgs false
set_option linter.unusedVariables false
namespace Iv
open Go

section
variable {E : Env} {M0 : Nat → Prop} {w0 : World} {N : Nat} {μ : Mu} {M : Nat → Prop} {a : Act} {w : World} {x : AS}

theorem tmp_bool (h : Rel E M0 w0 N μ M a w x) {g : Nat} {b : Bool} (hg : tget x.t g = .bool b) : a.tmps[g]? = some (.bool b) := by
  have := h.tm g
  rw [hg] at this
  simp only [VRel] at this
  rw [Array.getD_eq_getD_getElem?] at this
  cases he : a.tmps[g]? with
  | none => rw [he] at this; simp [undef] at this
  | some v => rw [he] at this; simp only [Option.getD_some] at this; rw [this]

theorem tmp_skip (h : Rel E M0 w0 N μ M a w x) {g : Nat} (hg : tget x.t g = .tup []) : a.tmps[g]? = none ∨ a.tmps[g]? = some (.tuple #[]) := by
  have := h.tm g
  rw [hg] at this
  simp only [VRel] at this
  obtain ⟨vs, hv, hr⟩ := this
  simp only [VRels] at hr
  rw [Array.getD_eq_getD_getElem?] at hv
  cases he : a.tmps[g]? with
  | none => exact .inl rfl
  | some v =>
    rw [he] at hv; simp only [Option.getD_some] at hv
    right; rw [hv, show vs = #[] from Array.toList_eq_nil_iff.1 hr]

/-- One step: carried out or passed over. -/
theorem step_on (h : Rel E M0 w0 N μ M a w x) {base id i : Nat} {ops : Array Oper} {o : Oper} {ao : AOper} (hc : cOper E.P N base id ops i o = some ao.bare) {K : AS → Prop} (hK : AStepK E ao x K)
    {next : Act → World → Prop} {Q : Exit → Act → World → Prop} (hn : ∀ a w μ M x, Rel E M0 w0 N μ M a w x → K x → next a w) :
    (Region.wanted o (yielded ops a.tmps) = true ∧ o.wp E.P a w next Q) ∨ (Region.wanted o (yielded ops a.tmps) = false ∧ next (a.put o.dst undef) w) := by
  obtain ⟨hop, hdst, hgd, hd⟩ := cOper_spec hc
  have hdst : ao.dst = o.dst := hdst
  have hgd : cGuard ops o.guard = some ao.guard := hgd
  have skip : K (x.put ao.dst (.tup [])) → next (a.put o.dst undef) w := fun hk => by
    rw [hdst] at hk
    exact hn _ _ _ _ _ (h.put hd (by simp only [VRel]; exact ⟨#[], rfl, rfl⟩)) hk
  unfold AStepK at hK
  cases hg : o.guard with
  | none =>
    rw [hg] at hgd
    simp only [cGuard, Option.some.injEq] at hgd
    rw [← hgd] at hK
    exact .inl ⟨by simp [Region.wanted, hg], oper_on h hc hK hn⟩
  | some p =>
    obtain ⟨j, want⟩ := p
    rw [hg] at hgd
    simp only [cGuard, Option.bind_eq_bind, Option.bind_eq_some_iff, Option.some.injEq] at hgd
    obtain ⟨oj, hoj, t, ht, hgd⟩ := hgd
    rw [← hgd] at hK
    dsimp only at hK
    split at hK
    · rename_i b hb
      have hy : yielded ops a.tmps j = some b := by simp [yielded, hoj, ht, tmp_bool h hb]
      by_cases hbw : b = want
      · rw [if_pos hbw] at hK
        exact .inl ⟨by simp [Region.wanted, hg, hy, hbw], oper_on h hc hK hn⟩
      · rw [if_neg hbw] at hK
        exact .inr ⟨by simp [Region.wanted, hg, hy, hbw], skip hK⟩
    · rename_i hb
      have hy' : yielded ops a.tmps j = none := by
        rcases tmp_skip h hb with e | e <;> simp [yielded, hoj, ht, e]
      exact .inr ⟨by simp [Region.wanted, hg, hy'], skip hK⟩
    · exact hK.elim

theorem cOpers_cons {P : Program} {base id i : Nat} {ops : Array Oper} {o : Oper} {r : List Oper} {as : List AOper} (hc : cOpers P N base id ops i (o :: r) = some as) :
    ∃ ao as', cOper P N base id ops i o = some ao ∧ cOpers P N base id ops (i + 1) r = some as' ∧ as = ao :: as' := by
  simp only [cOpers, Option.bind_eq_bind, Option.bind_eq_some_iff, Option.some.injEq] at hc
  obtain ⟨ao, h1, as', h2, rfl⟩ := hc
  exact ⟨ao, as', h1, h2, rfl⟩

theorem list_sound {base id : Nat} {ops : Array Oper} {Q : Exit → Act → World → Prop} {K : AS → Prop}
    (hn : ∀ a w μ M x, Rel E M0 w0 N μ M a w x → K x → Q .normal a w) :
    ∀ (l : List Oper) (i : Nat) (as : List AOper), cOpers E.P N base id ops i l = some (as.map AOper.bare) → ∀ (μ : Mu) (M : Nat → Prop) (a : Act) (w : World) (x : AS),
      Rel E M0 w0 N μ M a w x → ARun E as x K → wpList E.P ops Q l a w
  | [], i, as, hc, μ, M, a, w, x, h, hK => by
    simp only [cOpers, Option.some.injEq] at hc
    have : as = [] := by simpa using hc.symm
    subst this
    exact hn _ _ _ _ _ h hK
  | o :: r, i, as, hc, μ, M, a, w, x, h, hK => by
    obtain ⟨bo, bs, h1, h2, hb⟩ := cOpers_cons hc
    cases as with
    | nil => cases hb
    | cons ao as' =>
    simp only [List.map_cons, List.cons.injEq] at hb
    obtain ⟨rfl, rfl⟩ := hb
    simp only [ARun] at hK
    rcases step_on h h1 hK (next := wpList E.P ops Q r) (Q := Q) (fun a w μ M x h hk => list_sound hn r (i + 1) as' h2 μ M a w x h hk) with ⟨e, hh⟩ | ⟨e, hh⟩
    · simp only [wpList, e, if_true]; exact .inl hh
    · simp only [wpList, e, Bool.false_eq_true, if_false]; exact hh

theorem region_text {base id : Nat} {ops : Array Oper} {as : List AOper} (hc : cOpers E.P N base id ops 0 ops.toList = some (as.map AOper.bare)) {Q : Exit → Act → World → Prop} {K : AS → Prop}
    (h : Rel E M0 w0 N μ M a w x) (hK : ARun E as x K) (hn : ∀ a w μ M x, Rel E M0 w0 N μ M a w x → K x → Q .normal a w) : (Code.region id ops false).wp E.P Q a w :=
  wp_region_list (list_sound hn ops.toList 0 as hc μ M a w x h hK)
end

end Iv
/- Each operation has to do with the temporaries and blocks that its footprint names, and with no others. Conditions: none. -/
set_option linter.unusedSimpArgs false
set_option linter.unusedVariables false
namespace Iv
open Go

/-- Operations that have nothing to do with blocks. -/
def AOp.plain : AOp → Bool
  | .ld .. => false
  | .st .. => false
  | .new .. => false
  | .bsl .. => false
  | .mks .. => false
  | .slA .. => false
  | .app .. => false
  | .copy .. => false
  | .cvB .. => false
  | .cvS .. => false
  | .rng .. => false
  | .next .. => false
  | .call .. => false
  | .callv .. => false
  | _ => true

section
variable {G : List (Nat × List D)}

theorem ev_congr {t t' : Tm} (a : Arg) (h : ∀ n ∈ a.tmps, tget t' n = tget t n) : a.ev G t' = a.ev G t := by
  cases a <;> simp only [Arg.ev]
  exact h _ (by simp [Arg.tmps])

theorem evo_congr {t t' : Tm} (a : Option Arg) (h : ∀ n ∈ optTmps a, tget t' n = tget t n) : a.map (·.ev G t') = a.map (·.ev G t) := by
  cases a with
  | none => rfl
  | some a => simp only [Option.map_some, ev_congr a h]

theorem evs_congr {t t' : Tm} (l : List Arg) (h : ∀ n ∈ argsTmps l, tget t' n = tget t n) : l.map (·.ev G t') = l.map (·.ev G t) := by
  refine List.map_congr_left fun a ha => ev_congr a fun n hn => h n ?_
  simp only [argsTmps, List.mem_flatMap]; exact ⟨a, ha, hn⟩

theorem parts_congr {t t' : Tm} (l : List (Nat × Nat × Arg)) (h : ∀ n ∈ partsTmps l, tget t' n = tget t n) : parts G t' l = parts G t l := by
  refine List.map_congr_left fun a ha => ?_
  rw [ev_congr a.2.2 fun n hn => h n ?_]
  simp only [partsTmps, List.mem_flatMap]; exact ⟨a, ha, hn⟩

theorem step_plain {op : AOp} (hp : op.plain = true) {x y : AS} (ht : ∀ t ∈ op.tmps, tget y.t t = tget x.t t) :
    step G op y = (step G op x).map fun p => (p.1, y) := by
  cases op <;> simp only [AOp.plain, Bool.false_eq_true] at hp
  case mv a =>
    have ea := ev_congr (G := G) a (fun t h => ht t (by simp [AOp.tmps, h]))
    simp only [step, ea]
    try (split <;> simp [Option.map_bind, Function.comp_def, apply_ite (Option.map _), cond_eq_ite, *])
    try (simp [Option.map_bind, Function.comp_def, apply_ite (Option.map _), cond_eq_ite, *]; done)
    try (split <;> simp [Option.map_bind, Function.comp_def, apply_ite (Option.map _), cond_eq_ite, *])
  case pick c a b =>
    have ec := ev_congr (G := G) c (fun t h => ht t (by simp [AOp.tmps, h]))
    have ea := ev_congr (G := G) a (fun t h => ht t (by simp [AOp.tmps, h]))
    have eb := ev_congr (G := G) b (fun t h => ht t (by simp [AOp.tmps, h]))
    simp only [step, ec, ea, eb]
    try (split <;> simp [Option.map_bind, Function.comp_def, apply_ite (Option.map _), cond_eq_ite, *])
    try (simp [Option.map_bind, Function.comp_def, apply_ite (Option.map _), cond_eq_ite, *]; done)
    try (split <;> simp [Option.map_bind, Function.comp_def, apply_ite (Option.map _), cond_eq_ite, *])
  case fa o a =>
    have ea := ev_congr (G := G) a (fun t h => ht t (by simp [AOp.tmps, h]))
    simp only [step, ea]
    try (split <;> simp [Option.map_bind, Function.comp_def, apply_ite (Option.map _), cond_eq_ite, *])
    try (simp [Option.map_bind, Function.comp_def, apply_ite (Option.map _), cond_eq_ite, *]; done)
    try (split <;> simp [Option.map_bind, Function.comp_def, apply_ite (Option.map _), cond_eq_ite, *])
  case iaA n sz a i =>
    have ea := ev_congr (G := G) a (fun t h => ht t (by simp [AOp.tmps, h]))
    have ei := ev_congr (G := G) i (fun t h => ht t (by simp [AOp.tmps, h]))
    simp only [step, ea, ei]
    try (split <;> simp [Option.map_bind, Function.comp_def, apply_ite (Option.map _), cond_eq_ite, *])
    try (simp [Option.map_bind, Function.comp_def, apply_ite (Option.map _), cond_eq_ite, *]; done)
    try (split <;> simp [Option.map_bind, Function.comp_def, apply_ite (Option.map _), cond_eq_ite, *])
  case iaS sz a i =>
    have ea := ev_congr (G := G) a (fun t h => ht t (by simp [AOp.tmps, h]))
    have ei := ev_congr (G := G) i (fun t h => ht t (by simp [AOp.tmps, h]))
    simp only [step, ea, ei]
    try (split <;> simp [Option.map_bind, Function.comp_def, apply_ite (Option.map _), cond_eq_ite, *])
    try (simp [Option.map_bind, Function.comp_def, apply_ite (Option.map _), cond_eq_ite, *]; done)
    try (split <;> simp [Option.map_bind, Function.comp_def, apply_ite (Option.map _), cond_eq_ite, *])
  case ixA n sz ag a i =>
    have ea := ev_congr (G := G) a (fun t h => ht t (by simp [AOp.tmps, h]))
    have ei := ev_congr (G := G) i (fun t h => ht t (by simp [AOp.tmps, h]))
    simp only [step, ea, ei]
    try (split <;> simp [Option.map_bind, Function.comp_def, apply_ite (Option.map _), cond_eq_ite, *])
    try (simp [Option.map_bind, Function.comp_def, apply_ite (Option.map _), cond_eq_ite, *]; done)
    try (split <;> simp [Option.map_bind, Function.comp_def, apply_ite (Option.map _), cond_eq_ite, *])
  case ixS a i =>
    have ea := ev_congr (G := G) a (fun t h => ht t (by simp [AOp.tmps, h]))
    have ei := ev_congr (G := G) i (fun t h => ht t (by simp [AOp.tmps, h]))
    simp only [step, ea, ei]
    try (split <;> simp [Option.map_bind, Function.comp_def, apply_ite (Option.map _), cond_eq_ite, *])
    try (simp [Option.map_bind, Function.comp_def, apply_ite (Option.map _), cond_eq_ite, *]; done)
    try (split <;> simp [Option.map_bind, Function.comp_def, apply_ite (Option.map _), cond_eq_ite, *])
  case fld o sz a =>
    have ea := ev_congr (G := G) a (fun t h => ht t (by simp [AOp.tmps, h]))
    simp only [step, ea]
    try (split <;> simp [Option.map_bind, Function.comp_def, apply_ite (Option.map _), cond_eq_ite, *])
    try (simp [Option.map_bind, Function.comp_def, apply_ite (Option.map _), cond_eq_ite, *]; done)
    try (split <;> simp [Option.map_bind, Function.comp_def, apply_ite (Option.map _), cond_eq_ite, *])
  case ext i a =>
    have ea := ev_congr (G := G) a (fun t h => ht t (by simp [AOp.tmps, h]))
    simp only [step, ea]
    try (split <;> simp [Option.map_bind, Function.comp_def, apply_ite (Option.map _), cond_eq_ite, *])
    try (simp [Option.map_bind, Function.comp_def, apply_ite (Option.map _), cond_eq_ite, *]; done)
    try (split <;> simp [Option.map_bind, Function.comp_def, apply_ite (Option.map _), cond_eq_ite, *])
  case bin o a b =>
    have ea := ev_congr (G := G) a (fun t h => ht t (by simp [AOp.tmps, h]))
    have eb := ev_congr (G := G) b (fun t h => ht t (by simp [AOp.tmps, h]))
    simp only [step, ea, eb]
    try (split <;> simp [Option.map_bind, Function.comp_def, apply_ite (Option.map _), cond_eq_ite, *])
    try (simp [Option.map_bind, Function.comp_def, apply_ite (Option.map _), cond_eq_ite, *]; done)
    try (split <;> simp [Option.map_bind, Function.comp_def, apply_ite (Option.map _), cond_eq_ite, *])
  case cmp ng k a b =>
    have ea := ev_congr (G := G) a (fun t h => ht t (by simp [AOp.tmps, h]))
    have eb := ev_congr (G := G) b (fun t h => ht t (by simp [AOp.tmps, h]))
    simp only [step, ea, eb]
    try (split <;> simp [Option.map_bind, Function.comp_def, apply_ite (Option.map _), cond_eq_ite, *])
    try (simp [Option.map_bind, Function.comp_def, apply_ite (Option.map _), cond_eq_ite, *]; done)
    try (split <;> simp [Option.map_bind, Function.comp_def, apply_ite (Option.map _), cond_eq_ite, *])
  case un o a =>
    have ea := ev_congr (G := G) a (fun t h => ht t (by simp [AOp.tmps, h]))
    simp only [step, ea]
    try (split <;> simp [Option.map_bind, Function.comp_def, apply_ite (Option.map _), cond_eq_ite, *])
    try (simp [Option.map_bind, Function.comp_def, apply_ite (Option.map _), cond_eq_ite, *]; done)
    try (split <;> simp [Option.map_bind, Function.comp_def, apply_ite (Option.map _), cond_eq_ite, *])
  case bld cs ps =>
    have eps := parts_congr (G := G) ps (fun t h => ht t (by simp [AOp.tmps, h]))
    simp only [step, eps]
    try (split <;> simp [Option.map_bind, Function.comp_def, apply_ite (Option.map _), cond_eq_ite, *])
    try (simp [Option.map_bind, Function.comp_def, apply_ite (Option.map _), cond_eq_ite, *]; done)
    try (split <;> simp [Option.map_bind, Function.comp_def, apply_ite (Option.map _), cond_eq_ite, *])
  case slS a l h =>
    have ea := ev_congr (G := G) a (fun t h => ht t (by simp [AOp.tmps, h]))
    have el := evo_congr (G := G) l (fun t h => ht t (by simp [AOp.tmps, h]))
    have eh := evo_congr (G := G) h (fun t h => ht t (by simp [AOp.tmps, h]))
    simp only [step, ea, el, eh]
    try (split <;> simp [Option.map_bind, Function.comp_def, apply_ite (Option.map _), cond_eq_ite, *])
    try (simp [Option.map_bind, Function.comp_def, apply_ite (Option.map _), cond_eq_ite, *]; done)
    try (split <;> simp [Option.map_bind, Function.comp_def, apply_ite (Option.map _), cond_eq_ite, *])
  case slV sz a l h m =>
    have ea := ev_congr (G := G) a (fun t h => ht t (by simp [AOp.tmps, h]))
    have el := evo_congr (G := G) l (fun t h => ht t (by simp [AOp.tmps, h]))
    have eh := evo_congr (G := G) h (fun t h => ht t (by simp [AOp.tmps, h]))
    cases m with
    | none =>
        simp only [step, ea, el, eh, Option.map_none]
        try (split <;> simp [Option.map_bind, Function.comp_def, apply_ite (Option.map _), cond_eq_ite, *])
        try (simp [Option.map_bind, Function.comp_def, apply_ite (Option.map _), cond_eq_ite, *]; done)
    | some m =>
        have em := ev_congr (G := G) m (fun t h => ht t (by simp [AOp.tmps, optTmps, h]))
        simp only [step, ea, el, eh, Option.map_some, em]
        try (split <;> simp [Option.map_bind, Function.comp_def, apply_ite (Option.map _), cond_eq_ite, *])
        try (simp [Option.map_bind, Function.comp_def, apply_ite (Option.map _), cond_eq_ite, *]; done)
  case len st a =>
    have ea := ev_congr (G := G) a (fun t h => ht t (by simp [AOp.tmps, h]))
    simp only [step, ea]
    try (split <;> simp [Option.map_bind, Function.comp_def, apply_ite (Option.map _), cond_eq_ite, *])
    try (simp [Option.map_bind, Function.comp_def, apply_ite (Option.map _), cond_eq_ite, *]; done)
    try (split <;> simp [Option.map_bind, Function.comp_def, apply_ite (Option.map _), cond_eq_ite, *])
  case cap a =>
    have ea := ev_congr (G := G) a (fun t h => ht t (by simp [AOp.tmps, h]))
    simp only [step, ea]
    try (split <;> simp [Option.map_bind, Function.comp_def, apply_ite (Option.map _), cond_eq_ite, *])
    try (simp [Option.map_bind, Function.comp_def, apply_ite (Option.map _), cond_eq_ite, *]; done)
    try (split <;> simp [Option.map_bind, Function.comp_def, apply_ite (Option.map _), cond_eq_ite, *])
  case cvI k a =>
    have ea := ev_congr (G := G) a (fun t h => ht t (by simp [AOp.tmps, h]))
    simp only [step, ea]
    try (split <;> simp [Option.map_bind, Function.comp_def, apply_ite (Option.map _), cond_eq_ite, *])
    try (simp [Option.map_bind, Function.comp_def, apply_ite (Option.map _), cond_eq_ite, *]; done)
    try (split <;> simp [Option.map_bind, Function.comp_def, apply_ite (Option.map _), cond_eq_ite, *])
  case cvN a =>
    have ea := ev_congr (G := G) a (fun t h => ht t (by simp [AOp.tmps, h]))
    simp only [step, ea]
    try (split <;> simp [Option.map_bind, Function.comp_def, apply_ite (Option.map _), cond_eq_ite, *])
    try (simp [Option.map_bind, Function.comp_def, apply_ite (Option.map _), cond_eq_ite, *]; done)
    try (split <;> simp [Option.map_bind, Function.comp_def, apply_ite (Option.map _), cond_eq_ite, *])
  case mkif t a =>
    have ea := ev_congr (G := G) a (fun t h => ht t (by simp [AOp.tmps, h]))
    simp only [step, ea]
    try (split <;> simp [Option.map_bind, Function.comp_def, apply_ite (Option.map _), cond_eq_ite, *])
    try (simp [Option.map_bind, Function.comp_def, apply_ite (Option.map _), cond_eq_ite, *]; done)
    try (split <;> simp [Option.map_bind, Function.comp_def, apply_ite (Option.map _), cond_eq_ite, *])
  case mkfn f a b =>
    have ea := evs_congr (G := G) a (fun t h => ht t (by simp [AOp.tmps, h]))
    have eb := evs_congr (G := G) b (fun t h => ht t (by simp [AOp.tmps, h]))
    simp only [step, ea, eb]
    try (split <;> simp [Option.map_bind, Function.comp_def, apply_ite (Option.map _), cond_eq_ite, *])
    try (simp [Option.map_bind, Function.comp_def, apply_ite (Option.map _), cond_eq_ite, *]; done)
    try (split <;> simp [Option.map_bind, Function.comp_def, apply_ite (Option.map _), cond_eq_ite, *])
  case nilc a =>
    have ea := ev_congr (G := G) a (fun t h => ht t (by simp [AOp.tmps, h]))
    simp only [step, ea]
    try (split <;> simp [Option.map_bind, Function.comp_def, apply_ite (Option.map _), cond_eq_ite, *])
    try (simp [Option.map_bind, Function.comp_def, apply_ite (Option.map _), cond_eq_ite, *]; done)
    try (split <;> simp [Option.map_bind, Function.comp_def, apply_ite (Option.map _), cond_eq_ite, *])
  case mm mx a b =>
    have ea := ev_congr (G := G) a (fun t h => ht t (by simp [AOp.tmps, h]))
    have eb := ev_congr (G := G) b (fun t h => ht t (by simp [AOp.tmps, h]))
    simp only [step, ea, eb]
    try (split <;> simp [Option.map_bind, Function.comp_def, apply_ite (Option.map _), cond_eq_ite, *])
    try (simp [Option.map_bind, Function.comp_def, apply_ite (Option.map _), cond_eq_ite, *]; done)
    try (split <;> simp [Option.map_bind, Function.comp_def, apply_ite (Option.map _), cond_eq_ite, *])

theorem step_plain_same {op : AOp} (hp : op.plain = true) {x x1 : AS} {d : D} (h : step G op x = some (d, x1)) : x1 = x := by
  rw [step_plain hp (x := x) (y := x) (fun _ _ => rfl), Option.map_eq_some_iff] at h
  obtain ⟨p, _, h⟩ := h
  simp only [Prod.mk.injEq] at h
  exact h.2.symm
end

end Iv
/- Each operation has to do with the temporaries and blocks that its footprint names, and with no others: those that read or write blocks. Conditions: none. -/
set_option linter.unusedSimpArgs false
set_option linter.unusedVariables false
namespace Iv
open Go

def killO : List Nat → D → D
  | [], d => d
  | m :: r, d => killO r (D.kill m d)
def bkillO : List Nat → Blk → Blk
  | [], b => b
  | m :: r, b => bkillO r (Blk.kill m b)

/-- 'y1' comes of 'y' as 'x1' of 'x': the same row is moved, the same blocks are written. -/
def After (k : List Nat) (W : List Nat) (x1 y y1 : AS) : Prop :=
  (∀ t, tget y1.t t = killO k (tget y.t t)) ∧ ∀ n, sget y1.s n = if n ∈ W then sget x1.s n else (sget y.s n).map (bkillO k)

theorem map_bkill_none (o : Option Blk) : o.map (bkillO []) = o := by cases o <;> rfl

theorem After.same (x1 y : AS) : After [] [] x1 y y :=
  ⟨fun _ => rfl, fun n => by simp [map_bkill_none]⟩

theorem After.write {x1 y y1 : AS} {W : List Nat} (ht : y1.t = y.t) (hs : ∀ n, sget y1.s n = if n ∈ W then sget x1.s n else sget y.s n) : After [] W x1 y y1 :=
  ⟨fun _ => by rw [ht]; rfl, fun n => by rw [map_bkill_none]; exact hs n⟩

section
variable {G : List (Nat × List D)}

theorem seen_congr {s s' : St} {d : D} (h : ∀ n ∈ d.nms, sget s' n = sget s n) : seen s' d = seen s d := by
  cases d <;> simp only [seen]
  rw [h _ (by simp [D.nms])]

theorem sliceCells_congr {s s' : St} {sz : Nat} {d : D} (h : ∀ n ∈ d.nms, sget s' n = sget s n) : sliceCells s' sz d = sliceCells s sz d := by
  cases d <;> simp only [sliceCells]
  · rw [h _ (by simp [D.nms])]
  · rw [h _ (by simp [D.nms])]

theorem shas_congr {s s' : St} {n : Nat} (h : sget s' n = sget s n) : shas s' n = shas s n := by simp only [shas, h]

theorem add_iff {x x1 : AS} {nm : Nat} {b : Blk} : x.add nm b = some x1 ↔ shas x.s nm = false ∧ x1 = ⟨x.t, (nm, b) :: x.s⟩ := by
  unfold AS.add
  cases shas x.s nm <;> simp [eq_comm]

/-- A block made anew. -/
theorem add_local {x x1 y : AS} {nm : Nat} {b : Blk} {d : D} {f : AS → D × AS} (hf : ∀ x, f x = (d, x)) {d1 : D} (h : (x.add nm b).map f = some (d1, x1)) (hs : sget y.s nm = sget x.s nm) {W : List Nat} (hW : nm ∈ W)
    (hWs : ∀ n ∈ W, sget y.s n = sget x.s n) :
    ∃ y1, (y.add nm b).map f = some (d1, y1) ∧ After [] W x1 y y1 := by
  rw [Option.map_eq_some_iff] at h
  obtain ⟨x2, h1, h2⟩ := h
  rw [hf] at h2
  simp only [Prod.mk.injEq] at h2
  obtain ⟨rfl, rfl⟩ := h2
  obtain ⟨h3, rfl⟩ := add_iff.1 h1
  refine ⟨⟨y.t, (nm, b) :: y.s⟩, ?_, After.write rfl fun n => ?_⟩
  · rw [add_iff.2 ⟨by rw [shas_congr hs]; exact h3, rfl⟩]
    simp only [Option.map_some, hf]
  · simp only [sget_cons]
    split
    · split
      · rfl
      · rename_i h e; subst h; exact absurd hW e
    · split
      · rename_i hm; exact hWs n hm
      · rfl

/-- A block written. -/
theorem set_after {x y : AS} {m : Nat} {b : Blk} {W : List Nat} (hs : sget y.s m = sget x.s m) (hW : m ∈ W) (hWs : ∀ n ∈ W, sget y.s n = sget x.s n) :
    After [] W ⟨x.t, sset x.s m b⟩ y ⟨y.t, sset y.s m b⟩ :=
  After.write rfl fun n => by
    simp only [sget_sset, hs]
    split
    · rename_i e; subst e; rw [if_pos hW]
    · split
      · rename_i hm; exact hWs n hm
      · rfl

theorem step_local {op : AOp} {x x1 y : AS} {d : D} (h : step G op x = some (d, x1)) (ht : ∀ t ∈ op.tmps, tget y.t t = tget x.t t) (hs : ∀ n ∈ op.reads G x, sget y.s n = sget x.s n) :
    ∃ y1, step G op y = some (d, y1) ∧ After (op.moves G x) (op.writes G x) x1 y y1 := by
  cases hp : op.plain with
  | true =>
    have h1 := step_plain_same hp h
    subst h1
    refine ⟨y, ?_, ?_⟩
    · rw [step_plain hp ht, h]; rfl
    · have e1 : op.moves G x1 = [] := by cases op <;> simp_all [AOp.plain, AOp.moves]
      have e2 : op.writes G x1 = [] := by cases op <;> simp_all [AOp.plain, AOp.writes]
      rw [e1, e2]; exact After.same _ _
  | false =>
    cases op <;> simp only [AOp.plain, Bool.true_eq_false] at hp
    case ld sz a =>
      have ea := ev_congr (G := G) a (fun t h => ht t (by simp [AOp.tmps, h]))
      have es : seen y.s (a.ev G x.t) = seen x.s (a.ev G x.t) := seen_congr fun n hn => hs n (by simpa [AOp.reads] using hn)
      simp only [step, Option.bind_eq_bind, Option.bind_eq_some_iff, Option.some.injEq, Prod.mk.injEq] at h
      obtain ⟨⟨cs, off⟩, h1, d', h2, rfl, rfl⟩ := h
      refine ⟨y, ?_, After.same _ _⟩
      simp only [step, ea, es, h1, h2, Option.bind_eq_bind, Option.bind_some]
    case new nm a =>
      have ea := ev_congr (G := G) a (fun t h => ht t (by simp [AOp.tmps, h]))
      simp only [step, ea] at h ⊢
      split at h
      · rename_i cs hc
        exact add_local (fun _ => rfl) h (hs nm (by simp [AOp.reads])) (by simp [AOp.writes]) (fun n hn => hs n (by simpa [AOp.reads, AOp.writes] using hn))
      · cases h
    case st n a v =>
      have ea := ev_congr (G := G) a (fun t h => ht t (by simp [AOp.tmps, h]))
      have ev := ev_congr (G := G) v (fun t h => ht t (by simp [AOp.tmps, h]))
      simp only [step, ea, ev] at h ⊢
      split at h
      · rename_i nm off hA
        have e0 : sget y.s nm = sget x.s nm := hs nm (by simp [AOp.reads, hA, D.nms])
        simp only [Option.bind_eq_bind, Option.bind_eq_some_iff] at h
        obtain ⟨b, h1, vs, h2, h3⟩ := h
        cases hl : Nat.beq vs.length n <;> rw [hl] at h3
        · cases h3
        simp only [cond_true, Option.map_eq_some_iff, Prod.mk.injEq] at h3
        obtain ⟨b', h4, rfl, rfl⟩ := h3
        refine ⟨⟨y.t, sset y.s nm b'⟩, ?_, ?_⟩
        · simp only [e0, h1, h2, hl, h4, Option.bind_eq_bind, Option.bind_some, cond_true, Option.map_some]
        · exact set_after e0 (by simp [AOp.writes, hA, D.nms]) (fun n hn => hs n (by simpa [AOp.reads, AOp.writes] using hn))
      · cases h
    case bsl nm len sz cells ps =>
      have ep := parts_congr (G := G) ps (fun t h => ht t (by simp [AOp.tmps, h]))
      simp only [step, ep, Option.bind_eq_bind, Option.bind_eq_some_iff] at h ⊢
      obtain ⟨cs, h1, h2⟩ := h
      obtain ⟨y1, h3, h4⟩ := add_local (y := y) (fun _ => rfl) h2 (hs nm (by simp [AOp.reads])) (W := (AOp.bsl nm len sz cells ps).writes G x) (by simp [AOp.writes]) (fun n hn => hs n (by simpa [AOp.reads, AOp.writes] using hn))
      exact ⟨y1, ⟨cs, h1, h3⟩, h4⟩
    case mks nm sz bytes zero l c =>
      have el := ev_congr (G := G) l (fun t h => ht t (by simp [AOp.tmps, h]))
      have ec := ev_congr (G := G) c (fun t h => ht t (by simp [AOp.tmps, h]))
      simp only [step, el, ec] at h ⊢
      split at h
      · split at h
        · rename_i hc
          simp only [hc, if_true]
          exact add_local (fun _ => rfl) h (hs nm (by simp [AOp.reads])) (by simp [AOp.writes]) (fun n hn => hs n (by simpa [AOp.reads, AOp.writes] using hn))
        · cases h
      · cases h
    case slA n sz a l hh m =>
      have ea := ev_congr (G := G) a (fun t h => ht t (by simp [AOp.tmps, h]))
      have el := evo_congr (G := G) l (fun t h => ht t (by simp [AOp.tmps, h]))
      have eh := evo_congr (G := G) hh (fun t h => ht t (by simp [AOp.tmps, h]))
      have em := evo_congr (G := G) m (fun t h => ht t (by simp [AOp.tmps, h]))
      simp only [step, ea, el, eh, em, Option.bind_eq_bind, Option.bind_eq_some_iff] at h ⊢
      obtain ⟨m', h1, h', h2, l', h3, h⟩ := h
      split at h
      · rename_i nm off hA
        have e0 : sget y.s nm = sget x.s nm := hs nm (by simp [AOp.reads, hA, D.nms])
        simp only [Option.bind_eq_some_iff] at h
        obtain ⟨b, h4, cs, h5, h⟩ := h
        cases hl : Nat.ble (off + m' * sz) cs.length <;> rw [hl] at h
        · cases h
        · simp only [cond_true, Option.some.injEq, Prod.mk.injEq] at h
          obtain ⟨rfl, rfl⟩ := h
          refine ⟨y, ⟨m', h1, h', h2, l', h3, ?_⟩, After.same _ _⟩
          simp only [hA, e0, h4, h5, hl, Option.bind_some, cond_true]
      · rename_i cs off hA
        cases hl : Nat.ble (off + h' * sz) cs.length <;> rw [hl] at h
        · cases h
        · simp only [cond_true, Option.some.injEq, Prod.mk.injEq] at h
          obtain ⟨rfl, rfl⟩ := h
          refine ⟨y, ⟨m', h1, h', h2, l', h3, ?_⟩, After.same _ _⟩
          simp only [hA, hl, cond_true]
      · cases h
    case copy sz a b =>
      have ea := ev_congr (G := G) a (fun t h => ht t (by simp [AOp.tmps, h]))
      have eb := ev_congr (G := G) b (fun t h => ht t (by simp [AOp.tmps, h]))
      have es : sliceCells y.s sz (b.ev G x.t) = sliceCells x.s sz (b.ev G x.t) := sliceCells_congr fun n hn => hs n (by simp [AOp.reads, hn])
      have hWs : ∀ n ∈ (AOp.copy sz a b).writes G x, sget y.s n = sget x.s n := fun n hn => hs n (by simp only [AOp.writes] at hn; simp [AOp.reads, hn])
      simp only [step, ea, eb, es, Option.bind_eq_bind, Option.bind_eq_some_iff] at h ⊢
      obtain ⟨⟨ys, n⟩, h1, h⟩ := h
      simp only at h
      split at h
      · rename_i hA
        simp only [Option.some.injEq, Prod.mk.injEq] at h
        obtain ⟨rfl, rfl⟩ := h
        refine ⟨y, ⟨(ys, n), h1, rfl⟩, ?_⟩
        simp only [AOp.moves, AOp.writes, hA, D.nms]; exact After.same _ _
      · rename_i nm off z len c hA
        have hm : nm ∈ (AOp.copy sz a b).writes G x := by simp [AOp.writes, hA, D.nms]
        have e0 : sget y.s nm = sget x.s nm := hWs nm hm
        simp only [Option.bind_eq_some_iff] at h
        obtain ⟨b', h2, h⟩ := h
        cases hl : Nat.beq z sz <;> rw [hl] at h
        · cases h
        simp only [cond_true, Option.map_eq_some_iff, Prod.mk.injEq] at h
        obtain ⟨b2, h4, rfl, rfl⟩ := h
        refine ⟨⟨y.t, sset y.s nm b2⟩, ⟨(ys, n), h1, ?_⟩, ?_⟩
        · simp only [e0, h2, Option.bind_some, hl, cond_true, h4, Option.map_some]
        · simp only [AOp.moves]; exact set_after e0 hm hWs
      · rename_i nm off z len hA
        have hm : nm ∈ (AOp.copy sz a b).writes G x := by simp [AOp.writes, hA, D.nms]
        have e0 : sget y.s nm = sget x.s nm := hWs nm hm
        simp only [Option.bind_eq_some_iff] at h
        obtain ⟨b', h2, h⟩ := h
        cases hl : Nat.beq z sz <;> rw [hl] at h
        · cases h
        simp only [cond_true, Option.map_eq_some_iff, Prod.mk.injEq] at h
        obtain ⟨b2, h4, rfl, rfl⟩ := h
        refine ⟨⟨y.t, sset y.s nm b2⟩, ⟨(ys, n), h1, ?_⟩, ?_⟩
        · simp only [e0, h2, Option.bind_some, hl, cond_true, h4, Option.map_some]
        · simp only [AOp.moves]; exact set_after e0 hm hWs
      · cases h
    case cvB nm a =>
      have ea := ev_congr (G := G) a (fun t h => ht t (by simp [AOp.tmps, h]))
      simp only [step, ea] at h ⊢
      split at h
      · exact add_local (fun _ => rfl) h (hs nm (by simp [AOp.reads])) (by simp [AOp.writes]) (fun n hn => hs n (by simpa [AOp.reads, AOp.writes] using hn))
      · cases h
    case cvS a =>
      have ea := ev_congr (G := G) a (fun t h => ht t (by simp [AOp.tmps, h]))
      have es : sliceCells y.s 1 (a.ev G x.t) = sliceCells x.s 1 (a.ev G x.t) := sliceCells_congr fun n hn => hs n (by simpa [AOp.reads] using hn)
      simp only [step, ea] at h ⊢
      generalize a.ev G x.t = A at *
      split at h
      · cases h
      · rename_i hno
        simp only [Option.bind_eq_bind, Option.bind_eq_some_iff, Option.some.injEq, Prod.mk.injEq] at h
        obtain ⟨⟨cs, k⟩, h1, bs, h2, rfl, rfl⟩ := h
        refine ⟨y, ?_, After.same _ _⟩
        simp only [es, h1, Option.bind_eq_bind, Option.bind_some, h2]
    case rng nm a =>
      have ea := ev_congr (G := G) a (fun t h => ht t (by simp [AOp.tmps, h]))
      simp only [step, ea] at h ⊢
      split at h
      · exact add_local (fun _ => rfl) h (hs nm (by simp [AOp.reads])) (by simp [AOp.writes]) (fun n hn => hs n (by simpa [AOp.reads, AOp.writes] using hn))
      · cases h
    case next a =>
      have ea := ev_congr (G := G) a (fun t h => ht t (by simp [AOp.tmps, h]))
      have hWs : ∀ n ∈ (AOp.next a).writes G x, sget y.s n = sget x.s n := fun n hn => hs n (by simpa [AOp.reads, AOp.writes] using hn)
      simp only [step, ea] at h ⊢
      split at h
      · rename_i nm hA
        have hm : nm ∈ (AOp.next a).writes G x := by simp [AOp.writes, hA, D.nms]
        have e0 : sget y.s nm = sget x.s nm := hWs nm hm
        split at h
        · rename_i s pos hB
          simp only [e0, hB]
          cases hl : Nat.blt pos s.length <;> rw [hl] at h
          · simp only [cond_false, Option.some.injEq, Prod.mk.injEq] at h
            obtain ⟨rfl, rfl⟩ := h
            refine ⟨y, rfl, ?_⟩
            simp only [AOp.moves]
            refine After.write rfl fun n => ?_
            split
            · rename_i hn; exact hWs n hn
            · rfl
          · simp only [cond_true, Option.some.injEq, Prod.mk.injEq] at h
            obtain ⟨rfl, rfl⟩ := h
            refine ⟨_, rfl, ?_⟩
            simp only [AOp.moves]; exact set_after e0 hm hWs
        · cases h
      · cases h
    case app nm sz bytes a b =>
      have ea := ev_congr (G := G) a (fun t h => ht t (by simp [AOp.tmps, h]))
      have eb := ev_congr (G := G) b (fun t h => ht t (by simp [AOp.tmps, h]))
      have es : sliceCells y.s sz (b.ev G x.t) = sliceCells x.s sz (b.ev G x.t) := sliceCells_congr fun n hn => hs n (by simp [AOp.reads, hn])
      have hWs : ∀ n ∈ (AOp.app nm sz bytes a b).writes G x, sget y.s n = sget x.s n := fun n hn => hs n (by simp only [AOp.writes, List.mem_cons] at hn; rcases hn with rfl | hn <;> simp [AOp.reads, *])
      have hnm : nm ∈ (AOp.app nm sz bytes a b).writes G x := by simp [AOp.writes]
      have keep : After [] ((AOp.app nm sz bytes a b).writes G x) x y y := After.write rfl fun n => by
        split
        · rename_i hn; exact hWs n hn
        · rfl
      simp only [step, appD, ea, eb, es, Option.bind_eq_bind, Option.bind_eq_some_iff] at h ⊢
      obtain ⟨⟨ys, n⟩, h1, h⟩ := h
      simp only at h
      suffices hx : ∃ y1, (match a.ev G x.t with
          | .nils =>
            bif Nat.beq n 0 then some (.nils, y) else
            bif room n bytes then (y.add nm (.grow ys)).map fun x => (.gs nm 0 sz n, x) else none
          | .sl ex len cs =>
            bif Nat.beq n 0 then some (.sl ex len cs, y) else
            bif ex && room (len + n) bytes && Nat.ble (len * sz) cs.length then (y.add nm (.grow (cs.take (len * sz) ++ ys))).map fun x => (.gs nm 0 sz (len + n), x) else none
          | .ms m off z len c =>
            match sget y.s m with
            | some (.fix cs) =>
              bif Nat.beq z sz then
                bif Nat.ble (len + n) c then (stB (.fix cs) (off + len * sz) ys).map fun b => (.ms m off z (len + n) c, ⟨y.t, sset y.s m b⟩)
                else bif room (len + n) bytes && Nat.ble (off + len * sz) cs.length then (y.add nm (.grow ((cs.drop off).take (len * sz) ++ ys))).map fun x => (.gs nm 0 sz (len + n), x) else none
              else none
            | _ => none
          | .gs m off z len =>
            match sget y.s m with
            | some (.grow cs) =>
              bif Nat.beq n 0 then some (.gs m off z len, y) else
              bif Nat.beq z sz && Nat.beq off 0 && Nat.beq (len * sz) cs.length && room (len + n) bytes && !(ys.any isAg) then
                some (.gs m 0 sz (len + n), ⟨tkill m y.t, sset (skill m y.s) m (.grow (D.kills m cs ++ D.kills m ys))⟩)
              else none
            | _ => none
          | _ => none) = some (d, y1) ∧ After ((AOp.app nm sz bytes a b).moves G x) ((AOp.app nm sz bytes a b).writes G x) x1 y y1 from by
        obtain ⟨y1, h3, h4⟩ := hx
        exact ⟨y1, ⟨(ys, n), h1, h3⟩, h4⟩
      split at h
      · rename_i hA
        have hmv : (AOp.app nm sz bytes a b).moves G x = [] := by simp [AOp.moves, hA]
        rw [hmv]
        simp only [hA]
        cases hn : Nat.beq n 0 <;> rw [hn] at h
        · simp only [cond_false] at h ⊢
          cases hr : room n bytes <;> rw [hr] at h
          · cases h
          · exact add_local (fun _ => rfl) h (hWs nm hnm) hnm hWs
        · simp only [cond_true, Option.some.injEq, Prod.mk.injEq] at h ⊢
          obtain ⟨rfl, rfl⟩ := h
          exact ⟨y, ⟨rfl, rfl⟩, keep⟩
      · rename_i ex len cs hA
        have hmv : (AOp.app nm sz bytes a b).moves G x = [] := by simp [AOp.moves, hA]
        rw [hmv]
        simp only [hA]
        cases hn : Nat.beq n 0 <;> rw [hn] at h
        · simp only [cond_false] at h ⊢
          cases hr : (ex && room (len + n) bytes && Nat.ble (len * sz) cs.length) <;> rw [hr] at h
          · cases h
          · exact add_local (fun _ => rfl) h (hWs nm hnm) hnm hWs
        · simp only [cond_true, Option.some.injEq, Prod.mk.injEq] at h ⊢
          obtain ⟨rfl, rfl⟩ := h
          exact ⟨y, ⟨rfl, rfl⟩, keep⟩
      · rename_i m off z len c hA
        have hmv : (AOp.app nm sz bytes a b).moves G x = [] := by simp [AOp.moves, hA]
        have hm : m ∈ (AOp.app nm sz bytes a b).writes G x := by simp [AOp.writes, hA, D.nms]
        have e0 : sget y.s m = sget x.s m := hWs m hm
        rw [hmv]
        simp only [hA]
        split at h
        · rename_i cs hB
          simp only [e0, hB]
          cases hz : Nat.beq z sz <;> rw [hz] at h
          · cases h
          simp only [cond_true] at h ⊢
          cases hr : Nat.ble (len + n) c <;> rw [hr] at h
          · simp only [cond_false] at h ⊢
            cases hr : (room (len + n) bytes && Nat.ble (off + len * sz) cs.length) <;> rw [hr] at h
            · cases h
            · exact add_local (fun _ => rfl) h (hWs nm hnm) hnm hWs
          · simp only [cond_true, Option.map_eq_some_iff, Prod.mk.injEq] at h ⊢
            obtain ⟨b', h4, rfl, rfl⟩ := h
            exact ⟨_, ⟨b', h4, rfl, rfl⟩, set_after e0 hm hWs⟩
        · cases h
      · rename_i m off z len hA
        have hm : m ∈ (AOp.app nm sz bytes a b).writes G x := by simp [AOp.writes, hA, D.nms]
        have e0 : sget y.s m = sget x.s m := hWs m hm
        split at h
        · rename_i cs hB
          simp only [hA, e0, hB]
          cases hn : Nat.beq n 0 <;> rw [hn] at h
          · have hmv : (AOp.app nm sz bytes a b).moves G x = [m] := by simp [AOp.moves, hA, h1, hn]
            rw [hmv]
            simp only [cond_false] at h ⊢
            cases hc : (Nat.beq z sz && Nat.beq off 0 && Nat.beq (len * sz) cs.length && room (len + n) bytes && !(ys.any isAg)) <;> rw [hc] at h
            · cases h
            simp only [cond_true, Option.some.injEq, Prod.mk.injEq] at h ⊢
            obtain ⟨rfl, rfl⟩ := h
            refine ⟨_, ⟨rfl, rfl⟩, fun t => tget_tkill _ _ _, fun k => ?_⟩
            simp only [sget_sset, sget_skill, bkillO, e0]
            by_cases hk : k = m
            · subst hk; simp [hm]
            · simp only [if_neg hk]
              split
              · rename_i hkW; rw [hWs k hkW]
              · rfl
          · have hmv : (AOp.app nm sz bytes a b).moves G x = [] := by simp [AOp.moves, hA, h1, hn]
            rw [hmv]
            simp only [cond_true, Option.some.injEq, Prod.mk.injEq] at h ⊢
            obtain ⟨rfl, rfl⟩ := h
            exact ⟨y, ⟨rfl, rfl⟩, keep⟩
        · cases h
      · cases h
    case call z f l => simp [step] at h
    case callv z c l => simp [step] at h

theorem mapM_congr' {α β : Type} {f g : α → Option β} : ∀ {l : List α}, (∀ a ∈ l, f a = g a) → l.mapM f = l.mapM g
  | [], _ => rfl
  | a :: l, h => by
    have ih := mapM_congr' (f := f) (g := g) (l := l) fun b hb => h b (List.mem_cons_of_mem _ hb)
    simp only [List.mapM_cons, h a (by simp), ih]

theorem flatMap_congr' {α β : Type} {f g : α → List β} {l : List α} (h : ∀ a ∈ l, f a = g a) : l.flatMap f = l.flatMap g := by
  induction l with
  | nil => rfl
  | cons a l ih => simp only [List.flatMap_cons, h a (by simp), ih fun b hb => h b (by simp [hb])]

theorem fr_local {s s' : St} : ∀ (n : Nat) (d : D), (∀ m ∈ frN n s d, sget s' m = sget s m) → fr n s' d = fr n s d ∧ frN n s' d = frN n s d := by
  intro n
  induction n with
  | zero => intro d _; exact ⟨rfl, rfl⟩
  | succ n ih =>
    intro d h
    simp only [fr, frN] at h ⊢
    cases hp : d.pure <;> rw [hp] at h
    rotate_left
    · exact ⟨rfl, rfl⟩
    simp only [cond_false] at h ⊢
    have cells : ∀ cs : List D, (∀ m ∈ cs.flatMap (frN n s), sget s' m = sget s m) → (∀ c ∈ cs, fr n s' c = fr n s c ∧ frN n s' c = frN n s c) := fun cs hh c hc =>
      ih c fun m hm => hh m (List.mem_flatMap.2 ⟨c, hc, hm⟩)
    have lists : ∀ cs : List D, (∀ m ∈ cs.flatMap (frN n s), sget s' m = sget s m) → cs.mapM (fr n s') = cs.mapM (fr n s) ∧ cs.flatMap (frN n s') = cs.flatMap (frN n s) := fun cs hh =>
      ⟨mapM_congr' fun c hc => (cells cs hh c hc).1, flatMap_congr' fun c hc => (cells cs hh c hc).2⟩
    have sub : ∀ (cs : List D) (off k : Nat), (∀ m ∈ cs.flatMap (frN n s), sget s' m = sget s m) → ((cs.drop off).take k).mapM (fr n s') = ((cs.drop off).take k).mapM (fr n s) := fun cs off k hh =>
      mapM_congr' fun c hc => (cells cs hh c (List.mem_of_mem_drop (List.mem_of_mem_take hc))).1
    cases d <;> dsimp only at h <;> simp only [and_self]
    case agg cs => obtain ⟨h1, h2⟩ := lists cs h; rw [h1, h2]; exact ⟨rfl, rfl⟩
    case tup cs => obtain ⟨h1, h2⟩ := lists cs h; rw [h1, h2]; exact ⟨rfl, rfl⟩
    case iface t d => obtain ⟨h1, h2⟩ := ih d h; rw [h1, h2]; exact ⟨rfl, rfl⟩
    case fn f p q =>
      obtain ⟨h1, h2⟩ := lists p fun m hm => h m (List.mem_append_left _ hm)
      obtain ⟨h3, h4⟩ := lists q fun m hm => h m (List.mem_append_right _ hm)
      rw [h1, h2, h3, h4]; exact ⟨rfl, rfl⟩
    case ms nm off sz len cap =>
      have e := h nm (by simp)
      rw [e]
      cases hg : sget s nm with
      | none => exact ⟨rfl, rfl⟩
      | some b =>
        rw [hg] at h
        cases b with
        | fix cs =>
          have hh := fun m hm => h m (List.mem_cons_of_mem _ hm)
          simp only [sub cs off (len * sz) hh, (lists cs hh).2, and_self]
        | grow cs =>
          have hh := fun m hm => h m (List.mem_cons_of_mem _ hm)
          simp only [sub cs off (len * sz) hh, (lists cs hh).2, and_self]
        | iter s pos => exact ⟨rfl, rfl⟩
    case gs nm off sz len =>
      have e := h nm (by simp)
      rw [e]
      cases hg : sget s nm with
      | none => exact ⟨rfl, rfl⟩
      | some b =>
        rw [hg] at h
        cases b with
        | fix cs =>
          have hh := fun m hm => h m (List.mem_cons_of_mem _ hm)
          simp only [(lists cs hh).2, and_self]
        | grow cs =>
          have hh := fun m hm => h m (List.mem_cons_of_mem _ hm)
          simp only [sub cs off (len * sz) hh, (lists cs hh).2, and_self]
        | iter s pos => exact ⟨rfl, rfl⟩
    case ptr nm off =>
      have e := h nm (by simp)
      rw [e]
      cases hg : sget s nm with
      | none => exact ⟨rfl, rfl⟩
      | some b =>
        rw [hg] at h
        cases b with
        | fix cs =>
          have hh := fun m hm => h m (List.mem_cons_of_mem _ hm)
          simp only [(lists cs hh).1, (lists cs hh).2, and_self]
        | grow cs =>
          have hh := fun m hm => h m (List.mem_cons_of_mem _ hm)
          simp only [(lists cs hh).2, and_self]
        | iter s pos => exact ⟨rfl, rfl⟩

theorem frs_local {s s' : St} {n : Nat} {ds : List D} (h : ∀ m ∈ ds.flatMap (frN n s), sget s' m = sget s m) : frs n s' ds = frs n s ds ∧ ds.flatMap (frN n s') = ds.flatMap (frN n s) :=
  ⟨mapM_congr' fun c hc => (fr_local n c fun m hm => h m (List.mem_flatMap.2 ⟨c, hc, hm⟩)).1, flatMap_congr' fun c hc => (fr_local n c fun m hm => h m (List.mem_flatMap.2 ⟨c, hc, hm⟩)).2⟩

theorem reads_local {op : AOp} {x y : AS} (ht : ∀ t ∈ op.tmps, tget y.t t = tget x.t t) (hs : ∀ n ∈ op.reads G x, sget y.s n = sget x.s n) :
    op.reads G y = op.reads G x ∧ op.writes G y = op.writes G x ∧ op.moves G y = op.moves G x := by
  cases op <;> simp only [AOp.reads, AOp.writes, AOp.moves, and_self, and_true]
  case ld sz a => rw [ev_congr (G := G) a (fun t h => ht t (by simp [AOp.tmps, h]))]
  case st n a v => rw [ev_congr (G := G) a (fun t h => ht t (by simp [AOp.tmps, h]))]
  case slA n sz a l hh m => rw [ev_congr (G := G) a (fun t h => ht t (by simp [AOp.tmps, h]))]
  case copy sz a b => rw [ev_congr (G := G) a (fun t h => ht t (by simp [AOp.tmps, h])), ev_congr (G := G) b (fun t h => ht t (by simp [AOp.tmps, h]))]; exact ⟨rfl, rfl⟩
  case cvS a => rw [ev_congr (G := G) a (fun t h => ht t (by simp [AOp.tmps, h]))]
  case next a => rw [ev_congr (G := G) a (fun t h => ht t (by simp [AOp.tmps, h]))]
  case app nm sz bytes a b =>
    rw [ev_congr (G := G) a (fun t h => ht t (by simp [AOp.tmps, h])), ev_congr (G := G) b (fun t h => ht t (by simp [AOp.tmps, h])),
      sliceCells_congr (s' := y.s) (s := x.s) (sz := sz) (d := b.ev G x.t) (fun n hn => hs n (by simp [AOp.reads, hn]))]
    exact ⟨rfl, rfl, rfl⟩
  case call z f l =>
    have e := evs_congr (G := G) l (fun t h => ht t (by simp [AOp.tmps, h]))
    have e2 := (frs_local fun m hm => hs m (by simpa only [AOp.reads] using hm)).2
    cases z <;> simp only [AOp.writes, AOp.moves, e, e2, and_self]
  case callv z c l =>
    have ec := ev_congr (G := G) c (fun t h => ht t (by simp [AOp.tmps, h]))
    have e := evs_congr (G := G) l (fun t h => ht t (by simp [AOp.tmps, h]))
    simp only [AOp.reads] at hs
    have key : (match Arg.ev G x.t c with | .fn _ fs cs => (fs ++ l.map (Arg.ev G x.t) ++ cs).flatMap (frN 20 y.s) | _ => []) = (match Arg.ev G x.t c with | .fn _ fs cs => (fs ++ l.map (Arg.ev G x.t) ++ cs).flatMap (frN 20 x.s) | _ => []) := by
      split
      · rename_i f fs cs hA
        rw [hA] at hs
        exact (frs_local fun m hm => hs m hm).2
      · rfl
    rw [ec, e]
    cases z
    · exact ⟨key, rfl, rfl⟩
    · refine ⟨key, ?_, ?_⟩
      · simp only [AOp.writes]; rw [ec, e]; exact key
      · simp only [AOp.moves]; rw [ec, e]; exact key
end

/-- What a call comes to, and the state ahead of its result's being kept. -/
def CVal (E : Env) (z : Bool) (f : Nat) (ds : List D) (x : AS) (d : D) (x1 : AS) : Prop :=
  (∃ as, frs 20 x.s ds = some as ∧ PureC E f as d) ∧ bif z then x1 = AS.purges (ds.flatMap (frN 20 x.s)) x else (d.flat || D.pures ds) = true ∧ x1 = x

/-- What an operation comes to, calls among them: the value and the state ahead of its being kept. -/
def AVal (E : Env) (op : AOp) (x : AS) (d : D) (x1 : AS) : Prop :=
  match op with
  | .call z f args => CVal E z f (args.map (·.ev E.G x.t)) x d x1
  | .callv z c args => match c.ev E.G x.t with
    | .fn (.func f) fs cs => callable E.P f = true ∧ CVal E z f (fs ++ args.map (·.ev E.G x.t) ++ cs) x d x1
    | _ => False
  | op => step E.G op x = some (d, x1)

theorem aCall_iff {E : Env} {z : Bool} {f : Nat} {ds : List D} {dst : Option Nat} {x : AS} {K : AS → Prop} :
    ACall z E f ds dst x K ↔ ∃ d x1, CVal E z f ds x d x1 ∧ K (x1.put dst d) := by
  unfold ACall CVal
  cases z
  · simp only [cond_false]
    constructor
    · rintro ⟨as, d, h1, h2, h3, h4⟩; exact ⟨d, x, ⟨⟨as, h1, h2⟩, h3, rfl⟩, h4⟩
    · rintro ⟨d, x1, ⟨⟨as, h1, h2⟩, h3, rfl⟩, h4⟩; exact ⟨as, d, h1, h2, h3, h4⟩
  · simp only [cond_true]
    constructor
    · rintro ⟨as, d, h1, h2, h4⟩; exact ⟨d, _, ⟨⟨as, h1, h2⟩, rfl⟩, h4⟩
    · rintro ⟨d, x1, ⟨⟨as, h1, h2⟩, rfl⟩, h4⟩; exact ⟨as, d, h1, h2, h4⟩

theorem aOpK_iff {E : Env} {o : AOper} {x : AS} {K : AS → Prop} : AOpK E o x K ↔ ∃ d x1, AVal E o.op x d x1 ∧ K (x1.put o.dst d) := by
  unfold AOpK
  cases o.op
  case call z f l =>
    simp only [AVal]
    exact aCall_iff
  case callv z c l =>
    simp only [AVal]
    constructor
    · intro h
      split at h
      · rename_i f fs cs hA
        obtain ⟨d, x1, h1, h2⟩ := aCall_iff.1 h.2
        exact ⟨d, x1, by simp only [hA]; exact ⟨h.1, h1⟩, h2⟩
      · exact h.elim
    · rintro ⟨d, x1, h, h4⟩
      split at h
      · rename_i f fs cs hA
        simp only [hA]
        exact ⟨h.1, aCall_iff.2 ⟨d, x1, h.2, h4⟩⟩
      · exact h.elim
  all_goals
    simp only [AVal]
    constructor
    · intro h
      split at h
      · rename_i d x1 hs; exact ⟨d, x1, hs, h⟩
      · exact h.elim
    · rintro ⟨d, x1, h1, h2⟩
      rw [h1]; exact h2

theorem cval_uniq {E : Env} {z : Bool} {f : Nat} {ds : List D} {x x1 x2 : AS} {d : D} (h : CVal E z f ds x d x1) (h' : CVal E z f ds x d x2) : x1 = x2 := by
  unfold CVal at h h'
  cases z
  · rw [h.2.2, h'.2.2]
  · have e1 := h.2
    have e2 := h'.2
    simp only [cond_true] at e1 e2
    rw [e1, e2]

theorem aval_uniq {E : Env} {op : AOp} {x x1 x2 : AS} {d : D} (h : AVal E op x d x1) (h' : AVal E op x d x2) : x1 = x2 := by
  cases op <;> simp only [AVal] at h h'
  case call z f l => exact cval_uniq h h'
  case callv z c l =>
    split at h
    · rename_i f fs cs hA
      simp only [hA] at h'
      exact cval_uniq h.2 h'.2
    · exact h.elim
  all_goals
    rw [h] at h'
    simp only [Option.some.injEq, Prod.mk.injEq, true_and] at h'
    exact h'

theorem tget_purges : ∀ (l : List Nat) (x : AS) (t : Nat), tget (AS.purges l x).t t = killO l (tget x.t t)
  | [], x, t => rfl
  | m :: r, x, t => by
    simp only [AS.purges, killO, tget_purges r]
    simp only [AS.purge, tget_tkill]

theorem sget_purges_not : ∀ (l : List Nat) (x : AS) (n : Nat), n ∉ l → sget (AS.purges l x).s n = (sget x.s n).map (bkillO l)
  | [], x, n, _ => (map_bkill_none _).symm
  | m :: r, x, n, h => by
    simp only [List.mem_cons, not_or] at h
    simp only [AS.purges]
    rw [sget_purges_not r _ n h.2, sget_purge, if_neg h.1]
    cases sget x.s n <;> rfl

theorem purges_after (l : List Nat) (x y : AS) : After l l (AS.purges l x) y (AS.purges l y) :=
  ⟨tget_purges l y, fun n => by
    by_cases h : n ∈ l
    · rw [if_pos h, sget_purges l h, sget_purges l h]
    · rw [if_neg h, sget_purges_not l y n h]⟩

theorem cval_local {E : Env} {z : Bool} {f : Nat} {ds : List D} {x x1 y : AS} {d : D} (h : CVal E z f ds x d x1) (hs : ∀ n ∈ ds.flatMap (frN 20 x.s), sget y.s n = sget x.s n) :
    ∃ y1, CVal E z f ds y d y1 ∧ After (bif z then ds.flatMap (frN 20 x.s) else []) (bif z then ds.flatMap (frN 20 x.s) else []) x1 y y1 := by
  obtain ⟨e1, e2⟩ := frs_local hs
  unfold CVal at h ⊢
  obtain ⟨⟨as, h1, h2⟩, h3⟩ := h
  cases z
  · simp only [cond_false] at h3 ⊢
    obtain ⟨h3, rfl⟩ := h3
    exact ⟨y, ⟨⟨as, by rw [e1]; exact h1, h2⟩, h3, rfl⟩, After.same _ _⟩
  · simp only [cond_true] at h3 ⊢
    subst h3
    refine ⟨_, ⟨⟨as, by rw [e1]; exact h1, h2⟩, rfl⟩, ?_⟩
    rw [e2]; exact purges_after _ _ _

theorem aval_local {E : Env} {op : AOp} {x x1 y : AS} {d : D} (h : AVal E op x d x1) (ht : ∀ t ∈ op.tmps, tget y.t t = tget x.t t) (hs : ∀ n ∈ op.reads E.G x, sget y.s n = sget x.s n) :
    ∃ y1, AVal E op y d y1 ∧ After (op.moves E.G x) (op.writes E.G x) x1 y y1 := by
  cases op
  case call z f l =>
    have e := evs_congr (G := E.G) l (fun t h => ht t (by simp [AOp.tmps, h]))
    simp only [AVal] at h ⊢
    rw [e]
    obtain ⟨y1, h1, h2⟩ := cval_local h (by simpa only [AOp.reads] using hs)
    refine ⟨y1, h1, ?_⟩
    cases z <;> exact h2
  case callv z c l =>
    have ec := ev_congr (G := E.G) c (fun t h => ht t (by simp [AOp.tmps, h]))
    have e := evs_congr (G := E.G) l (fun t h => ht t (by simp [AOp.tmps, h]))
    simp only [AVal] at h ⊢
    split at h
    · rename_i f fs cs hA
      simp only [AOp.reads, hA] at hs
      rw [ec]
      simp only [hA, e]
      obtain ⟨y1, h1, h2⟩ := cval_local h.2 hs
      refine ⟨y1, ⟨h.1, h1⟩, ?_⟩
      cases z
      · exact h2
      · simp only [AOp.moves, AOp.writes, hA]; exact h2
    · exact h.elim
  all_goals
    simp only [AVal] at h ⊢
    exact step_local h ht hs

end Iv
/- Two steps that have nothing to do with each other may change places. Conditions: none. -/
set_option linter.unusedSimpArgs false
set_option linter.unusedVariables false
namespace Iv
open Go

theorem any_congr' {α : Type} {f g : α → Bool} {l : List α} (h : ∀ a ∈ l, f a = g a) : l.any f = l.any g := by
  induction l with
  | nil => rfl
  | cons a l ih => simp only [List.any_cons, h a (by simp), ih fun b hb => h b (by simp [hb])]

/-- A step with its guard. -/
def AStepR (E : Env) (o : AOper) (x : AS) (d : D) (x1 : AS) : Prop :=
  match o.guard with
  | none => AVal E o.op x d x1
  | some (g, want) => match tget x.t g with
    | .bool b => if b = want then AVal E o.op x d x1 else d = .tup [] ∧ x1 = x
    | .tup [] => d = .tup [] ∧ x1 = x
    | _ => False

def StepTo (E : Env) (o : AOper) (x x' : AS) : Prop := ∃ d x1, AStepR E o x d x1 ∧ x' = x1.put o.dst d

theorem aStepK_iff {E : Env} {o : AOper} {x : AS} {K : AS → Prop} : AStepK E o x K ↔ ∃ x', StepTo E o x x' ∧ K x' := by
  have conv : (∃ d x1, AVal E o.op x d x1 ∧ K (x1.put o.dst d)) ↔ ∃ x', (∃ d x1, AVal E o.op x d x1 ∧ x' = x1.put o.dst d) ∧ K x' := by
    constructor
    · rintro ⟨d, x1, h1, h2⟩; exact ⟨_, ⟨d, x1, h1, rfl⟩, h2⟩
    · rintro ⟨_, ⟨d, x1, h1, rfl⟩, h2⟩; exact ⟨d, x1, h1, h2⟩
  have off : K (x.put o.dst (.tup [])) ↔ ∃ x', (∃ d x1, (d = .tup [] ∧ x1 = x) ∧ x' = x1.put o.dst d) ∧ K x' := by
    constructor
    · intro h; exact ⟨_, ⟨_, _, ⟨rfl, rfl⟩, rfl⟩, h⟩
    · rintro ⟨_, ⟨_, _, ⟨rfl, rfl⟩, rfl⟩, h⟩; exact h
  unfold AStepK StepTo AStepR
  cases o.guard with
  | none => simp only []; rw [aOpK_iff]; exact conv
  | some p =>
    obtain ⟨g, want⟩ := p
    simp only []
    split
    · rename_i b hb
      simp only [hb]
      by_cases hw : b = want
      · simp only [hw, if_true]; rw [aOpK_iff]; exact conv
      · simp only [hw, if_false]; exact off
    · rename_i hb
      simp only [hb]; exact off
    · rename_i h1 h2
      constructor
      · exact False.elim
      · rintro ⟨x', ⟨d, x1, h, _⟩, _⟩
        split at h
        · rename_i hb; exact h1 _ hb
        · rename_i hb; exact h2 hb
        · exact h

theorem aStepR_on {E : Env} {o : AOper} {x : AS} {d : D} {x1 : AS} (h : AStepR E o x d x1) :
    (o.on x = true ∧ AVal E o.op x d x1) ∨ (o.on x = false ∧ d = .tup [] ∧ x1 = x) := by
  unfold AStepR at h
  unfold AOper.on
  cases hg : o.guard with
  | none => rw [hg] at h; exact .inl ⟨rfl, h⟩
  | some p =>
    obtain ⟨g, want⟩ := p
    rw [hg] at h
    dsimp only at h ⊢
    split at h
    · rename_i b hb
      rw [hb]
      by_cases hw : b = want
      · rw [if_pos hw] at h; exact .inl ⟨by simp [hw], h⟩
      · rw [if_neg hw] at h; exact .inr ⟨by simp [hw], h⟩
    · rename_i hb
      rw [hb]; exact .inr ⟨rfl, h⟩
    · exact h.elim

/-- A guard looks at its own temporary alone. -/
theorem aStepR_local {E : Env} {o : AOper} {x y : AS} (ht : ∀ t ∈ o.tmps, tget y.t t = tget x.t t) : o.on y = o.on x ∧
    ((o.on x = true ∧ ∀ d y1, AVal E o.op y d y1 → (∃ d' x1, AStepR E o x d' x1) → AStepR E o y d y1) ∨ (o.on x = false ∧ ((∃ d' x1, AStepR E o x d' x1) → AStepR E o y (.tup []) y))) := by
  unfold AOper.on AStepR
  cases hg : o.guard with
  | none => exact ⟨rfl, .inl ⟨rfl, fun d y1 h _ => h⟩⟩
  | some p =>
    obtain ⟨g, want⟩ := p
    have e : tget y.t g = tget x.t g := ht g (by simp [AOper.tmps, hg])
    dsimp only
    rw [e]
    refine ⟨rfl, ?_⟩
    cases hx : tget x.t g
    case bool b =>
      dsimp only
      by_cases hw : b = want
      · left; refine ⟨by simp [hw], fun d y1 h _ => ?_⟩; rw [if_pos hw]; exact h
      · right; refine ⟨by simp [hw], fun _ => ?_⟩; rw [if_neg hw]; exact ⟨rfl, rfl⟩
    case tup l =>
      cases l with
      | nil => right; exact ⟨rfl, fun _ => ⟨rfl, rfl⟩⟩
      | cons a l => right; exact ⟨rfl, fun ⟨_, _, h⟩ => h⟩
    all_goals (right; exact ⟨rfl, fun ⟨_, _, h⟩ => h⟩)

/-- The same to others that come first. -/
structure FP.sim (p q : FP) : Prop where
  tm : p.tm = q.tm
  rd : p.rd = q.rd
  wr : p.wr = q.wr
  kl : p.kl = q.kl
  has : ∀ m, p.has m = q.has m

structure FP.le (p q : FP) : Prop extends FP.sim p q where
  th : ∀ t, p.th t = true → q.th t = true
  bh : ∀ n, p.bh n = true → q.bh n = true

theorem FP.le.refl (p : FP) : FP.le p p := ⟨⟨rfl, rfl, rfl, rfl, fun _ => rfl⟩, fun _ h => h, fun _ h => h⟩
theorem FP.sim.refl (p : FP) : FP.sim p p := ⟨rfl, rfl, rfl, rfl, fun _ => rfl⟩
theorem FP.sim.trans {p q r : FP} (h : FP.sim p q) (h' : FP.sim q r) : FP.sim p r := ⟨h.tm.trans h'.tm, h.rd.trans h'.rd, h.wr.trans h'.wr, h.kl.trans h'.kl, fun m => (h.has m).trans (h'.has m)⟩
theorem FP.le.trans {p q r : FP} (h : FP.le p q) (h' : FP.le q r) : FP.le p r := ⟨h.tosim.trans h'.tosim, fun t e => h'.th t (h.th t e), fun t e => h'.bh t (h.bh t e)⟩

theorem apart_iff {p q : FP} : apart p q = true ↔ (disj p.wr q.rd = true ∧ disj q.wr p.rd = true) ∧
    (∀ t ∈ q.tm, p.th t = false) ∧ (∀ n ∈ q.rd, p.bh n = false) ∧ (∀ m ∈ p.kl, q.has m = false) ∧ ∀ m ∈ q.kl, p.has m = false := by
  unfold apart
  simp only [Bool.and_eq_true, List.all_eq_true, Bool.not_eq_true', and_assoc]

theorem apart_mono {p p' q q' : FP} (hp : FP.le p' p) (hq : FP.sim q' q) (h : apart p q = true) : apart p' q' = true := by
  rw [apart_iff] at h ⊢
  rw [hp.wr, hp.rd, hq.wr, hq.rd, hp.kl, hq.kl, hq.tm]
  obtain ⟨h0, h1, h2, h3, h4⟩ := h
  refine ⟨h0, fun t ht => ?_, fun n hn => ?_, fun m hm => by rw [hq.has]; exact h3 m hm, fun m hm => by rw [hp.has]; exact h4 m hm⟩
  · cases hh : p'.th t with
    | false => rfl
    | true => have := h1 t ht; rw [hp.th t hh] at this; exact this
  · cases hh : p'.bh n with
    | false => rfl
    | true => have := h2 n hn; rw [hp.bh n hh] at this; exact this

/-- What a step does, and upon what it hangs. -/
structure Eff (E : Env) (o : AOper) (x x' : AS) (p : FP) : Prop where
  t : ∀ t, o.dst ≠ some t → tget x'.t t = killO p.kl (tget x.t t)
  s : ∀ n, n ∉ p.wr → sget x'.s n = (sget x.s n).map (bkillO p.kl)
  loc : ∀ y, (∀ t ∈ p.tm, tget y.t t = tget x.t t) → (∀ n ∈ p.rd, sget y.s n = sget x.s n) → ∃ y', StepTo E o y y' ∧
    (∀ t, o.dst = some t → tget y'.t t = tget x'.t t) ∧ (∀ t, o.dst ≠ some t → tget y'.t t = killO p.kl (tget y.t t)) ∧
    (∀ n, sget y'.s n = if n ∈ p.wr then sget x'.s n else (sget y.s n).map (bkillO p.kl)) ∧ FP.sim (o.fp E.G y y') p
  ht : ∀ m t, t ∈ p.tm → D.hasRef m (tget x.t t) = true → p.has m = true
  hr : ∀ m n, n ∈ p.rd → sref m x.s n = true → p.has m = true
  hw : ∀ m n, n ∈ p.wr → sref m x'.s n = true → p.has m = true
  hd : ∀ m t, o.dst = some t → D.hasRef m (tget x'.t t) = true → p.has m = true
  th : ∀ t, p.th t = p.kl.any fun m => D.hasRef m (tget x.t t)
  bh : ∀ n, p.bh n = p.kl.any fun m => sref m x.s n
  sub : ∀ n, n ∈ p.wr → n ∈ p.rd

theorem writes_reads {G : List (Nat × List D)} {op : AOp} {x : AS} : ∀ n, n ∈ op.writes G x → n ∈ op.reads G x := by
  intro n hn
  cases op
  case call z f l => cases z <;> simp only [AOp.writes, AOp.reads, List.not_mem_nil] at hn ⊢; exact hn
  case callv z c l =>
    cases z
    · simp only [AOp.writes, List.not_mem_nil] at hn
    · simp only [AOp.writes, AOp.reads] at hn ⊢; exact hn
  all_goals simp only [AOp.writes, AOp.reads, List.not_mem_nil] at hn ⊢
  all_goals first | exact hn | (simp only [List.mem_cons, List.mem_append] at hn ⊢; rcases hn with h | h <;> simp [h]) | (simp only [List.mem_append]; exact .inl hn)

theorem put_t (x : AS) (dst : Option Nat) (d : D) (t : Nat) : tget (x.put dst d).t t = if dst = some t then d else tget x.t t := by
  cases dst with
  | none => simp [AS.put]
  | some k =>
    simp only [AS.put, tget_cons, Option.some.injEq]
    by_cases h : t = k
    · subst h; simp
    · rw [if_neg h, if_neg (Ne.symm h)]

theorem put_s (x : AS) (dst : Option Nat) (d : D) : (x.put dst d).s = x.s := by cases dst <;> rfl

theorem eff_of {E : Env} {o : AOper} {x x' : AS} (h : StepTo E o x x') : Eff E o x x' (o.fp E.G x x') := by
  obtain ⟨d, x1, hst, rfl⟩ := h
  have hst' := hst
  rcases aStepR_on hst with ⟨hon, hv⟩ | ⟨hoff, rfl, rfl⟩
  · obtain ⟨x2, h2, hA⟩ := aval_local (y := x) hv (fun _ _ => rfl) (fun _ _ => rfl)
    have := aval_uniq h2 hv
    subst this
    have hfp : o.fp E.G x (x2.put o.dst d) = ⟨o.tmps, o.op.reads E.G x, o.op.writes E.G x, o.op.moves E.G x,
      fun m => o.tmps.any (fun t => D.hasRef m (tget x.t t)) || (o.op.reads E.G x).any (sref m x.s) || (o.op.writes E.G x).any (sref m (x2.put o.dst d).s) ||
        (match o.dst with | some t => D.hasRef m (tget (x2.put o.dst d).t t) | none => false),
      fun t => (o.op.moves E.G x).any fun m => D.hasRef m (tget x.t t),
      fun n => (o.op.moves E.G x).any fun m => sref m x.s n⟩ := by
      unfold AOper.fp; rw [hon]; rfl
    rw [hfp]
    refine ⟨fun t ht => ?_, fun n hn => ?_, fun y hyt hys => ?_, fun m t ht hr => ?_, fun m n hn hr => ?_, fun m n hn hr => ?_, fun m t ht hr => ?_, fun t => rfl, fun n => rfl, writes_reads⟩
    · rw [put_t, if_neg ht]; exact hA.1 t
    · simp only [put_s]; rw [hA.2 n, if_neg hn]
    · have hot : ∀ t ∈ o.op.tmps, tget y.t t = tget x.t t := fun t ht => hyt t (by simp [AOper.tmps, ht])
      obtain ⟨y1, hy1, hB⟩ := aval_local hv hot hys
      obtain ⟨hl1, hl2, hl3⟩ := reads_local (G := E.G) hot hys
      obtain ⟨hon', hcase⟩ := aStepR_local (E := E) (o := o) (x := x) (y := y) hyt
      rcases hcase with ⟨_, hc⟩ | ⟨hc, _⟩
      rotate_left
      · rw [hon] at hc; cases hc
      have hys1 : ∀ n, sget (y1.put o.dst d).s n = if n ∈ o.op.writes E.G x then sget (x2.put o.dst d).s n else (sget y.s n).map (bkillO (o.op.moves E.G x)) := fun n => by
        simp only [put_s]; exact hB.2 n
      refine ⟨y1.put o.dst d, ⟨d, y1, hc d y1 hy1 ⟨d, x2, hst⟩, rfl⟩, fun t ht => ?_, fun t ht => ?_, hys1, ?_⟩
      · rw [put_t, put_t, if_pos ht, if_pos ht]
      · rw [put_t, if_neg ht]; exact hB.1 t
      · have hfp' : o.fp E.G y (y1.put o.dst d) = ⟨o.tmps, o.op.reads E.G y, o.op.writes E.G y, o.op.moves E.G y,
          fun m => o.tmps.any (fun t => D.hasRef m (tget y.t t)) || (o.op.reads E.G y).any (sref m y.s) || (o.op.writes E.G y).any (sref m (y1.put o.dst d).s) ||
            (match o.dst with | some t => D.hasRef m (tget (y1.put o.dst d).t t) | none => false),
          fun t => (o.op.moves E.G y).any fun m => D.hasRef m (tget y.t t),
          fun n => (o.op.moves E.G y).any fun m => sref m y.s n⟩ := by
          unfold AOper.fp; rw [hon', hon]; rfl
        rw [hfp']
        refine ⟨rfl, hl1, hl2, hl3, fun m => ?_⟩
        simp only [hl1, hl2]
        have e1 : o.tmps.any (fun t => D.hasRef m (tget y.t t)) = o.tmps.any (fun t => D.hasRef m (tget x.t t)) := any_congr' fun t ht => by rw [hyt t ht]
        have e2 : (o.op.reads E.G x).any (sref m y.s) = (o.op.reads E.G x).any (sref m x.s) := any_congr' fun n hn => by simp only [sref, hys n hn]
        have e3 : (o.op.writes E.G x).any (sref m (y1.put o.dst d).s) = (o.op.writes E.G x).any (sref m (x2.put o.dst d).s) := any_congr' fun n hn => by
          simp only [sref, hys1 n, if_pos hn]
        rw [e1, e2, e3]
        cases hdst : o.dst with
        | none => rfl
        | some k => simp only [put_t, if_true]
    · simp only [Bool.or_eq_true]; exact .inl (.inl (.inl (List.any_eq_true.2 ⟨t, ht, hr⟩)))
    · simp only [Bool.or_eq_true]; exact .inl (.inl (.inr (List.any_eq_true.2 ⟨n, hn, hr⟩)))
    · simp only [Bool.or_eq_true]; exact .inl (.inr (List.any_eq_true.2 ⟨n, hn, hr⟩))
    · simp only [Bool.or_eq_true]; right; rw [ht] at hr ⊢; exact hr
  · have hfp : o.fp E.G x1 (x1.put o.dst (.tup [])) = ⟨o.tmps, [], [], [], fun m => o.tmps.any (fun t => D.hasRef m (tget x1.t t)), fun _ => false, fun _ => false⟩ := by
      simp only [AOper.fp, hoff, cond_false]
    rw [hfp]
    refine ⟨fun t ht => ?_, fun n hn => ?_, fun y hyt hys => ?_, fun m t ht hr => ?_, fun m n hn hr => ?_, fun m n hn hr => ?_, fun m t ht hr => ?_, fun t => rfl, fun n => rfl, fun n hn => hn⟩
    · rw [put_t, if_neg ht]; rfl
    · simp only [put_s]; rw [map_bkill_none]
    · obtain ⟨hon', hcase⟩ := aStepR_local (E := E) (o := o) (x := x1) (y := y) hyt
      rcases hcase with ⟨hc, _⟩ | ⟨_, hc⟩
      · rw [hoff] at hc; cases hc
      refine ⟨y.put o.dst (.tup []), ⟨.tup [], y, hc ⟨_, _, hst⟩, rfl⟩, fun t ht => ?_, fun t ht => ?_, fun n => ?_, ?_⟩
      · rw [put_t, put_t, if_pos ht, if_pos ht]
      · rw [put_t, if_neg ht]; rfl
      · simp only [put_s, List.not_mem_nil, if_false]; rw [map_bkill_none]
      · have hfp' : o.fp E.G y (y.put o.dst (.tup [])) = ⟨o.tmps, [], [], [], fun m => o.tmps.any (fun t => D.hasRef m (tget y.t t)), fun _ => false, fun _ => false⟩ := by
          simp only [AOper.fp, hon', hoff, cond_false]
        rw [hfp']
        exact ⟨rfl, rfl, rfl, rfl, fun m => any_congr' fun t ht => by rw [hyt t ht]⟩
    · exact List.any_eq_true.2 ⟨t, ht, hr⟩
    · cases hn
    · cases hn
    · rw [put_t, if_pos ht] at hr; simp [D.hasRef, D.hasRefs] at hr

end Iv
/- Chains of steps: one that has nothing to do with those ahead of it may come first. Conditions: none. -/
set_option linter.unusedSimpArgs false
set_option linter.unusedVariables false
namespace Iv
open Go

mutual
theorem D.kill_id (m : Nat) : ∀ (d : D), D.hasRef m d = false → D.kill m d = d
  | .un, _ => rfl
  | .bool _, _ => rfl
  | .int _ _, _ => rfl
  | .str _, _ => rfl
  | .agg cs, h => by simp only [D.hasRef] at h; simp only [D.kill, D.kills_id m cs h]
  | .tup cs, h => by simp only [D.hasRef] at h; simp only [D.kill, D.kills_id m cs h]
  | .nils, _ => rfl
  | .sl _ _ _, _ => rfl
  | .ms _ _ _ _ _, h => by simp only [D.hasRef] at h; simp only [D.kill, h, cond_false]
  | .gs _ _ _ _, h => by simp only [D.hasRef] at h; simp only [D.kill, h, cond_false]
  | .ptr _ _, h => by simp only [D.hasRef] at h; simp only [D.kill, h, cond_false]
  | .iptr _ _, _ => rfl
  | .nilp, _ => rfl
  | .iface t d, h => by simp only [D.hasRef] at h; simp only [D.kill, D.kill_id m d h]
  | .nilif, _ => rfl
  | .fn f a b, h => by simp only [D.hasRef, Bool.or_eq_false_iff] at h; simp only [D.kill, D.kills_id m a h.1, D.kills_id m b h.2]
  | .nilfn, _ => rfl
  | .nilm, _ => rfl
  | .it _, h => by simp only [D.hasRef] at h; simp only [D.kill, h, cond_false]
theorem D.kills_id (m : Nat) : ∀ (ds : List D), D.hasRefs m ds = false → D.kills m ds = ds
  | [], _ => rfl
  | d :: ds, h => by simp only [D.hasRefs, Bool.or_eq_false_iff] at h; simp only [D.kills, D.kill_id m d h.1, D.kills_id m ds h.2]
end

theorem Blk.kill_id (m : Nat) (b : Blk) (h : b.hasRef m = false) : Blk.kill m b = b := by
  cases b with
  | fix cs => simp only [Blk.kill, D.kills_id m cs h]
  | grow cs => simp only [Blk.kill, D.kills_id m cs h]
  | iter s p => rfl

theorem killO_id {k : List Nat} {d : D} (h : ∀ m ∈ k, D.hasRef m d = false) : killO k d = d := by
  induction k with
  | nil => rfl
  | cons m r ih => simp only [killO, D.kill_id m d (h m List.mem_cons_self)]; exact ih fun m hm => h m (List.mem_cons_of_mem _ hm)

theorem bkillO_blk {k : List Nat} {b : Blk} (h : ∀ m ∈ k, b.hasRef m = false) : bkillO k b = b := by
  induction k with
  | nil => rfl
  | cons m r ih => simp only [bkillO, Blk.kill_id m b (h m List.mem_cons_self)]; exact ih fun m hm => h m (List.mem_cons_of_mem _ hm)

theorem bkillO_id {k : List Nat} {s : St} {n : Nat} (h : ∀ m ∈ k, sref m s n = false) : (sget s n).map (bkillO k) = sget s n := by
  unfold sref at h
  cases hs : sget s n with
  | none => rfl
  | some b => rw [hs] at h; simp only [Option.map_some, bkillO_blk h]

mutual
theorem D.kill_comm (m n : Nat) : ∀ (d : D), D.kill m (D.kill n d) = D.kill n (D.kill m d)
  | .un => rfl
  | .bool _ => rfl
  | .int _ _ => rfl
  | .str _ => rfl
  | .agg cs => by simp only [D.kill, D.kills_comm m n cs]
  | .tup cs => by simp only [D.kill, D.kills_comm m n cs]
  | .nils => rfl
  | .sl _ _ _ => rfl
  | .ms a _ _ _ _ => by
    simp only [D.kill]
    cases h1 : Nat.beq a m <;> cases h2 : Nat.beq a n <;> simp only [cond_true, cond_false, D.kill, h1, h2]
  | .gs a _ _ _ => by
    simp only [D.kill]
    cases h1 : Nat.beq a m <;> cases h2 : Nat.beq a n <;> simp only [cond_true, cond_false, D.kill, h1, h2]
  | .ptr a _ => by
    simp only [D.kill]
    cases h1 : Nat.beq a m <;> cases h2 : Nat.beq a n <;> simp only [cond_true, cond_false, D.kill, h1, h2]
  | .iptr _ _ => rfl
  | .nilp => rfl
  | .iface t d => by simp only [D.kill, D.kill_comm m n d]
  | .nilif => rfl
  | .fn f a b => by simp only [D.kill, D.kills_comm m n a, D.kills_comm m n b]
  | .nilfn => rfl
  | .nilm => rfl
  | .it a => by
    simp only [D.kill]
    cases h1 : Nat.beq a m <;> cases h2 : Nat.beq a n <;> simp only [cond_true, cond_false, D.kill, h1, h2]
theorem D.kills_comm (m n : Nat) : ∀ (ds : List D), D.kills m (D.kills n ds) = D.kills n (D.kills m ds)
  | [] => rfl
  | d :: ds => by simp only [D.kills, D.kill_comm m n d, D.kills_comm m n ds]
end

mutual
theorem D.hasRef_kill (m n : Nat) : ∀ (d : D), D.hasRef m (D.kill n d) = true → D.hasRef m d = true
  | .un, h => h
  | .bool _, h => h
  | .int _ _, h => h
  | .str _, h => h
  | .agg cs, h => by simp only [D.kill, D.hasRef] at h ⊢; exact D.hasRefs_kill m n cs h
  | .tup cs, h => by simp only [D.kill, D.hasRef] at h ⊢; exact D.hasRefs_kill m n cs h
  | .nils, h => h
  | .sl _ _ _, h => h
  | .ms a _ _ _ _, h => by
    simp only [D.kill] at h
    cases h2 : Nat.beq a n <;> rw [h2] at h
    · exact h
    · simp [D.hasRef] at h
  | .gs a _ _ _, h => by
    simp only [D.kill] at h
    cases h2 : Nat.beq a n <;> rw [h2] at h
    · exact h
    · simp [D.hasRef] at h
  | .ptr a _, h => by
    simp only [D.kill] at h
    cases h2 : Nat.beq a n <;> rw [h2] at h
    · exact h
    · simp [D.hasRef] at h
  | .iptr _ _, h => h
  | .nilp, h => h
  | .iface t d, h => by simp only [D.kill, D.hasRef] at h ⊢; exact D.hasRef_kill m n d h
  | .nilif, h => h
  | .fn f a b, h => by
    simp only [D.kill, D.hasRef, Bool.or_eq_true] at h ⊢
    exact h.imp (D.hasRefs_kill m n a) (D.hasRefs_kill m n b)
  | .nilfn, h => h
  | .nilm, h => h
  | .it a, h => by
    simp only [D.kill] at h
    cases h2 : Nat.beq a n <;> rw [h2] at h
    · exact h
    · simp [D.hasRef] at h
theorem D.hasRefs_kill (m n : Nat) : ∀ (ds : List D), D.hasRefs m (D.kills n ds) = true → D.hasRefs m ds = true
  | [], h => h
  | d :: ds, h => by
    simp only [D.kills, D.hasRefs, Bool.or_eq_true] at h ⊢
    exact h.imp (D.hasRef_kill m n d) (D.hasRefs_kill m n ds)
end

theorem killO_hasRef {m : Nat} : ∀ (k : List Nat) (d : D), D.hasRef m (killO k d) = true → D.hasRef m d = true
  | [], d, h => h
  | n :: r, d, h => D.hasRef_kill m n d (killO_hasRef r _ h)

theorem Blk.hasRef_kill (m n : Nat) (b : Blk) (h : (Blk.kill n b).hasRef m = true) : b.hasRef m = true := by
  cases b with
  | fix cs => exact D.hasRefs_kill m n cs h
  | grow cs => exact D.hasRefs_kill m n cs h
  | iter s p => exact h

theorem bkillO_hasRef {m : Nat} : ∀ (k : List Nat) (b : Blk), (bkillO k b).hasRef m = true → b.hasRef m = true
  | [], b, h => h
  | n :: r, b, h => Blk.hasRef_kill m n b (bkillO_hasRef r _ h)

theorem Blk.kill_comm (m n : Nat) (b : Blk) : Blk.kill m (Blk.kill n b) = Blk.kill n (Blk.kill m b) := by
  cases b with
  | fix cs => simp only [Blk.kill, D.kills_comm m n]
  | grow cs => simp only [Blk.kill, D.kills_comm m n]
  | iter s p => rfl

theorem killO_kill (m : Nat) : ∀ (k : List Nat) (d : D), killO k (D.kill m d) = D.kill m (killO k d)
  | [], d => rfl
  | n :: r, d => by simp only [killO]; rw [← killO_kill m r, D.kill_comm]

theorem killO_comm : ∀ (k l : List Nat) (d : D), killO k (killO l d) = killO l (killO k d)
  | [], l, d => rfl
  | m :: r, l, d => by simp only [killO]; rw [← killO_kill m l, killO_comm r l]

theorem bkillO_kill (m : Nat) : ∀ (k : List Nat) (d : Blk), bkillO k (Blk.kill m d) = Blk.kill m (bkillO k d)
  | [], d => rfl
  | n :: r, d => by simp only [bkillO]; rw [← bkillO_kill m r, Blk.kill_comm]

theorem bkillO_comm : ∀ (k l : List Nat) (d : Blk), bkillO k (bkillO l d) = bkillO l (bkillO k d)
  | [], l, d => rfl
  | m :: r, l, d => by simp only [bkillO]; rw [← bkillO_kill m l, bkillO_comm r l]

/-- The same states, but for how they are written. -/
def Sim (x y : AS) : Prop := (∀ t, tget x.t t = tget y.t t) ∧ ∀ n, sget x.s n = sget y.s n

theorem Sim.refl (x : AS) : Sim x x := ⟨fun _ => rfl, fun _ => rfl⟩
theorem Sim.symm {x y : AS} (h : Sim x y) : Sim y x := ⟨fun t => (h.1 t).symm, fun n => (h.2 n).symm⟩
theorem Sim.trans {x y z : AS} (h : Sim x y) (h' : Sim y z) : Sim x z := ⟨fun t => (h.1 t).trans (h'.1 t), fun n => (h.2 n).trans (h'.2 n)⟩

def unm (a b : AOper) : Prop := (∀ d, a.dst = some d → d ∉ b.tmps ∧ b.dst ≠ some d) ∧ ∀ d, b.dst = some d → d ∉ a.tmps

theorem not_any_beq {l : List Nat} {d : Nat} (h : (l.any (Nat.beq d)) = false) : d ∉ l := fun hm => by
  have : (l.any (Nat.beq d)) = true := List.any_eq_true.2 ⟨d, hm, by simp⟩
  rw [h] at this; cases this

theorem unmixed_unm {a b : AOper} (h : unmixed a b = true) : unm a b := by
  unfold unmixed at h
  simp only [Bool.and_eq_true] at h
  obtain ⟨h1, h2⟩ := h
  constructor
  · intro d hd
    rw [hd] at h1
    dsimp only at h1
    simp only [Bool.and_eq_true, Bool.not_eq_true'] at h1
    refine ⟨not_any_beq h1.1, fun hb => ?_⟩
    rw [hb] at h1
    have := h1.2
    simp at this
  · intro d hd
    rw [hd] at h2
    dsimp only at h2
    simp only [Bool.not_eq_true'] at h2
    exact not_any_beq h2

theorem disj_spec {l m : List Nat} (h : disj l m = true) : ∀ n, n ∈ l → n ∉ m := by
  intro n hn hm
  unfold disj at h
  rw [List.all_eq_true] at h
  have := h n hn
  simp only [Bool.not_eq_true'] at this
  exact not_any_beq this hm

theorem fp_tm {G : List (Nat × List D)} {o : AOper} {x x' : AS} : (o.fp G x x').tm = o.tmps := by
  unfold AOper.fp; cases o.on x <;> rfl

theorem apart_names {p q : FP} (h : apart p q = true) : (∀ n, n ∈ p.wr → n ∉ q.rd) ∧ (∀ n, n ∈ q.wr → n ∉ p.rd) :=
  ⟨disj_spec (apart_iff.1 h).1.1, disj_spec (apart_iff.1 h).1.2⟩

theorem any_false {l : List Nat} {f : Nat → Bool} (h : l.any f = false) : ∀ m ∈ l, f m = false := by
  intro m hm
  cases hf : f m with
  | false => rfl
  | true =>
    have : l.any f = true := List.any_eq_true.2 ⟨m, hm, hf⟩
    rw [h] at this; cases this

theorem bool_false {b : Bool} {P : Prop} (h : b = true → P) (hn : ¬ P) : b = false := by
  cases b with
  | false => rfl
  | true => exact absurd (h rfl) hn

/-- Two steps change places. -/
theorem swap {E : Env} {r i : AOper} {x y z : AS} (hr : StepTo E r x y) (hi : StepTo E i y z) (hu : unm r i) (ha : apart (r.fp E.G x y) (i.fp E.G y z) = true) :
    ∃ y' z', StepTo E i x y' ∧ StepTo E r y' z' ∧ Sim z' z ∧ FP.sim (i.fp E.G x y') (i.fp E.G y z) ∧ FP.le (r.fp E.G y' z') (r.fp E.G x y) := by
  have er := eff_of hr
  have ei := eff_of hi
  generalize hp : r.fp E.G x y = p at *
  generalize hq : i.fp E.G y z = q at *
  have ptm : p.tm = r.tmps := by rw [← hp]; exact fp_tm
  have qtm : q.tm = i.tmps := by rw [← hq]; exact fp_tm
  obtain ⟨hn1, hn2⟩ := apart_names ha
  obtain ⟨_, a1, a2, a3, a4⟩ := apart_iff.1 ha
  -- i comes first
  have hxt : ∀ t ∈ q.tm, tget x.t t = tget y.t t := fun t ht => by
    have hne : r.dst ≠ some t := fun e => (hu.1 t e).1 (qtm ▸ ht)
    rw [er.t t hne]
    refine (killO_id ?_).symm
    have := a1 t ht
    rw [er.th t] at this
    exact any_false this
  have hxs : ∀ n ∈ q.rd, sget x.s n = sget y.s n := fun n hn => by
    rw [er.s n (fun hw => hn1 n hw hn)]
    refine (bkillO_id ?_).symm
    have := a2 n hn
    rw [er.bh n] at this
    exact any_false this
  obtain ⟨y', hy', hyd, hyt, hys, hsim⟩ := ei.loc x hxt hxs
  have hrt : ∀ t ∈ p.tm, tget y'.t t = tget x.t t := fun t ht => by
    have hne : i.dst ≠ some t := fun e => hu.2 t e (ptm ▸ ht)
    rw [hyt t hne]
    exact killO_id fun m hm => bool_false (er.ht m t ht) (by rw [a4 m hm]; simp)
  have hrs : ∀ n ∈ p.rd, sget y'.s n = sget x.s n := fun n hn => by
    rw [hys n, if_neg (fun hw => hn2 n hw hn)]
    exact bkillO_id fun m hm => bool_false (er.hr m n hn) (by rw [a4 m hm]; simp)
  obtain ⟨z', hz', hzd, hzt, hzs, hsim'⟩ := er.loc y' hrt hrs
  refine ⟨y', z', hy', hz', ⟨fun t => ?_, fun n => ?_⟩, hsim, hsim', fun t => ?_, fun n => ?_⟩
  · by_cases h1 : r.dst = some t
    · have h2 : i.dst ≠ some t := (hu.1 t h1).2
      rw [hzd t h1, ei.t t h2]
      exact (killO_id fun m hm => bool_false (er.hd m t h1) (by rw [a4 m hm]; simp)).symm
    · rw [hzt t h1]
      by_cases h2 : i.dst = some t
      · rw [hyd t h2]
        exact killO_id fun m hm => bool_false (ei.hd m t h2) (by rw [a3 m hm]; simp)
      · rw [hyt t h2, ei.t t h2, er.t t h1, killO_comm]
  · rw [hzs n]
    by_cases h1 : n ∈ p.wr
    · rw [if_pos h1]
      have h2 : n ∉ q.wr := fun hw => hn1 n h1 (ei.sub n hw)
      rw [ei.s n h2]
      exact (bkillO_id fun m hm => bool_false (er.hw m n h1) (by rw [a4 m hm]; simp)).symm
    · rw [if_neg h1, hys n]
      by_cases h2 : n ∈ q.wr
      · rw [if_pos h2]
        exact bkillO_id fun m hm => bool_false (ei.hw m n h2) (by rw [a3 m hm]; simp)
      · rw [if_neg h2, ei.s n h2, er.s n h1]
        cases sget x.s n with
        | none => rfl
        | some b => simp only [Option.map_some, bkillO_comm]
  · have e' := eff_of hz'
    rw [e'.th t, er.th t, hsim'.kl]
    intro hh
    obtain ⟨m, hm, hh⟩ := List.any_eq_true.1 hh
    refine List.any_eq_true.2 ⟨m, hm, ?_⟩
    by_cases h2 : i.dst = some t
    · rw [hyd t h2] at hh
      have := ei.hd m t h2 hh
      rw [a3 m hm] at this; cases this
    · rw [hyt t h2] at hh
      exact killO_hasRef _ _ hh
  · have e' := eff_of hz'
    rw [e'.bh n, er.bh n, hsim'.kl]
    intro hh
    obtain ⟨m, hm, hh⟩ := List.any_eq_true.1 hh
    refine List.any_eq_true.2 ⟨m, hm, ?_⟩
    by_cases h2 : n ∈ q.wr
    · have : sref m z.s n = true := by
        unfold sref at hh ⊢
        rw [hys n, if_pos h2] at hh; exact hh
      have := ei.hw m n h2 this
      rw [a3 m hm] at this; cases this
    · unfold sref at hh ⊢
      rw [hys n, if_neg h2] at hh
      cases hs : sget x.s n with
      | none => rw [hs] at hh; cases hh
      | some b =>
        rw [hs] at hh
        exact bkillO_hasRef _ _ hh

/-- A step from the same state, written otherwise. -/
theorem step_sim {E : Env} {o : AOper} {x x' y : AS} (h : StepTo E o x x') (hs : Sim y x) : ∃ y', StepTo E o y y' ∧ Sim y' x' ∧ FP.le (o.fp E.G y y') (o.fp E.G x x') := by
  have e := eff_of h
  obtain ⟨y', hy', hd, ht, hss, hsim⟩ := e.loc y (fun t _ => hs.1 t) (fun n _ => hs.2 n)
  refine ⟨y', hy', ⟨fun t => ?_, fun n => ?_⟩, hsim, fun t => ?_, fun n => ?_⟩
  · by_cases h1 : o.dst = some t
    · exact hd t h1
    · rw [ht t h1, e.t t h1, hs.1 t]
  · rw [hss n]
    by_cases h1 : n ∈ (o.fp E.G x x').wr
    · rw [if_pos h1]
    · rw [if_neg h1, e.s n h1, hs.2 n]
  · have e' := eff_of hy'
    rw [e'.th t, e.th t, hsim.kl, hs.1 t]; exact id
  · have e' := eff_of hy'
    rw [e'.bh n, e.bh n, hsim.kl]
    unfold sref
    rw [hs.2 n]; exact id

abbrev Tr := Nat × AOper × FP

/-- The steps that are still to be done, with their footprints. -/
def Chain (E : Env) : List Tr → AS → AS → Prop
  | [], x, z => z = x
  | e :: r, x, z => ∃ y, StepTo E e.2.1 x y ∧ e.2.2 = e.2.1.fp E.G x y ∧ Chain E r y z

def TrLe (a b : Tr) : Prop := a.1 = b.1 ∧ a.2.1 = b.2.1 ∧ FP.le a.2.2 b.2.2

inductive Les : List Tr → List Tr → Prop
  | nil : Les [] []
  | cons {a b l m} : TrLe a b → Les l m → Les (a :: l) (b :: m)

theorem Les.refl : ∀ l, Les l l
  | [] => .nil
  | a :: l => .cons ⟨rfl, rfl, FP.le.refl _⟩ (Les.refl l)

theorem Les.trans {l m n : List Tr} (h : Les l m) (h' : Les m n) : Les l n := by
  induction h generalizing n with
  | nil => exact h'
  | cons h1 _ ih =>
    cases h' with
    | cons h2 h3 => exact .cons ⟨h1.1.trans h2.1, h1.2.1.trans h2.2.1, h1.2.2.trans h2.2.2⟩ (ih h3)

theorem Les.append {l m l' m' : List Tr} (h : Les l m) (h' : Les l' m') : Les (l ++ l') (m ++ m') := by
  induction h with
  | nil => exact h'
  | cons h1 _ ih => exact .cons h1 ih

theorem Les.mem {l m : List Tr} (h : Les l m) : ∀ a ∈ l, ∃ b ∈ m, TrLe a b := by
  induction h with
  | nil => intro a ha; cases ha
  | cons h1 _ ih =>
    intro a ha
    rcases List.mem_cons.1 ha with rfl | ha
    · exact ⟨_, List.mem_cons_self, h1⟩
    · obtain ⟨b, hb, hh⟩ := ih a ha; exact ⟨b, List.mem_cons_of_mem _ hb, hh⟩

theorem Les.keys {l m : List Tr} (h : Les l m) : l.map (·.1) = m.map (·.1) := by
  induction h with
  | nil => rfl
  | cons h1 _ ih => simp only [List.map_cons, h1.1, ih]

theorem Les.ops {l m : List Tr} (h : Les l m) : l.map (fun e => (e.1, e.2.1)) = m.map (fun e => (e.1, e.2.1)) := by
  induction h with
  | nil => rfl
  | cons h1 _ ih => simp only [List.map_cons, h1.1, h1.2.1, ih]

def Fits (C : Nat → Nat → Prop) (a b : Tr) : Prop := C a.1 b.1 → unm a.2.1 b.2.1 ∧ apart a.2.2 b.2.2 = true

theorem Fits.mono {C : Nat → Nat → Prop} {a a' b b' : Tr} (ha : TrLe a' a) (hb : TrLe b' b) (h : Fits C a b) : Fits C a' b' := fun hc => by
  rw [ha.1, hb.1] at hc
  obtain ⟨h1, h2⟩ := h hc
  rw [ha.2.1, hb.2.1]
  exact ⟨h1, apart_mono ha.2.2 hb.2.2.tosim h2⟩

theorem Les.fits {C : Nat → Nat → Prop} {l m : List Tr} (h : Les l m) (hp : m.Pairwise (Fits C)) : l.Pairwise (Fits C) := by
  induction h with
  | nil => exact .nil
  | cons h1 h2 ih =>
    rw [List.pairwise_cons] at hp ⊢
    refine ⟨fun a ha => ?_, ih hp.2⟩
    obtain ⟨b, hb, hh⟩ := h2.mem a ha
    exact Fits.mono h1 hh (hp.1 b hb)

theorem Chain.sim {E : Env} : ∀ (l : List Tr) {x y z : AS}, Chain E l x z → Sim y x → ∃ l' z', Chain E l' y z' ∧ Sim z' z ∧ Les l' l
  | [], x, y, z, h, hs => by
    simp only [Chain] at h; subst h
    exact ⟨[], y, rfl, hs, .nil⟩
  | e :: r, x, y, z, h, hs => by
    obtain ⟨u, h1, h2, h3⟩ := h
    obtain ⟨u', h4, h5, h6⟩ := step_sim h1 hs
    obtain ⟨l', z', h7, h8, h9⟩ := Chain.sim r h3 h5
    exact ⟨(e.1, e.2.1, e.2.1.fp E.G y u') :: l', z', ⟨u', h4, rfl, h7⟩, h8, .cons ⟨rfl, rfl, by rw [h2]; exact h6⟩ h9⟩

theorem Chain.append {E : Env} : ∀ (l : List Tr) {m : List Tr} {x z : AS}, Chain E (l ++ m) x z ↔ ∃ y, Chain E l x y ∧ Chain E m y z
  | [], m, x, z => by simp [Chain]
  | e :: r, m, x, z => by
    simp only [List.cons_append, Chain]
    constructor
    · rintro ⟨y, h1, h2, h3⟩
      obtain ⟨u, h4, h5⟩ := (Chain.append r).1 h3
      exact ⟨u, ⟨y, h1, h2, h4⟩, h5⟩
    · rintro ⟨u, ⟨y, h1, h2, h4⟩, h5⟩
      exact ⟨y, h1, h2, (Chain.append r).2 ⟨u, h4, h5⟩⟩

/-- A step that has nothing to do with those ahead of it comes first. -/
theorem Chain.front {E : Env} {C : Nat → Nat → Prop} {i : Tr} : ∀ (l : List Tr) {x y z : AS}, Chain E l x y → StepTo E i.2.1 y z → i.2.2 = i.2.1.fp E.G y z →
    (∀ a ∈ l, unm a.2.1 i.2.1 ∧ apart a.2.2 i.2.2 = true) → ∃ l' y' z', StepTo E i.2.1 x y' ∧ Chain E l' y' z' ∧ Sim z' z ∧ Les l' l ∧ FP.sim (i.2.1.fp E.G x y') i.2.2
  | [], x, y, z, h, hi, hp, hf => by
    simp only [Chain] at h; subst h
    exact ⟨[], z, z, hi, rfl, Sim.refl _, .nil, by rw [hp]; exact FP.sim.refl _⟩
  | e :: r, x, y, z, h, hi, hp, hf => by
    obtain ⟨u, h1, h2, h3⟩ := h
    obtain ⟨l', y', z', h4, h5, h6, h7, h8⟩ := Chain.front (C := C) r h3 hi hp fun a ha => hf a (List.mem_cons_of_mem _ ha)
    obtain ⟨hu, ha⟩ := hf e List.mem_cons_self
    rw [h2] at ha
    obtain ⟨v, v', k1, k2, k3, k4, k5⟩ := swap h1 h4 hu (apart_mono (FP.le.refl _) h8 ha)
    obtain ⟨l2, z2, k6, k7, k8⟩ := Chain.sim l' h5 k3
    exact ⟨(e.1, e.2.1, e.2.1.fp E.G v v') :: l2, v, z2, k1, ⟨v', k2, rfl, k6⟩, k7.trans h6, .cons ⟨rfl, rfl, by rw [h2]; exact k5⟩ (k8.trans h7), k4.trans h8⟩

end Iv
