/- Regions whose order is open: whatever the order, they come to what the order of the text comes to, if the steps that are not ordered have nothing to do with each other. Conditions: none. -/
import Derived.Test.YtblbgjfkbcdlfaaGreatDoorKE
import Derived.LoopN
set_option linter.unusedSimpArgs false
set_option linter.unusedVariables false
namespace Iv
open Go

def ancOf (o : Oper) (acc : List Nat) : Nat :=
  o.after.toList.foldl (fun s e => bif Region.binds .any e then s ||| 2 ^ e.on ||| acc.getD e.on 0 else s) 0

theorem ancs_spec : ∀ (l : List Oper) (acc : List Nat), ∃ r, ancs l acc = acc ++ r ∧ r.length = l.length ∧ ∀ k o, l[k]? = some o → r[k]? = some (ancOf o (acc ++ r.take k))
  | [], acc => ⟨[], by simp [ancs], rfl, fun k o h => by simp at h⟩
  | o :: l, acc => by
    obtain ⟨r, h1, h2, h3⟩ := ancs_spec l (acc ++ [ancOf o acc])
    refine ⟨ancOf o acc :: r, ?_, by simp [h2], fun k o' hk => ?_⟩
    · have : ancs (o :: l) acc = ancs l (acc ++ [ancOf o acc]) := rfl
      rw [this, h1]; simp
    · cases k with
      | zero => simp only [List.getElem?_cons_zero, Option.some.injEq] at hk; subst hk; simp
      | succ k =>
        simp only [List.getElem?_cons_succ] at hk
        have := h3 k o' hk
        simpa using this

theorem fold_bit {acc : List Nat} {i : Nat} : ∀ (l : List Edge) (s : Nat),
    (l.foldl (fun s e => bif Region.binds .any e then s ||| 2 ^ e.on ||| acc.getD e.on 0 else s) s).testBit i = true →
    s.testBit i = true ∨ ∃ e ∈ l, Region.binds .any e = true ∧ (e.on = i ∨ (acc.getD e.on 0).testBit i = true)
  | [], s, h => .inl h
  | e :: l, s, h => by
    rw [List.foldl_cons] at h
    rcases fold_bit l _ h with h | ⟨e', h1, h2⟩
    · cases hb : Region.binds .any e with
      | false => rw [hb] at h; exact .inl h
      | true =>
        rw [hb] at h
        simp only [cond_true, Nat.testBit_or, Bool.or_eq_true, Nat.testBit_two_pow, decide_eq_true_eq] at h
        rcases h with (h | h) | h
        · exact .inl h
        · exact .inr ⟨e, List.mem_cons_self, hb, .inl h⟩
        · exact .inr ⟨e, List.mem_cons_self, hb, .inr h⟩
    · exact .inr ⟨e', List.mem_cons_of_mem _ h1, h2⟩

theorem anc_bit {ops : Array Oper} {i j : Nat} (h : ((ancs ops.toList []).getD j 0).testBit i = true) :
    ∃ o e, ops[j]? = some o ∧ e ∈ o.after ∧ Region.binds .any e = true ∧ (e.on = i ∨ (e.on < j ∧ ((ancs ops.toList []).getD e.on 0).testBit i = true)) := by
  obtain ⟨r, h1, h2, h3⟩ := ancs_spec ops.toList []
  rw [List.nil_append] at h1
  rw [h1] at h ⊢
  have hj : j < ops.toList.length := by
    rcases Nat.lt_or_ge j r.length with hl | hl
    · omega
    · rw [List.getD_eq_getElem?_getD, List.getElem?_eq_none hl] at h; simp at h
  have ho : ops.toList[j]? = some ops.toList[j] := List.getElem?_eq_getElem hj
  have hr := h3 j _ ho
  rw [List.getD_eq_getElem?_getD, hr, Option.getD_some, ancOf, List.nil_append] at h
  rcases fold_bit _ _ h with h | ⟨e, he, hb, h⟩
  · simp at h
  · refine ⟨ops.toList[j], e, by simp, by simpa using he, hb, ?_⟩
    rcases h with h | h
    · exact .inl h
    · right
      rcases Nat.lt_or_ge e.on j with hl | hl
      · refine ⟨hl, ?_⟩
        rw [List.getD_eq_getElem?_getD, List.getElem?_take_of_lt hl, ← List.getD_eq_getElem?_getD] at h
        exact h
      · rw [List.getD_eq_getElem?_getD, List.getElem?_eq_none (by rw [List.length_take]; omega)] at h
        simp at h

/-- Listed with all that it comes behind. -/
def Down (ops : Array Oper) (listed : Array Bool) : Prop :=
  ∀ (j : Nat) (o : Oper) (e : Edge), listed.getD j false = true → ops[j]? = some o → e ∈ o.after → Region.binds .any e = true → listed.getD e.on false = true

theorem anc_listed {ops : Array Oper} {listed : Array Bool} (hd : Down ops listed) {i : Nat} : ∀ (j : Nat),
    (∀ o e, ops[j]? = some o → e ∈ o.after → Region.binds .any e = true → listed.getD e.on false = true) →
    ((ancs ops.toList []).getD j 0).testBit i = true → listed.getD i false = true := by
  intro j
  induction j using Nat.strongRecOn with
  | ind j ih =>
    intro hr h
    obtain ⟨o, e, ho, he, hb, hc⟩ := anc_bit h
    have hl := hr o e ho he hb
    rcases hc with rfl | ⟨hlt, hc⟩
    · exact hl
    · exact ih e.on hlt (fun o' e' ho' he' hb' => hd e.on o' e' hl ho' he' hb') hc

theorem cOpers_get {P : Program} {N base id : Nat} {ops : Array Oper} : ∀ (l : List Oper) (i : Nat) (as : List AOper), cOpers P N base id ops i l = some as →
    as.length = l.length ∧ ∀ k o, l[k]? = some o → ∃ ao, as[k]? = some ao ∧ cOper P N base id ops (i + k) o = some ao
  | [], i, as, hc => by
    simp only [cOpers, Option.some.injEq] at hc; subst hc
    exact ⟨rfl, fun k o h => by simp at h⟩
  | o :: l, i, as, hc => by
    obtain ⟨ao, as', h1, h2, rfl⟩ := cOpers_cons hc
    obtain ⟨h3, h4⟩ := cOpers_get l (i + 1) as' h2
    refine ⟨by simp [h3], fun k o' hk => ?_⟩
    cases k with
    | zero => simp only [List.getElem?_cons_zero, Option.some.injEq] at hk; subst hk; exact ⟨ao, rfl, h1⟩
    | succ k =>
      simp only [List.getElem?_cons_succ] at hk
      obtain ⟨ao', h5, h6⟩ := h4 k o' hk
      exact ⟨ao', by simpa using h5, by rw [show i + (k + 1) = i + 1 + k by omega]; exact h6⟩

section
variable {E : Env} {M0 : Nat → Prop} {w0 : World} {N : Nat} {base id : Nat} {ops : Array Oper} {as : List AOper} {K : AS → Prop} {Q : Exit → Act → World → Prop}

theorem getD_lt {l : Array Bool} {k : Nat} (h : k < l.size) (d d' : Bool) : l.getD k d = l.getD k d' := by
  simp [Array.getD_eq_getD_getElem?, h]

theorem any_sound (hops : ∀ k o, ops[k]? = some o → ∃ ao, as[k]? = some ao ∧ cOper E.P N base id ops k o = some ao.bare)
    (hfwd : ∀ k o e, ops[k]? = some o → e ∈ o.after → Region.binds .any e = true → e.on < k)
    (hn : ∀ a w μ M x, Rel E M0 w0 N μ M a w x → K x → Q .normal a w) :
    ∀ (n : Nat) (l : List Tr) (listed : Array Bool) (μ : Mu) (M : Nat → Prop) (a : Act) (w : World) (x z : AS), l.length = n → listed.size = ops.size →
      (∀ k, k < ops.size → (listed.getD k false = false ↔ k ∈ l.map (·.1))) → (l.map (·.1)).Pairwise (· < ·) → (∀ e ∈ l, e.1 < ops.size ∧ as[e.1]? = some e.2.1) →
      Down ops listed → l.Pairwise (Fits fun i j => ((ancs ops.toList []).getD j 0).testBit i = false) → Chain E l x z → (∀ z', Sim z' z → K z') → Rel E M0 w0 N μ M a w x →
      wpAny E.P .any ops Q n listed a w := by
  intro n
  induction n with
  | zero =>
    intro l listed μ M a w x z hlen hsz hun hsort has hdown hfit hch hK hR
    have hnil : l = [] := List.length_eq_zero_iff.1 hlen
    subst hnil
    simp only [Chain] at hch
    subst hch
    refine ⟨?_, hn _ _ _ _ _ hR (hK _ (Sim.refl _))⟩
    rw [List.eq_nil_iff_forall_not_mem]
    intro j hj
    obtain ⟨h0, o, ho, _⟩ := mem_ready.1 hj
    have hlt : j < ops.size := (Array.getElem?_eq_some_iff.1 ho).1
    rw [getD_lt (hsz ▸ hlt) true false] at h0
    have := (hun j hlt).1 h0
    simp at this
  | succ n ih =>
    intro l listed μ M a w x z hlen hsz hun hsort has hdown hfit hch hK hR
    have unl : ∀ e ∈ l, listed.getD e.1 false = false := fun e he => (hun e.1 (has e he).1).2 (List.mem_map_of_mem he)
    refine ⟨fun hr => ?_, fun i hi => ?_⟩
    · exfalso
      cases l with
      | nil => simp at hlen
      | cons e r =>
        obtain ⟨hlt, hae⟩ := has e List.mem_cons_self
        have ho : ops[e.1]? = some ops[e.1] := Array.getElem?_eq_getElem hlt
        have hmem : e.1 ∈ Region.ready .any ops listed := by
          rw [mem_ready]
          refine ⟨by rw [getD_lt (hsz ▸ hlt) true false]; exact unl e List.mem_cons_self, _, ho, fun e' he' hb => ?_⟩
          have hlt' := hfwd e.1 _ e' ho he' hb
          cases hh : listed.getD e'.on false with
          | true => rfl
          | false =>
            have hm := (hun e'.on (by omega)).1 hh
            rw [List.map_cons, List.mem_cons] at hm
            rw [List.map_cons, List.pairwise_cons] at hsort
            rcases hm with hm | hm
            · omega
            · have := hsort.1 _ hm; omega
        rw [hr] at hmem; cases hmem
    · obtain ⟨h0, o, ho, hall⟩ := mem_ready.1 hi
      have hlt : i < ops.size := (Array.getElem?_eq_some_iff.1 ho).1
      rw [getD_lt (hsz ▸ hlt) true false] at h0
      have hm := (hun i hlt).1 h0
      obtain ⟨t, htl, hti⟩ := List.mem_map.1 hm
      obtain ⟨l1, l2, rfl⟩ := List.append_of_mem htl
      obtain ⟨ao, hao, hco⟩ := hops i o ho
      have hta : t.2.1 = ao := by
        have := (has t htl).2
        rw [hti, hao] at this; exact (Option.some.inj this).symm
      obtain ⟨y, hc1, hc2⟩ := (Chain.append l1).1 hch
      obtain ⟨z1, hst, hfp, hc3⟩ := hc2
      rw [List.pairwise_append] at hfit
      have hfree : ∀ b ∈ l1, unm b.2.1 t.2.1 ∧ apart b.2.2 t.2.2 = true := fun b hb => by
        refine hfit.2.2 b hb t List.mem_cons_self ?_
        rw [hti]
        refine bool_false (fun h => anc_listed hdown i (fun o' e' ho' he' hb' => ?_) h) ?_
        · rw [ho] at ho'; cases ho'; exact hall e' he' hb'
        · rw [unl b (List.mem_append_left _ hb)]; simp
      obtain ⟨l1', y', z', k1, k2, k3, k4, _⟩ := Chain.front (C := fun _ _ => True) l1 hc1 hst hfp hfree
      obtain ⟨l2', z2, k5, k6, k7⟩ := Chain.sim l2 hc3 k3
      have hch' : Chain E (l1' ++ l2') y' z2 := (Chain.append l1').2 ⟨z', k2, k5⟩
      have hles : Les (l1' ++ l2') (l1 ++ l2) := Les.append k4 k7
      have hkeys := hles.keys
      have hsort2 : ((l1 ++ l2).map (·.1)).Pairwise (· < ·) := by
        refine hsort.sublist ?_
        simp only [List.map_append, List.map_cons]
        exact List.Sublist.append_left (List.sublist_cons_self _ _) _
      have hnot : i ∉ (l1 ++ l2).map (·.1) := by
        rw [List.map_append, List.map_cons, List.pairwise_append, List.pairwise_cons, hti] at hsort
        rw [List.map_append, List.mem_append]
        rintro (h | h)
        · have := hsort.2.2 i h i List.mem_cons_self; omega
        · have := hsort.2.1.1 i h; omega
      have next : ∀ a w μ M x', Rel E M0 w0 N μ M a w x' → x' = y' → wpAny E.P .any ops Q n (listed.setIfInBounds i true) a w := by
        rintro a w μ M _ hR' rfl
        refine ih (l1' ++ l2') _ μ M a w _ z2 ?_ (by simpa using hsz) (fun k hk => ?_) (by rw [hkeys]; exact hsort2) (fun e he => ?_) ?_ ?_ hch' (fun z'' hz'' => hK z'' (hz''.trans k6)) hR'
        · have := congrArg List.length hkeys
          simp only [List.length_map, List.length_append, List.length_cons] at this hlen ⊢
          omega
        · rw [hkeys]
          by_cases hki : k = i
          · subst hki
            have : (listed.setIfInBounds k true).getD k false = true := by simp [hsz ▸ hlt]
            rw [this]
            exact ⟨fun h => (by cases h), fun h => absurd h hnot⟩
          · rw [getD_set_ne false (Ne.symm hki), hun k hk]
            simp only [List.map_append, List.map_cons, List.mem_append, List.mem_cons, hti, hki, false_or]
        · obtain ⟨e', he', hle⟩ := hles.mem e he
          have := has e' (by rcases List.mem_append.1 he' with h | h <;> simp [h])
          rw [hle.1, hle.2.1]; exact this
        · intro j o' e hj ho' he hb
          by_cases hji : j = i
          · subst hji
            rw [ho] at ho'; cases ho'
            exact getD_set_true (hall e he hb)
          · rw [getD_set_ne false (Ne.symm hji)] at hj
            exact getD_set_true (hdown j o' e hj ho' he hb)
        · refine hles.fits ?_
          rw [List.pairwise_append]
          have h2 := hfit.2.1
          rw [List.pairwise_cons] at h2
          exact ⟨hfit.1, h2.2, fun b hb c hc => hfit.2.2 b hb c (List.mem_cons_of_mem _ hc)⟩
      unfold wpOp
      simp only [ho]
      rw [hta] at k1
      rcases step_on hR hco (K := fun x' => x' = y') (aStepK_iff.2 ⟨y', k1, rfl⟩) (Q := Q) next with ⟨hw, hh⟩ | ⟨hw, hh⟩
      · rw [if_pos hw]; exact .inl hh
      · rw [if_neg (by simp [hw])]; exact hh
end

end Iv
/- Regions whose order is open: from the run in the order of the text. Conditions: none. -/
set_option linter.unusedSimpArgs false
set_option linter.unusedVariables false
namespace Iv
open Go

section
variable {G : List (Nat × List D)}

theorem writes_nil {op : AOp} {x : AS} (h : op.wr = false) : op.writes G x = [] := by
  cases op <;> simp_all [AOp.wr, AOp.writes]
theorem reads_nil {op : AOp} {x : AS} (h : op.mem = false) : op.reads G x = [] := by
  cases op <;> simp_all [AOp.mem, AOp.reads]
theorem moves_none {op : AOp} {x : AS} (h : op.isApp = false) : op.moves G x = [] := by
  cases op <;> simp_all [AOp.isApp, AOp.moves]

theorem fp_parts {o : AOper} {x x' : AS} : (o.op.wr = false → (o.fp G x x').wr = []) ∧ (o.op.mem = false → (o.fp G x x').rd = []) ∧ (o.op.isApp = false → (o.fp G x x').kl = []) := by
  unfold AOper.fp
  cases o.on x with
  | true => exact ⟨writes_nil, reads_nil, moves_none⟩
  | false => exact ⟨fun _ => rfl, fun _ => rfl, fun _ => rfl⟩

theorem disj_nil_left (l : List Nat) : disj [] l = true := rfl
theorem disj_nil_right (l : List Nat) : disj l [] = true := by simp [disj]

theorem no_conflict {a b : AOper} (h : conflicts a b = false) {x x' y y' : AS} : apart (a.fp G x x') (b.fp G y y') = true := by
  unfold conflicts at h
  simp only [Bool.or_eq_false_iff, Bool.and_eq_false_iff] at h
  obtain ⟨⟨⟨h1, h2⟩, h3⟩, h4⟩ := h
  obtain ⟨a1, a2, a3⟩ := fp_parts (G := G) (o := a) (x := x) (x' := x')
  obtain ⟨b1, b2, b3⟩ := fp_parts (G := G) (o := b) (x := y) (x' := y')
  rw [apart_iff]
  have ha := a3 h3
  have hb := b3 h4
  have e1 : ∀ t, (a.fp G x x').th t = false := fun t => by
    unfold AOper.fp at ha ⊢
    cases ho : a.on x <;> rw [ho] at ha
    · rfl
    · simp only [cond_true] at ha ⊢; rw [ha]; rfl
  have e2 : ∀ t, (a.fp G x x').bh t = false := fun t => by
    unfold AOper.fp at ha ⊢
    cases ho : a.on x <;> rw [ho] at ha
    · rfl
    · simp only [cond_true] at ha ⊢; rw [ha]; rfl
  rw [ha, hb]
  refine ⟨⟨?_, ?_⟩, fun t _ => e1 t, fun n _ => e2 n, fun m hm => (by cases hm), fun m hm => (by cases hm)⟩
  · rcases h1 with h | h
    · rw [a1 h]; exact disj_nil_left _
    · rw [b2 h]; exact disj_nil_right _
  · rcases h2 with h | h
    · rw [b1 h]; exact disj_nil_left _
    · rw [a2 h]; exact disj_nil_right _

theorem bare_tmps (o : AOper) : o.bare.tmps = o.tmps := by
  unfold AOper.tmps AOper.bare
  cases o.op <;> rfl

theorem unmixed_bare (a b : AOper) : unmixed a.bare b.bare = unmixed a b := by
  unfold unmixed
  rw [bare_tmps, bare_tmps]
  rfl

theorem bare_flags (o : AOp) : o.bare.wr = o.wr ∧ o.bare.mem = o.mem ∧ o.bare.isApp = o.isApp := by
  cases o <;> exact ⟨rfl, rfl, rfl⟩

theorem conflicts_bare (a b : AOper) : conflicts a.bare b.bare = conflicts a b := by
  have h1 := bare_flags a.op
  have h2 := bare_flags b.op
  show ((a.op.bare.wr && b.op.bare.mem) || (b.op.bare.wr && a.op.bare.mem) || a.op.bare.isApp || b.op.bare.isApp) = _
  rw [h1.1, h1.2.1, h1.2.2, h2.1, h2.2.1, h2.2.2]
  rfl
end

theorem chain_of {E : Env} {K : AS → List FP → Prop} : ∀ (as : List AOper) (k : Nat) (x : AS) (acc : List FP), ARunD E as x acc K →
    ∃ (T : List Tr) (z : AS), Chain E T x z ∧ T.map (·.2.1) = as ∧ T.map (·.1) = List.range' k as.length ∧ K z (acc.reverse ++ T.map (·.2.2))
  | [], k, x, acc, h => ⟨[], x, rfl, rfl, rfl, by simpa [ARunD] using h⟩
  | o :: as, k, x, acc, h => by
    simp only [ARunD] at h
    obtain ⟨y, h1, h2⟩ := aStepK_iff.1 h
    obtain ⟨T, z, h3, h4, h5, h6⟩ := chain_of as (k + 1) y _ h2
    refine ⟨(k, o, o.fp E.G x y) :: T, z, ⟨y, h1, rfl, h3⟩, by simp [h4], by simp [h5, List.range'_succ], ?_⟩
    simpa using h6

theorem openPairs_mem {anc : List Nat} {i j : Nat} (hij : i < j) (hj : j < anc.length) (h : (anc.getD j 0).testBit i = false) : (i, j) ∈ openPairs anc := by
  unfold openPairs
  rw [List.mem_flatMap]
  refine ⟨j, List.mem_range.2 hj, ?_⟩
  rw [List.mem_filterMap]
  exact ⟨i, List.mem_range.2 hij, by rw [h]; rfl⟩

section
variable {E : Env} {M0 : Nat → Prop} {w0 : World} {N : Nat} {μ : Mu} {M : Nat → Prop} {a : Act} {w : World} {x : AS}

theorem region_any (hmix : E.P.follows .mixedOrders = true) {base id : Nat} {ops : Array Oper} {as : List AOper} (hc : cOpers E.P N base id ops 0 ops.toList = some (as.map AOper.bare))
    {dr : List (Nat × Nat)} (hd : drawPairs ops.toList (as.map AOper.bare) = some dr) {Q : Exit → Act → World → Prop} {K : AS → Prop}
    (h : Rel E M0 w0 N μ M a w x) (hK : ARunD E as x [] fun x' l => indep dr l = true ∧ K x') (hn : ∀ a w μ M x, Rel E M0 w0 N μ M a w x → K x → Q .normal a w) :
    (Code.region id ops true).wp E.P Q a w := by
  obtain ⟨hlen, hget⟩ := cOpers_get ops.toList 0 _ hc
  rw [List.length_map] at hlen
  obtain ⟨T, z, hch, hT2, hT1, hind, hKz⟩ := chain_of as 0 x [] hK
  rw [List.reverse_nil, List.nil_append] at hind
  unfold drawPairs at hd
  dsimp only at hd
  generalize hpr : openPairs (ancs ops.toList []) = pr at hd
  cases hcond : ((ops.toList.zipIdx.all fun p => p.1.after.toList.all fun e => !Region.binds .any e || Nat.blt e.on p.2) &&
      pr.all (fun p => unmixed ((as.map AOper.bare).getD p.1 default) ((as.map AOper.bare).getD p.2 default))) <;> rw [hcond] at hd
  · cases hd
  simp only [cond_true, Option.some.injEq] at hd
  simp only [Bool.and_eq_true, List.all_eq_true] at hcond
  obtain ⟨hfw, hunm⟩ := hcond
  have hTl : T.length = as.length := by have := congrArg List.length hT2; simpa using this
  have hsz : as.length = ops.size := by simpa using hlen
  obtain ⟨ra, hra1, hra2, _⟩ := ancs_spec ops.toList []
  have hal : (ancs ops.toList []).length = ops.size := by rw [hra1]; simpa using hra2
  have hT1i : ∀ k (hk : k < T.length), T[k].1 = k := fun k hk => by
    have : (T.map (·.1))[k]? = (List.range' 0 as.length)[k]? := by rw [hT1]
    rw [List.getElem?_map, List.getElem?_eq_getElem hk, List.getElem?_range' (by omega)] at this
    simpa using this
  have hT2i : ∀ k (hk : k < T.length), as[k]? = some T[k].2.1 := fun k hk => by
    rw [← hT2, List.getElem?_map, List.getElem?_eq_getElem hk]; rfl
  refine wp_region_any hmix ?_
  have hR : Rel E M0 w0 N μ M a { w with drawn := w.drawn + 1 } x := h.world rfl
  have hTs : T.length = ops.size := by omega
  rw [← hTs]
  refine any_sound (base := base) (id := id) (as := as) (K := fun x' => ∃ z, Sim x' z ∧ K z) (fun k o ho => ?_) (fun k o e ho he hb => ?_) (fun a w μ M x' hR' hk => ?_) T.length T _ μ M a _ x z rfl (by rw [hTs]; simp) (fun k hk => ?_) ?_ (fun e he => ?_) ?_ ?_ hch (fun z' hz' => ⟨z, hz', hKz⟩) hR
  · obtain ⟨bo, h1, h2⟩ := hget k o (by simpa using ho)
    rw [List.getElem?_map, Option.map_eq_some_iff] at h1
    obtain ⟨ao, h3, rfl⟩ := h1
    exact ⟨ao, h3, by simpa using h2⟩
  · have hm : (o, k) ∈ ops.toList.zipIdx := by
      rw [List.mem_zipIdx_iff_getElem?]; simpa using ho
    have := hfw (o, k) hm e (by simpa using he)
    simp only [hb, Bool.not_true, Bool.false_or] at this
    simpa using this
  · obtain ⟨z, hz, hk⟩ := hk
    exact hn _ _ _ _ _ (hR'.congr (fun n => .inl (hz.1 n).symm) (fun n => (hz.2 n).symm)) hk
  · have hk' : k < T.length := by omega
    constructor
    · intro _
      exact List.mem_map.2 ⟨T[k], List.getElem_mem hk', hT1i k hk'⟩
    · intro _
      simp [Array.getD_eq_getD_getElem?, hk']
  · rw [hT1]; exact List.pairwise_lt_range'
  · obtain ⟨k, hk, rfl⟩ := List.getElem_of_mem he
    rw [hT1i k hk]
    exact ⟨by omega, hT2i k hk⟩
  · intro j o e hj ho he hb
    exfalso
    rw [Array.getD_eq_getD_getElem?] at hj
    cases hh : (Array.replicate T.length false)[j]? with
    | none => rw [hh] at hj; cases hj
    | some b =>
      rw [hh] at hj
      have := Array.mem_of_getElem? hh
      rw [Array.mem_replicate] at this
      rw [this.2] at hj; cases hj
  · rw [List.pairwise_iff_getElem]
    intro i j hi hj hij hC
    rw [hT1i i hi, hT1i j hj] at hC
    have hmem : (i, j) ∈ pr := by rw [← hpr]; exact openPairs_mem hij (by omega) hC
    have ei : (as.map AOper.bare).getD i default = T[i].2.1.bare := by rw [List.getD_eq_getElem?_getD, List.getElem?_map, hT2i i hi]; rfl
    have ej : (as.map AOper.bare).getD j default = T[j].2.1.bare := by rw [List.getD_eq_getElem?_getD, List.getElem?_map, hT2i j hj]; rfl
    have hu := hunm _ hmem
    dsimp only at hu
    rw [ei, ej, unmixed_bare] at hu
    refine ⟨unmixed_unm hu, ?_⟩
    cases hcf : conflicts T[i].2.1 T[j].2.1 with
    | true =>
      have hdm : (i, j) ∈ dr := by
        rw [← hd, List.mem_filter]
        refine ⟨hmem, ?_⟩
        dsimp only
        rw [ei, ej, conflicts_bare]; exact hcf
      unfold indep at hind
      rw [List.all_eq_true] at hind
      have := hind _ hdm
      dsimp only at this
      rw [List.getElem?_map, List.getElem?_map, List.getElem?_eq_getElem hi, List.getElem?_eq_getElem hj] at this
      exact this
    | false =>
      have fps : ∀ (l : List Tr) (x z : AS), Chain E l x z → ∀ e ∈ l, ∃ u v, e.2.2 = e.2.1.fp E.G u v := by
        intro l
        induction l with
        | nil => intro x z _ e he; cases he
        | cons t l ih =>
          rintro x z ⟨y, h1, h2, h3⟩ e he
          rcases List.mem_cons.1 he with rfl | he
          · exact ⟨x, y, h2⟩
          · exact ih y z h3 e he
      obtain ⟨u, v, e1⟩ := fps T x z hch T[i] (List.getElem_mem hi)
      obtain ⟨u', v', e2⟩ := fps T x z hch T[j] (List.getElem_mem hj)
      rw [e1, e2]
      exact no_conflict hcf
end

end Iv
/- Code: the model's comes to what the abstract one comes to; functions. Conditions: none. -/
set_option linter.unusedSimpArgs false
set_option linter.unusedVariables false
namespace Iv
open Go

section
variable {E : Env} {M0 : Nat → Prop} {w0 : World} {N : Nat} {μ : Mu} {M : Nat → Prop} {a : Act} {w : World} {x : AS}

theorem Rel.setT (h : Rel E M0 w0 N μ M a w x) (t : Nat) (d : D) (hd : VRel M w μ d (a.tmps.getD t undef)) : Rel E M0 w0 N μ M a w ⟨(t, d) :: x.t, x.s⟩ :=
  { size := h.size, old := h.old, mold := h.mold, mlt := h.mlt, m0lt := h.m0lt, defers := h.defers, n := h.n, st := h.st, dom := h.dom, own := h.own, inj := h.inj, glob := h.glob, env := h.env
    tm := fun n => by
      simp only [tget_cons]
      by_cases hn : n = t
      · subst hn; rw [if_pos rfl]; exact hd
      · rw [if_neg hn]; exact h.tm n }

theorem Rel.adopt1 (h : Rel E M0 w0 N μ M a w x) (t nm sz : Nat) (hn : shas x.s nm = false) (ht : tget x.t t = .nils) :
    ∃ μ', Rel E M0 w0 N μ' M a w ⟨(t, .gs nm 0 sz 0) :: x.t, (nm, .grow []) :: x.s⟩ := by
  have h1 : Rel E M0 w0 N (muSet μ nm (some ⟨none, 0⟩)) M a w ⟨x.t, (nm, .grow []) :: x.s⟩ := by
    refine h.install nm hn (.grow []) ⟨none, 0⟩ (Ext.refl M w) (fun _ _ => rfl) (fun _ _ => Iff.rfl) h.mlt (fun m l b _ _ => ⟨rfl, id, by simp⟩) (fun b hb => by cases hb) (fun n => rfl) (fun n => ?_) ?_
    · exact sget_cons _ _ _ _
    · exact ⟨⟨none, 0⟩, by simp [muSet], .inl ⟨rfl, rfl, rfl⟩⟩
  refine ⟨_, h1.setT t _ ?_⟩
  have hv := h.tm t
  rw [ht] at hv
  simp only [VRel] at hv ⊢
  exact ⟨⟨none, 0⟩, 0, by simp [muSet], by rw [hv]; rfl, Nat.le_refl _, by simp, fun _ => rfl⟩

theorem Rel.adopt : ∀ (l : List (Nat × Nat × Nat)) {μ : Mu} {x : AS}, Rel E M0 w0 N μ M a w x → ∃ μ', Rel E M0 w0 N μ' M a w (adopt x l)
  | [], μ, x, h => ⟨μ, h⟩
  | (t, nm, sz) :: r, μ, x, h => by
    simp only [Iv.adopt]
    split
    · rename_i ht
      cases hn : shas x.s nm with
      | true => exact Rel.adopt r h
      | false =>
        obtain ⟨μ', h'⟩ := h.adopt1 t nm sz hn ht
        exact Rel.adopt r h'
    · exact Rel.adopt r h

theorem Rel.limit (h : Rel E M0 w0 N μ M a w x) (l : List Nat) : Rel E M0 w0 N μ M a w ⟨restrict l x.t, x.s⟩ :=
  h.congr (fun n => tget_restrict l x.t n) (fun n => rfl)

theorem Rel.lim (h : Rel E M0 w0 N μ M a w x) (l : Option (List Nat)) : Rel E M0 w0 N μ M a w (lim l x) := by
  cases l with
  | none => exact h
  | some l => exact h.limit l

theorem Rel.norm (h : Rel E M0 w0 N μ M a w x) (lt ls : List Nat) (ad : List (Nat × Nat × Nat)) : ∃ μ', Rel E M0 w0 N μ' M a w (norm lt ls ad x) := by
  obtain ⟨μ1, h1⟩ := Rel.adopt ad h
  exact Rel.dropBut ls _ (h1.limit lt)

def AX.out : AX → Exit
  | .normal => .normal
  | .exit i => .exit i
  | .ret => .ret

/-- The model's postcondition of an abstract one. -/
def Meets (E : Env) (M0 : Nat → Prop) (w0 : World) (N : Nat) (AQ : AX → AS → Prop) (Q : Exit → Act → World → Prop) : Prop :=
  ∀ e a w μ M x, Rel E M0 w0 N μ M a w x → AQ e x → Q (AX.out e) a w

theorem code_sound (hmix : E.P.follows .mixedOrders = true) {base : Nat} : ∀ (c : Code) (A : AC), comp E.P N base c = some A.bare → ∀ (AQ : AX → AS → Prop) (Q : Exit → Act → World → Prop),
    Meets E M0 w0 N AQ Q → ∀ (μ : Mu) (M : Nat → Prop) (a : Act) (w : World) (x : AS), Rel E M0 w0 N μ M a w x → awp E A AQ x → c.wp E.P Q a w := by
  intro c
  induction c with
  | skip =>
    intro A hc AQ Q hQ μ M a w x h hA
    simp only [comp, Option.some.injEq] at hc
    cases A <;> simp only [AC.bare, reduceCtorEq] at hc
    exact wp_skip (hQ .normal _ _ _ _ _ h hA)
  | label l =>
    intro A hc AQ Q hQ μ M a w x h hA
    simp only [comp, Option.some.injEq] at hc
    cases A <;> simp only [AC.bare, reduceCtorEq] at hc
    exact wp_label (hQ .normal _ _ _ _ _ h hA)
  | region id ops draw =>
    intro A hc AQ Q hQ μ M a w x h hA
    simp only [comp, Option.bind_eq_bind, Option.bind_eq_some_iff] at hc
    obtain ⟨l, hl, hc⟩ := hc
    cases draw with
    | false =>
      simp only [cond_false, Option.some.injEq] at hc
      cases A <;> simp only [AC.bare, reduceCtorEq, AC.reg.injEq] at hc
      rename_i dr kl ops' live
      obtain ⟨rfl, rfl, rfl, _⟩ := hc
      obtain ⟨μ', h'⟩ := Rel.drops (newsOf (ops'.map AOper.bare)) h
      exact region_text hl h' hA fun a w μ M x hR hk => hQ .normal _ _ _ _ _ (hR.lim live) hk
    | true =>
      simp only [cond_true, Option.bind_eq_some_iff, Option.some.injEq] at hc
      obtain ⟨dr, hdr, hc⟩ := hc
      cases A <;> simp only [AC.bare, reduceCtorEq, AC.reg.injEq] at hc
      rename_i dr' kl ops' live
      obtain ⟨rfl, rfl, rfl, _⟩ := hc
      obtain ⟨μ', h'⟩ := Rel.drops (newsOf (ops'.map AOper.bare)) h
      exact region_any (K := fun x' => AQ .normal (Iv.lim live x')) hmix hl hdr h' hA fun a w μ M x hR hk => hQ .normal _ _ _ _ _ (hR.lim live) hk
  | seq p q ihp ihq =>
    intro A hc AQ Q hQ μ M a w x h hA
    simp only [comp, Option.bind_eq_bind, Option.bind_eq_some_iff, Option.some.injEq] at hc
    obtain ⟨A1, h1, A2, h2, hc⟩ := hc
    cases A <;> simp only [AC.bare, reduceCtorEq, AC.seq.injEq] at hc
    obtain ⟨rfl, rfl⟩ := hc
    simp only [awp] at hA
    refine wp_seq (ihp _ h1 _ _ (fun e a w μ M x hR hk => ?_) μ M a w x h hA)
    cases e with
    | normal => exact ihq _ h2 AQ Q hQ μ M a w x hR hk
    | exit i => exact hQ (.exit i) _ _ _ _ _ hR hk
    | ret => exact hQ .ret _ _ _ _ _ hR hk
  | cond o p q ihp ihq =>
    intro A hc AQ Q hQ μ M a w x h hA
    simp only [comp, Option.bind_eq_bind, Option.bind_eq_some_iff, Option.some.injEq] at hc
    obtain ⟨ar, h0, A1, h1, A2, h2, hc⟩ := hc
    cases A <;> simp only [AC.bare, reduceCtorEq, AC.cond.injEq] at hc
    obtain ⟨rfl, rfl, rfl⟩ := hc
    simp only [awp] at hA
    have hv := arg_rel h h0
    split at hA
    · rename_i r hr
      rw [hr] at hv
      simp only [VRel] at hv
      exact wp_cond_split hv (fun e => ihp _ h1 AQ Q hQ μ M a w x h (hA.1 e)) (fun e => ihq _ h2 AQ Q hQ μ M a w x h (hA.2 e))
    · exact hA.elim
  | block id p ih =>
    intro A hc AQ Q hQ μ M a w x h hA
    simp only [comp, Option.bind_eq_bind, Option.bind_eq_some_iff, Option.some.injEq] at hc
    obtain ⟨A1, h1, hc⟩ := hc
    cases A <;> simp only [AC.bare, reduceCtorEq, AC.block.injEq] at hc
    obtain ⟨rfl, rfl⟩ := hc
    simp only [awp] at hA
    refine wp_block (ih _ h1 _ _ (fun e a w μ M x hR hk => ?_) μ M a w x h hA)
    cases e with
    | normal => exact hQ .normal _ _ _ _ _ hR hk
    | exit i =>
      simp only [blockQ] at hk
      simp only [AX.out, Exit.inBlock]
      by_cases hi : i = id
      · rw [if_pos hi] at hk ⊢; exact hQ .normal _ _ _ _ _ hR hk
      · rw [if_neg hi] at hk ⊢; exact hQ (.exit i) _ _ _ _ _ hR hk
    | ret => exact hQ .ret _ _ _ _ _ hR hk
  | loop p ih =>
    intro A hc AQ Q hQ μ M a w x h hA
    simp only [comp, Option.bind_eq_bind, Option.bind_eq_some_iff, Option.some.injEq] at hc
    obtain ⟨A1, h1, hc⟩ := hc
    cases A <;> simp only [AC.bare, reduceCtorEq, AC.loop.injEq] at hc
    rename_i lt ls ad A'
    obtain ⟨_, _, _, rfl⟩ := hc
    simp only [awp] at hA
    obtain ⟨I, m, hI, hround⟩ := hA
    have key : ∀ n (μ : Mu) (M : Nat → Prop) (a : Act) (w : World) (y : AS), m y < n → Rel E M0 w0 N μ M a w y → I y → Code.rounds E.P p Q n a w := by
      intro n
      induction n with
      | zero => intro μ M a w y hm; omega
      | succ n ihn =>
        intro μ M a w y hm hR hy
        rw [rounds_succ]
        refine ih _ h1 _ _ (fun e a w μ M z hR' hk => ?_) μ M a w y hR (hround y hy)
        cases e with
        | normal =>
          obtain ⟨μ', h'⟩ := Rel.norm hR' lt ls ad
          exact ihn μ' M a w _ (by have := hk.2; omega) h' hk.1
        | exit i => exact hQ (.exit i) _ _ _ _ _ hR' hk
        | ret => exact hQ .ret _ _ _ _ _ hR' hk
    obtain ⟨μ', h'⟩ := Rel.norm h lt ls ad
    exact wp_loop_rounds _ (key (m (norm lt ls ad x) + 1) μ' M a w _ (by omega) h' hI)
  | exit id =>
    intro A hc AQ Q hQ μ M a w x h hA
    simp only [comp, Option.some.injEq] at hc
    cases A <;> simp only [AC.bare, reduceCtorEq, AC.exit.injEq] at hc
    subst hc
    exact wp_exit (hQ (.exit _) _ _ _ _ _ h hA)
  | scope p ih =>
    intro A hc AQ Q hQ μ M a w x h hA
    simp only [comp, Option.bind_eq_bind, Option.bind_eq_some_iff, Option.some.injEq] at hc
    obtain ⟨A1, h1, hc⟩ := hc
    cases A <;> simp only [AC.bare, reduceCtorEq, AC.scope.injEq] at hc
    subst hc
    simp only [awp] at hA
    refine wp_scope_straight (ih _ h1 AQ _ (fun e a w μ M x hR hk => ?_) μ M a w x h hA)
    cases e with
    | normal => exact hQ .normal _ _ _ _ _ hR hk
    | exit i => exact hQ (.exit i) _ _ _ _ _ hR hk
    | ret => exact hQ .ret _ _ _ _ _ hR hk
  | ret =>
    intro A hc AQ Q hQ μ M a w x h hA
    simp only [comp, Option.some.injEq] at hc
    cases A <;> simp only [AC.bare, reduceCtorEq] at hc
    exact wp_ret (hQ .ret _ _ _ _ _ h hA)
  | _ => intro A hc; simp only [comp, reduceCtorEq] at hc
end

end Iv
/- Functions: a contract from abstract code. Conditions: none. -/
set_option linter.unusedSimpArgs false
set_option linter.unusedVariables false
namespace Iv
open Go

section
variable {E : Env} {M0 : Nat → Prop} {w0 : World} {N : Nat} {μ : Mu} {M : Nat → Prop} {a : Act} {w : World} {x : AS}

theorem tget_argTm : ∀ (k : Nat) (args : List D) (n : Nat), tget (argTm k args) n = if k ≤ n then (args[n - k]?).getD .un else .un
  | k, [], n => by simp [argTm, tget]
  | k, d :: r, n => by
    simp only [argTm, tget_cons, tget_argTm (k + 1) r n]
    by_cases h : n = k
    · subst h; simp
    · rw [if_neg h]
      by_cases h1 : k + 1 ≤ n
      · rw [if_pos h1, if_pos (by omega), show n - k = (n - (k + 1)) + 1 by omega, List.getElem?_cons_succ]
      · rw [if_neg h1, if_neg (by omega)]

/-- The state at a function's beginning. -/
theorem start_rel {args : List D} {vals : List Value} (hm : ∀ b, M b → b < w.heap.size) (hg : GRel E M w) (hv : VRels M w mu0 args vals) :
    Rel E M w N mu0 M { tmps := vals.toArray ++ Array.replicate (N - vals.length) undef, defers := [] } w (AF.start args) :=
  { size := Nat.le_refl _, old := fun _ _ => rfl, mold := fun _ _ => Iff.rfl, mlt := hm, m0lt := hm, defers := rfl, env := ⟨rfl, rfl⟩
    n := by simp; omega
    tm := fun n => by
      simp only [AF.start, tget_argTm, Nat.zero_le, if_true, Nat.sub_zero]
      cases ha : args[n]? with
      | none => simp only [Option.getD_none, VRel]
      | some d =>
        obtain ⟨v, h1, h2⟩ := hv.get n d ha
        have hlt : n < vals.length := (List.getElem?_eq_some_iff.1 h1).1
        have : (vals.toArray ++ Array.replicate (N - vals.length) undef).getD n undef = v := by
          rw [Array.getD_eq_getD_getElem?, Array.getElem?_append_left (by simpa using hlt)]
          simp [h1]
        rw [Option.getD_some]
        show VRel M w mu0 d ((vals.toArray ++ Array.replicate (N - vals.length) undef).getD n undef)
        rw [this]; exact h2
    st := fun nm blk h => by simp [AF.start, sget] at h
    dom := fun nm l h => by simp [mu0] at h
    own := fun nm l b h => by simp [mu0] at h
    inj := fun n m l l' b h => by simp [mu0] at h
    glob := hg }

theorem rv_run (h : Rel E M0 w0 N μ M a w x) {r : ResultVar} {rv : RV} {d : D} (hc : compRes E.P r = some rv) (hg : RV.get x rv = some d) :
    ∃ v, (match r with | .tmp t => pure (a.tmps.getD t undef) | .cell p t => do loadVar t (← asAddr (a.tmps.getD p undef)) : Sem Value).run E.P w = .ok v w ∧ VRel M w μ d v := by
  cases r with
  | tmp t =>
    simp only [compRes, Option.some.injEq] at hc
    subst hc
    simp only [RV.get, Option.some.injEq] at hg
    subst hg
    exact ⟨_, Sem.run_pure _ _ _, h.tm t⟩
  | cell p t =>
    simp only [compRes, Option.bind_eq_bind, Option.bind_eq_some_iff, Option.some.injEq] at hc
    obtain ⟨sz, hsz, rfl⟩ := hc
    simp only [RV.get, Option.bind_eq_bind, Option.bind_eq_some_iff] at hg
    obtain ⟨⟨cs, off⟩, h1, h2⟩ := hg
    obtain ⟨b, o, hval, hcells⟩ := seen_rel h h1 (h.tm p)
    obtain ⟨v, hrun, hr⟩ := run_loadVar_rel (P := E.P) hsz h2 hcells
    refine ⟨v, ?_, hr⟩
    simp [hval, asAddr, hrun]

theorem list_mapM_run {α : Type} {P : Program} {f : α → Sem Value} {R : Nat → Value → Prop} {w : World} : ∀ (l : List α) (k : Nat), (∀ i r, l[i]? = some r → ∃ v, (f r).run P w = .ok v w ∧ R (k + i) v) →
    ∃ vs, (l.mapM f).run P w = .ok vs w ∧ vs.length = l.length ∧ ∀ i v, vs[i]? = some v → R (k + i) v
  | [], k, _ => ⟨[], by simp, rfl, fun i v h => by simp at h⟩
  | r :: l, k, h => by
    obtain ⟨v, h1, h2⟩ := h 0 r rfl
    obtain ⟨vs, h3, h4, h5⟩ := list_mapM_run l (k + 1) fun i r' hi => by
      have := h (i + 1) r' (by simpa using hi)
      rwa [show k + (i + 1) = k + 1 + i by omega] at this
    refine ⟨v :: vs, by simp [List.mapM_cons, h1, h3], by simp [h4], fun i u hi => ?_⟩
    cases i with
    | zero => simp only [List.getElem?_cons_zero, Option.some.injEq] at hi; subst hi; exact h2
    | succ i =>
      have := h5 i u (by simpa using hi)
      rwa [show k + (i + 1) = k + 1 + i by omega]

theorem results_run (h : Rel E M0 w0 N μ M a w x) {fn : Func} {A : AF} (hc : fn.results.toList.mapM (compRes E.P) = some A.res) {ds : List D} (hg : A.res.mapM (RV.get x) = some ds) :
    ∃ v, (results fn a.tmps).run E.P w = .ok v w ∧ VRel M w μ (retD ds) v := by
  obtain ⟨l1, l2⟩ := mapM_rel hc
  obtain ⟨l3, l4⟩ := mapM_rel hg
  obtain ⟨vs, h1, h2, h3⟩ := list_mapM_run (P := E.P) (w := w) (R := fun i v => ∃ d, ds[i]? = some d ∧ VRel M w μ d v)
    (f := fun r => (match r with | .tmp t => pure (a.tmps.getD t undef) | .cell p t => do loadVar t (← asAddr (a.tmps.getD p undef)) : Sem Value)) fn.results.toList 0 (fun i r hr => by
      have hi : i < A.res.length := by have := (List.getElem?_eq_some_iff.1 hr).1; omega
      have e1 : A.res[i]? = some A.res[i] := List.getElem?_eq_getElem hi
      have hi' : i < ds.length := by omega
      have e2 : ds[i]? = some ds[i] := List.getElem?_eq_getElem hi'
      obtain ⟨v, h1, h2⟩ := rv_run h (l2 i r _ hr e1) (l4 i _ _ e1 e2)
      exact ⟨v, h1, ds[i], by simp, h2⟩)
  have hrun : (fn.results.mapM (fun r => (match r with | .tmp t => pure (a.tmps.getD t undef) | .cell p t => do loadVar t (← asAddr (a.tmps.getD p undef)) : Sem Value))).run E.P w = .ok vs.toArray w := by
    rw [Array.mapM_eq_mapM_toList]
    simp at h1 ⊢
    rw [h1]; rfl
  have hlen : vs.length = ds.length := by omega
  have hrel : VRels M w μ ds vs := VRels.mk hlen fun i d v hd hv => by
    obtain ⟨d', e, hr⟩ := h3 i v hv
    rw [Nat.zero_add, hd] at e; cases e; exact hr
  refine ⟨if h : vs.toArray.size = 1 then vs.toArray[0] else .tuple vs.toArray, ?_, ?_⟩
  · unfold results
    rw [Sem.run_bind]
    exact congrArg (fun r => Result.andThen r fun a w' => Sem.run E.P (pure (if h : a.size = 1 then a[0] else Value.tuple a)) w') hrun
  · match ds, vs, hrel with
    | [], vs, hr => simp only [VRels] at hr; subst hr; simp only [retD, VRel]; exact ⟨_, rfl, by simp only [VRels]⟩
    | [d], vs, hr =>
      simp only [VRels] at hr
      obtain ⟨v, _, rfl, hv, rfl⟩ := hr
      simpa [retD] using hv
    | d :: e :: r, vs, hr =>
      have hne : vs.toArray.size ≠ 1 := by have := hr.length; simp at this ⊢; omega
      rw [dif_neg hne]
      simp only [retD, VRel]
      exact ⟨_, rfl, hr⟩

/-- The contract of a function from what its abstract code comes to. -/
theorem pure_of_gives (hmix : E.P.follows .mixedOrders = true) {base f : Nat} {fn : Func} {A : AF} {args : List D} {d : D} (hf : E.P.funcs[f]? = some fn) (hc : compF E.P base fn = some A.bare)
    (hg : AF.gives E A args d) : PureC E f args d := by
  intro M w vals hm hG hv
  obtain ⟨hpure, hnp, hawp⟩ := hg
  simp only [compF, Option.bind_eq_bind, Option.bind_eq_some_iff] at hc
  obtain ⟨c, hbody, b, hb, r, hr, hc⟩ := hc
  have hAb : A.body.bare = b ∧ A.res = r := by
    cases hcond : Nat.beq fn.nfree 0 <;> rw [hcond] at hc <;> simp only [cond_true, cond_false, Option.some.injEq] at hc
    all_goals exact ⟨(congrArg AF.body hc).symm, (congrArg AF.res hc).symm⟩
  obtain ⟨rfl, rfl⟩ := hAb
  refine calls_of_wp hf hbody ?_
  have hS := start_rel (N := fn.ntmps) hm hG hv
  rw [show vals.toArray.size = vals.length by simp]
  refine code_sound hmix c A.body hb _ _ (fun e a w' μ M' x hR hk => ?_) mu0 M _ w _ hS hawp
  obtain ⟨hk1, hk2⟩ := hk
  have fin : a.defers = [] ∧ ∃ v, (results fn a.tmps).run E.P w' = .ok v w' ∧ ∃ v', Ending.returned v = .returned v' ∧ VRel M w' mu0 d v' ∧ w.heap.size ≤ w'.heap.size ∧ Env0 w w' ∧ ∀ b, b < w.heap.size → w'.heap[b]? = w.heap[b]? := by
    simp only [AF.result, Option.bind_eq_bind, Option.bind_eq_some_iff] at hk2
    obtain ⟨ds, h1, h2⟩ := hk2
    obtain ⟨v, h3, h4⟩ := results_run hR hr h1
    exact ⟨hR.defers, v, h3, v, rfl, fr_rel hR 20 _ _ _ h2 h4, hR.size, hR.env, hR.old⟩
  cases e with
  | normal => exact fin
  | exit i => exact hk1.elim
  | ret => exact fin
end

end Iv
/- Running abstract code: closed calls by evaluation. Conditions: none. -/
set_option linter.unusedSimpArgs false
set_option linter.unusedVariables false
namespace Iv
open Go

abbrev CL := Nat → List D → Option D

def runCall (z : Bool) (cl : CL) (f : Nat) (ds : List D) (dst : Option Nat) (x : AS) : Option AS :=
  match frs 20 x.s ds with
  | some as => match cl f as with
    | some d => bif z then some ((AS.purges (ds.flatMap (frN 20 x.s)) x).put dst d) else bif d.flat || D.pures ds then some (x.put dst d) else none
    | none => none
  | none => none

def runOp (cl : CL) (G : List (Nat × List D)) (o : AOper) (x : AS) : Option AS :=
  match o.op with
  | .call z f args => runCall z cl f (args.map (·.ev G x.t)) o.dst x
  | .callv z c args => match c.ev G x.t with
    | .fn (.func f) fs cs => runCall z cl f (fs ++ args.map (·.ev G x.t) ++ cs) o.dst x
    | _ => none
  | op => match step G op x with
    | some (d, x') => some (x'.put o.dst d)
    | none => none

def runStep (cl : CL) (G : List (Nat × List D)) (o : AOper) (x : AS) : Option AS :=
  match o.guard with
  | none => runOp cl G o x
  | some (g, want) => match tget x.t g with
    | .bool b => bif b == want then runOp cl G o x else some (x.put o.dst (.tup []))
    | .tup [] => some (x.put o.dst (.tup []))
    | _ => none

def runOps (cl : CL) (G : List (Nat × List D)) : List AOper → AS → Option AS
  | [], x => some x
  | o :: r, x => match runStep cl G o x with
    | some y => runOps cl G r y
    | none => none

def runOpsD (cl : CL) (G : List (Nat × List D)) : List AOper → AS → List FP → Option (AS × List FP)
  | [], x, l => some (x, l.reverse)
  | o :: r, x, l => match runStep cl G o x with
    | some y => runOpsD cl G r y (o.fp G x y :: l)
    | none => none

def evC (cl : CL) (G : List (Nat × List D)) : Nat → AC → AS → Option (AX × AS)
  | 0, _, _ => none
  | n + 1, c, x =>
    match c with
    | .skip => some (.normal, x)
    | .reg none kl ops live => match runOps cl G ops (AS.drops kl x) with
      | some y => some (.normal, lim live y)
      | none => none
    | .reg (some dr) kl ops live => match runOpsD cl G ops (AS.drops kl x) [] with
      | some (y, l) => bif indep dr l then some (.normal, lim live y) else none
      | none => none
    | .seq a b => match evC cl G n a x with
      | some (.normal, y) => evC cl G n b y
      | r => r
    | .cond c a b => match c.ev G x.t with
      | .bool r => bif r then evC cl G n a x else evC cl G n b x
      | _ => none
    | .block id a => match evC cl G n a x with
      | some (.exit i, y) => bif Nat.beq i id then some (.normal, y) else some (.exit i, y)
      | r => r
    | .loop lt ls ad a => match evC cl G n a (norm lt ls ad x) with
      | some (.normal, y) => evC cl G n (.loop lt ls ad a) y
      | r => r
    | .exit id => some (.exit id, x)
    | .scope a => evC cl G n a x
    | .ret => some (.ret, x)

def evF (T : Nat → Option AF) (G : List (Nat × List D)) (k : Nat) : Nat → CL
  | 0, _, _ => none
  | n + 1, f, args =>
    match T f with
    | some A =>
      bif D.pures args && Nat.beq args.length A.np then
        match evC (evF T G k n) G k A.body (AF.start args) with
        | some (.exit _, _) => none
        | some (_, x) => A.result x
        | none => none
      else none
    | none => none

section
variable {E : Env} {cl : CL}

def Sure (E : Env) (cl : CL) : Prop := ∀ f as d, cl f as = some d → PureC E f as d ∧ callable E.P f = true

theorem runCall_sound {z : Bool} (hs : Sure E cl) {f : Nat} {ds : List D} {dst : Option Nat} {x y : AS} (h : runCall z cl f ds dst x = some y) {K : AS → Prop} (hK : K y) :
    ACall z E f ds dst x K ∧ callable E.P f = true := by
  unfold runCall at h
  split at h
  · rename_i as has
    split at h
    · rename_i d hd
      refine ⟨⟨as, d, has, (hs _ _ _ hd).1, ?_⟩, (hs _ _ _ hd).2⟩
      cases z with
      | true =>
        simp only [cond_true, Option.some.injEq] at h ⊢
        subst h; exact hK
      | false =>
        simp only [cond_false] at h ⊢
        cases hc : (d.flat || D.pures ds) <;> rw [hc] at h
        · cases h
        · simp only [cond_true, Option.some.injEq] at h
          subst h; exact ⟨rfl, hK⟩
    · cases h
  · cases h

theorem runOp_sound (hs : Sure E cl) {o : AOper} {x y : AS} (h : runOp cl E.G o x = some y) {K : AS → Prop} (hK : K y) : AOpK E o x K := by
  unfold runOp at h
  unfold AOpK
  cases ho : o.op
  case call z f args =>
    rw [ho] at h
    exact (runCall_sound hs h hK).1
  case callv z c args =>
    rw [ho] at h
    dsimp only at h ⊢
    split at h
    · rename_i f fs cs hA
      simp only [hA]
      have := runCall_sound hs h hK
      exact ⟨this.2, this.1⟩
    · cases h
  all_goals
    rw [ho] at h
    dsimp only at h ⊢
    split at h
    · rename_i d x' hst
      rw [hst]
      simp only [Option.some.injEq] at h
      subst h; exact hK
    · cases h

theorem runStep_sound (hs : Sure E cl) {o : AOper} {x y : AS} (h : runStep cl E.G o x = some y) {K : AS → Prop} (hK : K y) : AStepK E o x K := by
  unfold runStep at h
  unfold AStepK
  cases hg : o.guard with
  | none => rw [hg] at h; exact runOp_sound hs h hK
  | some p =>
    obtain ⟨g, want⟩ := p
    rw [hg] at h
    dsimp only at h ⊢
    split at h
    · rename_i b hb
      simp only [hb]
      by_cases hw : b = want
      · simp only [hw, beq_self_eq_true, cond_true] at h
        rw [if_pos hw]; exact runOp_sound hs h hK
      · have : (b == want) = false := by simp [hw]
        rw [this] at h
        simp only [cond_false, Option.some.injEq] at h
        rw [if_neg hw]; subst h; exact hK
    · rename_i hb
      simp only [hb]
      simp only [Option.some.injEq] at h
      subst h; exact hK
    · cases h

theorem runOps_sound (hs : Sure E cl) {K : AS → Prop} : ∀ (ops : List AOper) {x y : AS}, runOps cl E.G ops x = some y → K y → ARun E ops x K
  | [], x, y, h, hK => by simp only [runOps, Option.some.injEq] at h; subst h; exact hK
  | o :: r, x, y, h, hK => by
    simp only [runOps] at h
    split at h
    · rename_i z hz
      exact runStep_sound hs hz (runOps_sound hs r h hK)
    · cases h

theorem runOpsD_sound (hs : Sure E cl) {K : AS → List FP → Prop} : ∀ (ops : List AOper) {x : AS} {l : List FP} {r : AS × List FP}, runOpsD cl E.G ops x l = some r → K r.1 r.2 → ARunD E ops x l K
  | [], x, l, r, h, hK => by simp only [runOpsD, Option.some.injEq] at h; subst h; exact hK
  | o :: ops, x, l, r, h, hK => by
    simp only [runOpsD] at h
    split at h
    · rename_i z hz
      exact runStep_sound hs hz (runOpsD_sound hs ops h hK)
    · cases h

theorem awp_mono {E : Env} : ∀ (A : AC) {Q Q' : AX → AS → Prop} {x : AS}, (∀ e x, Q e x → Q' e x) → awp E A Q x → awp E A Q' x := by
  have stepMono : ∀ (o : AOper) (x : AS) (K K' : AS → Prop), (∀ x, K x → K' x) → AStepK E o x K → AStepK E o x K' := fun o x K K' hk h => by
    obtain ⟨x', h1, h2⟩ := aStepK_iff.1 h
    exact aStepK_iff.2 ⟨x', h1, hk _ h2⟩
  have runMono : ∀ (ops : List AOper) (x : AS) (K K' : AS → Prop), (∀ x, K x → K' x) → ARun E ops x K → ARun E ops x K' := by
    intro ops
    induction ops with
    | nil => intro x K K' hk h; exact hk _ h
    | cons o r ih => intro x K K' hk h; exact stepMono o x _ _ (fun y hy => ih y K K' hk hy) h
  have runDMono : ∀ (ops : List AOper) (x : AS) (l : List FP) (K K' : AS → List FP → Prop), (∀ x l, K x l → K' x l) → ARunD E ops x l K → ARunD E ops x l K' := by
    intro ops
    induction ops with
    | nil => intro x l K K' hk h; exact hk _ _ h
    | cons o r ih => intro x l K K' hk h; exact stepMono o x _ _ (fun y hy => ih y _ K K' hk hy) h
  intro A
  induction A with
  | skip => intro Q Q' x hq h; exact hq _ _ h
  | reg dr kl ops live =>
    intro Q Q' x hq h
    cases dr with
    | none => exact runMono _ _ _ _ (fun y hy => hq _ _ hy) h
    | some dr => exact runDMono _ _ _ _ _ (fun y l hy => ⟨hy.1, hq _ _ hy.2⟩) h
  | seq a b iha ihb =>
    intro Q Q' x hq h
    simp only [awp] at h ⊢
    refine iha (fun e y hy => ?_) h
    cases e with
    | normal => exact ihb hq hy
    | exit i => exact hq _ _ hy
    | ret => exact hq _ _ hy
  | cond c a b iha ihb =>
    intro Q Q' x hq h
    simp only [awp] at h ⊢
    split at h
    · exact ⟨fun e => iha hq (h.1 e), fun e => ihb hq (h.2 e)⟩
    · exact h
  | block id a ih =>
    intro Q Q' x hq h
    simp only [awp] at h ⊢
    refine ih (fun e y hy => ?_) h
    cases e with
    | normal => exact hq _ _ hy
    | exit i =>
      simp only [blockQ] at hy ⊢
      by_cases hi : i = id
      · rw [if_pos hi] at hy ⊢; exact hq _ _ hy
      · rw [if_neg hi] at hy ⊢; exact hq _ _ hy
    | ret => exact hq _ _ hy
  | loop lt ls ad a ih =>
    intro Q Q' x hq h
    simp only [awp] at h ⊢
    obtain ⟨I, m, h1, h2⟩ := h
    refine ⟨I, m, h1, fun y hy => ih (fun e z hz => ?_) (h2 y hy)⟩
    cases e with
    | normal => exact hz
    | exit i => exact hq _ _ hz
    | ret => exact hq _ _ hz
  | exit id => intro Q Q' x hq h; exact hq _ _ h
  | scope a ih => intro Q Q' x hq h; exact ih hq h
  | ret => intro Q Q' x hq h; exact hq _ _ h

/-- A loop whose rounds come to an end, counted. -/
def ARounds (E : Env) (lt ls : List Nat) (ad : List (Nat × Nat × Nat)) (a : AC) (Q : AX → AS → Prop) : Nat → AS → Prop
  | 0, _ => False
  | n + 1, y => awp E a (thenQ (fun z => ARounds E lt ls ad a Q n (norm lt ls ad z)) Q) y

theorem awp_loop_rounds {lt ls : List Nat} {ad : List (Nat × Nat × Nat)} {a : AC} {Q : AX → AS → Prop} {x : AS} (n : Nat) (h : ARounds E lt ls ad a Q n (norm lt ls ad x)) : awp E (.loop lt ls ad a) Q x := by
  classical
  let I : AS → Prop := fun y => ∃ n, ARounds E lt ls ad a Q n y
  have least : ∀ y, I y → ∃ k, ARounds E lt ls ad a Q k y ∧ ∀ j, j < k → ¬ ARounds E lt ls ad a Q j y := fun y ⟨n, hn⟩ => by
    induction n using Nat.strongRecOn with
    | ind n ih =>
      by_cases hh : ∃ j, j < n ∧ ARounds E lt ls ad a Q j y
      · obtain ⟨j, hj, hr⟩ := hh; exact ih j hj hr
      · exact ⟨n, hn, fun j hj hr => hh ⟨j, hj, hr⟩⟩
  let m : AS → Nat := fun y => if h : I y then Classical.choose (least y h) else 0
  simp only [awp]
  refine ⟨I, m, ⟨n, h⟩, fun y hy => ?_⟩
  have hm : m y = Classical.choose (least y hy) := by simp only [m]; rw [dif_pos hy]
  obtain ⟨hk1, hk2⟩ := Classical.choose_spec (least y hy)
  rw [← hm] at hk1 hk2
  cases hmy : m y with
  | zero => rw [hmy] at hk1; exact hk1.elim
  | succ k =>
    rw [hmy] at hk1
    refine awp_mono a (fun e z hz => ?_) hk1
    cases e with
    | normal =>
      have hI : I (norm lt ls ad z) := ⟨k, hz⟩
      refine ⟨hI, ?_⟩
      have hm' : m (norm lt ls ad z) = Classical.choose (least _ hI) := by simp only [m]; rw [dif_pos hI]
      obtain ⟨_, hk2'⟩ := Classical.choose_spec (least _ hI)
      rw [← hm'] at hk2'
      rcases Nat.lt_or_ge k (m (norm lt ls ad z)) with hlt | hge
      · exact absurd hz (hk2' k hlt)
      · omega
    | exit i => exact hz
    | ret => exact hz

theorem evC_sound (hs : Sure E cl) : ∀ (n : Nat) (A : AC) {x y : AS} {e : AX}, evC cl E.G n A x = some (e, y) → ∀ {Q : AX → AS → Prop}, Q e y → awp E A Q x := by
  intro n
  induction n using Nat.strongRecOn with
  | ind n0 ih0 =>
    intro A x y e h Q hQ
    cases n0 with
    | zero => cases h
    | succ n =>
    have ih := ih0 n (Nat.lt_succ_self n)
    cases A with
    | skip =>
      simp only [evC, Option.some.injEq, Prod.mk.injEq] at h
      obtain ⟨rfl, rfl⟩ := h; exact hQ
    | reg dr kl ops live =>
      cases dr with
      | none =>
        simp only [evC] at h
        split at h
        · rename_i z hz
          simp only [Option.some.injEq, Prod.mk.injEq] at h
          obtain ⟨rfl, rfl⟩ := h
          exact runOps_sound (K := fun x' => Q .normal (lim live x')) hs ops hz hQ
        · cases h
      | some dr =>
        simp only [evC] at h
        split at h
        · rename_i z l hz
          cases hi : indep dr l <;> rw [hi] at h
          · cases h
          · simp only [cond_true, Option.some.injEq, Prod.mk.injEq] at h
            obtain ⟨rfl, rfl⟩ := h
            exact runOpsD_sound (K := fun x' l => indep dr l = true ∧ Q .normal (lim live x')) hs ops hz ⟨hi, hQ⟩
        · cases h
    | seq a b =>
      simp only [evC] at h
      simp only [awp]
      split at h
      · rename_i z hz
        exact ih a hz (ih b h hQ)
      · rename_i r hr
        refine ih a h ?_
        cases e with
        | normal => exact absurd h (hr _)
        | exit i => exact hQ
        | ret => exact hQ
    | cond c a b =>
      simp only [evC] at h
      simp only [awp]
      split at h
      · rename_i r hr
        simp only [hr]
        cases r with
        | true => exact ⟨fun _ => ih a h hQ, fun e => (by cases e)⟩
        | false => exact ⟨fun e => (by cases e), fun _ => ih b h hQ⟩
      · cases h
    | block id a =>
      simp only [evC] at h
      simp only [awp]
      split at h
      · rename_i i z hz
        refine ih a hz ?_
        simp only [blockQ]
        by_cases hi : i = id
        · subst hi
          simp only [Nat.beq_refl, cond_true, Option.some.injEq, Prod.mk.injEq] at h
          obtain ⟨rfl, rfl⟩ := h
          rw [if_pos rfl]; exact hQ
        · rw [beq_ne hi] at h
          simp only [cond_false, Option.some.injEq, Prod.mk.injEq] at h
          obtain ⟨rfl, rfl⟩ := h
          rw [if_neg hi]; exact hQ
      · rename_i r hr
        refine ih a h ?_
        cases e with
        | normal => exact hQ
        | exit i => exact absurd h (hr _ _)
        | ret => exact hQ
    | loop lt ls ad a =>
      have key : ∀ k {x y : AS} {e : AX}, k ≤ n + 1 → evC cl E.G k (.loop lt ls ad a) x = some (e, y) → Q e y → ∃ m, ARounds E lt ls ad a Q m (norm lt ls ad x) := by
        intro k
        induction k with
        | zero => intro x y e _ h; cases h
        | succ k ihk =>
          intro x y e hk h hQ
          simp only [evC] at h
          have hbody := fun {x y : AS} {e : AX} (h : evC cl E.G k a x = some (e, y)) {Q : AX → AS → Prop} (hQ : Q e y) => ih0 k (by omega) a h hQ
          split at h
          · rename_i z hz
            obtain ⟨m, hm⟩ := ihk (by omega) h hQ
            exact ⟨m + 1, hbody hz hm⟩
          · rename_i r hr
            refine ⟨1, hbody h ?_⟩
            cases e with
            | normal => exact absurd h (hr _)
            | exit i => exact hQ
            | ret => exact hQ
      obtain ⟨m, hm⟩ := key (n + 1) (Nat.le_refl _) h hQ
      exact awp_loop_rounds m hm
    | exit id =>
      simp only [evC, Option.some.injEq, Prod.mk.injEq] at h
      obtain ⟨rfl, rfl⟩ := h; exact hQ
    | scope a => exact ih a (by simpa only [evC] using h) hQ
    | ret =>
      simp only [evC, Option.some.injEq, Prod.mk.injEq] at h
      obtain ⟨rfl, rfl⟩ := h; exact hQ

/-- The table's code is that of the program's functions. -/
def TabOK (E : Env) (T : Nat → Option AF) : Prop :=
  ∀ f A, T f = some A → callable E.P f = true ∧ ∃ fn base, E.P.funcs[f]? = some fn ∧ compF E.P base fn = some A.bare

theorem gives_of_evC (hs : Sure E cl) {A : AF} {args : List D} {d : D} {n : Nat} {e : AX} {x : AS} (h1 : D.pures args = true) (h2 : args.length = A.np)
    (h : evC cl E.G n A.body (AF.start args) = some (e, x)) (he : ∀ i, e ≠ .exit i) (hr : A.result x = some d) : AF.gives E A args d := by
  refine ⟨h1, h2, evC_sound hs n A.body h ⟨?_, hr⟩⟩
  cases e with
  | normal => trivial
  | exit i => exact he i rfl
  | ret => trivial

theorem evF_sound (hmix : E.P.follows .mixedOrders = true) {T : Nat → Option AF} (hT : TabOK E T) (k : Nat) : ∀ n, Sure E (evF T E.G k n) := by
  intro n
  induction n with
  | zero => intro f as d h; cases h
  | succ n ih =>
    intro f as d h
    simp only [evF] at h
    split at h
    · rename_i A hA
      obtain ⟨hcb, fn, base, hf, hc⟩ := hT f A hA
      cases hp : (D.pures as && Nat.beq as.length A.np) <;> rw [hp] at h
      · cases h
      simp only [cond_true] at h
      simp only [Bool.and_eq_true] at hp
      refine ⟨?_, hcb⟩
      split at h
      · cases h
      · rename_i e x hne hx
        exact pure_of_gives hmix hf hc (gives_of_evC ih hp.1 (Nat.eq_of_beq_eq_true hp.2) hx (fun i e => hne i e) h)
      · cases h
    · cases h
end

end Iv
