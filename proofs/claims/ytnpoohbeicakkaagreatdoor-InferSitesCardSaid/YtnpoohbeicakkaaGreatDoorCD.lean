/- Maps, iterators over maps, type assertions: what the model does is what the abstract operations say. Conditions: none. -/
import Derived.Test.YtnpoohbeicakkaaGreatDoorCC
import Derived.Laws.Externs
import Derived.Lib.Bytealg
import Derived.Lib.AppendZeros
import Derived.Lib.Builder
import Derived.Lib.UnsafeStr
import Derived.Lib.MakeNoZero
set_option linter.unusedSimpArgs false
set_option linter.unusedVariables false
namespace Zv
open Go
def KeyB (td : TypeDesc) (k : ET) : Prop := (td = .bool ∧ k = .bool) ∨ (∃ i, td = .int i ∧ k = .int) ∨ (td = .string ∧ k = .str)
def KeyA (P : Program) (td : TypeDesc) (k : ET) : Prop :=
  ∃ len el c, td = .array len el ∧ P.underlying el = some (.int c) ∧ cSz P el = some none ∧ szOf P el = some 1 ∧ k = .parts ((List.range len).map fun i => (i, none, .int))
theorem keyT_kind {P : Program} {t : TypeId} {k : ET} (h : keyT P t = some k) : ∃ td, P.underlying t = some td ∧ (KeyB td k ∨ KeyA P td k) := by
  unfold keyT at h
  split at h
  · cases h; exact ⟨_, by assumption, .inl (.inl ⟨rfl, rfl⟩)⟩
  · cases h; exact ⟨_, by assumption, .inl (.inr (.inl ⟨_, rfl, rfl⟩))⟩
  · cases h; exact ⟨_, by assumption, .inl (.inr (.inr ⟨rfl, rfl⟩))⟩
  · rename_i len el hu
    split at h
    · rename_i c h1 h2 h3
      cases h
      exact ⟨_, hu, .inr ⟨_, _, _, rfl, h1, h2, h3, rfl⟩⟩
    · cases h
  · cases h
theorem keqs_spec : ∀ {xs ys : List D} {r : Bool}, keqs xs ys = some r → (∀ d ∈ xs, ∃ k n, d = D.int k n) ∧ xs.length = ys.length ∧ (r = true → xs = ys)
  | [], [], r, h => ⟨fun d hd => (by cases hd), rfl, fun _ => rfl⟩
  | [], _ :: _, r, h => by simp [keqs] at h
  | d :: xs, [], r, h => by cases d <;> simp [keqs] at h
  | d :: xs, e :: ys, r, h => by
    cases d <;> cases e <;> simp only [keqs, reduceCtorEq] at h
    rename_i k a j b
    split at h
    · rename_i hkj
      subst hkj
      split at h
      · rename_i r' hr'
        cases h
        obtain ⟨g1, g2, g3⟩ := keqs_spec hr'
        refine ⟨fun d hd => ?_, by simp [g2], fun e => ?_⟩
        · rcases List.mem_cons.1 hd with rfl | hd
          · exact ⟨_, _, rfl⟩
          · exact g1 d hd
        · simp only [Bool.and_eq_true, beq_iff_eq] at e
          rw [e.1, g3 e.2]
      · cases h
    · cases h
theorem keqs_eqT (xs ys : List D) : ∀ (m o : Nat) (xs' ys' : List D) (r : Bool), xs.drop o = xs' → ys.drop o = ys' → xs'.length = m → keqs xs' ys' = some r →
    eqTs ((List.range' o m).map fun i => (i, none, ET.int)) xs ys = some r
  | 0, o, xs', ys', r, hx, hy, hl, hk => by
    cases xs' with
    | cons a b => cases hl
    | nil => cases ys' with
      | nil => simpa [eqTs, keqs] using hk
      | cons a b => simp [keqs] at hk
  | m + 1, o, xs', ys', r, hx, hy, hl, hk => by
    cases xs' with
    | nil => cases hl
    | cons d xs'' => cases ys' with
      | nil => cases d <;> simp [keqs] at hk
      | cons e ys'' =>
        have h1 : xs[o]? = some d := by rw [← List.head?_drop, hx]; rfl
        have h2 : ys[o]? = some e := by rw [← List.head?_drop, hy]; rfl
        have h3 : xs.drop (o + 1) = xs'' := by rw [← List.tail_drop, hx]; rfl
        have h4 : ys.drop (o + 1) = ys'' := by rw [← List.tail_drop, hy]; rfl
        simp only [List.length_cons, Nat.add_right_cancel_iff] at hl
        cases d <;> cases e <;> simp only [keqs, reduceCtorEq] at hk
        rename_i k a j b
        split at hk
        · rename_i hkj
          subst hkj
          split at hk
          · rename_i r' hr'
            cases hk
            have ih := keqs_eqT xs ys m (o + 1) xs'' ys'' r' h3 h4 hl hr'
            simp only [List.range'_succ, List.map_cons, eqTs, takeAt, h1, h2, eqT, if_true, ih]
            cases a == b <;> simp
          · cases hk
        · cases hk
section
variable {E : Env} {M0 : Nat → Prop} {w0 : World} {N : Nat} {μ : Mu} {M : Nat → Prop} {a : Act} {w : World} {x : AS}
theorem ba_beq (p q : List UInt8) : ((⟨p.toArray⟩ : ByteArray) == ⟨q.toArray⟩) = (p == q) := by
  show (p.toArray == q.toArray) = _
  simp
theorem same_rel {td : TypeDesc} {k : ET} (hk : KeyB td k) {i j : D} {u v : Value} {r : Bool} (h : eqT k i j = some r) (hu : VRel (Mm M0 μ) w μ i u) (hv : VRel (Mm M0 μ) w μ j v) :
    Instr.sameNow td u v = some r ∧ (r = true → i = j ∧ u = v ∧ Instr.sameBits 10000 v u = true) := by
  rcases hk with ⟨rfl, rfl⟩ | ⟨c, rfl, rfl⟩ | ⟨rfl, rfl⟩
  · unfold eqT at h
    split at h
    all_goals first
      | (cases h; done)
      | (rename_i e; cases e; done)
      | skip
    cases h
    simp only [VRel] at hu hv
    subst hu hv
    refine ⟨rfl, fun e => ?_⟩
    have e' := eq_of_beq e
    subst e'
    exact ⟨rfl, rfl, by simp [Instr.sameBits]⟩
  · unfold eqT at h
    split at h
    all_goals first
      | (cases h; done)
      | (rename_i e; cases e; done)
      | skip
    rename_i k1 a1 k2 a2 _
    simp only [VRel] at hu hv
    subst hu hv
    by_cases e : k1 = k2
    · rw [if_pos e] at h
      cases h
      subst e
      refine ⟨by simp [Instr.sameNow], fun e => ?_⟩
      have e' := eq_of_beq e
      subst e'
      exact ⟨rfl, rfl, by simp [Instr.sameBits]⟩
    · rw [if_neg e] at h; cases h
  · unfold eqT at h
    split at h
    all_goals first
      | (cases h; done)
      | (rename_i e; cases e; done)
      | skip
    cases h
    simp only [VRel] at hu hv
    subst hu hv
    rename_i p q _
    refine ⟨?_, fun e => ?_⟩
    · simp only [Instr.sameNow, Option.some.injEq]
      exact ba_beq p q
    · have e' := eq_of_beq e
      subst e'
      exact ⟨rfl, rfl, by simp only [Instr.sameBits, ba_beq]; simp⟩
theorem keyEq_b {td : TypeDesc} {k : ET} (hk : KeyB td k) (a b : D) : keyEq k a b = eqT k a b := by
  rcases hk with ⟨_, rfl⟩ | ⟨_, _, rfl⟩ | ⟨_, rfl⟩ <;> rfl
theorem run_checkKey {P : Program} {t : TypeId} {td : TypeDesc} {k : ET} (hu : P.underlying t = some td) (hk : KeyB td k) (e : Bool) (v : Value) (w : World) :
    (Instr.checkKey e 10000 t v).run P w = .ok () w := by
  rw [show (10000 : Nat) = 9999 + 1 from rfl]
  unfold Instr.checkKey
  simp only [Sem.run_bind, run_underlying hu, Result.andThen_ok]
  rcases hk with ⟨rfl, rfl⟩ | ⟨c, rfl, rfl⟩ | ⟨rfl, rfl⟩ <;> rfl
theorem find_rel {td : TypeDesc} {k : ET} (hk : KeyB td k) {i : D} {v : Value} (hv : VRel (Mm M0 μ) w μ i v) : ∀ {es : List (D × D × Nat)} {ents : List MapEntry} {n : Nat} {r : Option (Nat × D)}, MEs (Mm M0 μ) w μ es ents →
    mfind k i es n = some r → (r = none ∧ Instr.findNow td v ents n = some none) ∨
      ∃ j d e kd b, r = some (n + j, d) ∧ Instr.findNow td v ents n = some (some (n + j, e.val)) ∧ ents[j]? = some e ∧ es[j]? = some (kd, d, b) ∧ VRel (Mm M0 μ) w μ d e.val ∧ e.key = v ∧ Instr.sameBits 10000 e.key v = true
  | [], ents, n, r, h, hm => by
    simp only [MEs] at h
    subst h
    unfold mfind at hm
    cases hko : keyOk k i <;> rw [hko] at hm <;> cases hm
    exact .inl ⟨rfl, rfl⟩
  | (kd, d, b) :: rest, ents, n, r, h, hm => by
    simp only [MEs] at h
    obtain ⟨e, r', rfl, h1, h2, h3, h4⟩ := h
    unfold mfind at hm
    split at hm
    · rename_i he
      cases hm
      obtain ⟨g1, g2⟩ := same_rel hk ((keyEq_b hk _ _).symm.trans he) hv h1
      obtain ⟨_, g3, g4⟩ := g2 rfl
      refine .inr ⟨0, d, e, kd, b, rfl, ?_, rfl, rfl, h2, g3.symm, g4⟩
      simp [Instr.findNow, g1]
    · rename_i he
      obtain ⟨g1, _⟩ := same_rel hk ((keyEq_b hk _ _).symm.trans he) hv h1
      rcases find_rel hk hv h4 hm with ⟨q1, q2⟩ | ⟨j, d', e', kd', b', q1, q2, q3, q4, q5⟩
      · exact .inl ⟨q1, by simp [Instr.findNow, g1, q2]⟩
      · refine .inr ⟨j + 1, d', e', kd', b', by rw [q1]; congr 2; omega, ?_, by simpa using q3, by simpa using q4, q5⟩
        simp only [Instr.findNow, g1, q2]
        congr 3; omega
    · cases hm
theorem run_findKey {P : Program} {t : TypeId} {td : TypeDesc} (hu : P.underlying t = some td) {v : Value} {ents : List MapEntry} {r : Option (Nat × Value)} (h : Instr.findNow td v ents 0 = some r) (w : World) :
    (Instr.findKey t v ents).run P w = .ok r w := by
  simp only [Instr.findKey, Sem.run_bind, run_underlying hu, Result.andThen_ok, h, Sem.run_pure]
theorem arr_eq {P : Program} {t el : TypeId} {len : Nat} {c : IntKind} (hu : P.underlying t = some (.array len el)) (hel : P.underlying el = some (.int c)) (hcs : cSz P el = some none) (hsz : szOf P el = some 1)
    {i j : D} {u v : Value} {r : Bool} (h : keyEq (.parts ((List.range len).map fun i => (i, none, .int))) i j = some r) (hu' : VRel (Mm M0 μ) w μ i u) (hv : VRel (Mm M0 μ) w μ j v) :
    (Op.equal t u v).run P w = .ok r w ∧ (∃ xs, i = .agg xs ∧ xs.length = len ∧ ∀ d ∈ xs, ∃ k n, d = D.int k n) ∧ (r = true → i = j) := by
  unfold keyEq at h
  simp only at h
  split at h
  · rename_i xs ys
    cases hl : Nat.beq xs.length ((List.range len).map fun i => (i, (none : Option Nat), ET.int)).length <;> rw [hl] at h
    · cases h
    have hl' := Nat.eq_of_beq_eq_true hl
    simp only [List.length_map, List.length_range] at hl'
    simp only [cond_true] at h
    obtain ⟨g1, g2, g3⟩ := keqs_spec h
    have he1 : eT P 19 el = some .int := by
      rw [show (19 : Nat) = 18 + 1 from rfl]; unfold eT; rw [hel]
    have he : eT P 20 t = some (.parts ((List.range len).map fun i => (i, none, ET.int))) := by
      rw [show (20 : Nat) = 19 + 1 from rfl]; unfold eT; rw [hu]; simp [hcs, hsz, he1]
    have hq : eqT (.parts ((List.range len).map fun i => (i, none, ET.int))) (.agg xs) (.agg ys) = some r := by
      simp only [eqT]
      rw [List.range_eq_range']
      exact keqs_eqT xs ys len 0 xs ys r rfl rfl hl' h
    have := eqT_rel 20 t _ _ _ r u v he hq hu' hv 10000 (by omega)
    exact ⟨by simpa only [Op.equal, Op.maxDepth] using this, ⟨xs, rfl, hl', g1⟩, fun e => by rw [g3 e]⟩
  · cases h
theorem ints_eq {xs : List D} (hx : ∀ d ∈ xs, ∃ k n, d = D.int k n) : ∀ {us vs : List Value}, VRels (Mm M0 μ) w μ xs us → VRels (Mm M0 μ) w μ xs vs → us = vs ∧ ∀ n, (us.zip us).all (fun (x, y) => Instr.sameBits n x y) = true := by
  induction xs with
  | nil =>
    intro us vs h1 h2
    simp only [VRels] at h1 h2
    subst h1 h2
    exact ⟨rfl, fun _ => rfl⟩
  | cons d r ih =>
    intro us vs h1 h2
    simp only [VRels] at h1 h2
    obtain ⟨u, ur, rfl, h3, h4⟩ := h1
    obtain ⟨v, vr, rfl, h5, h6⟩ := h2
    obtain ⟨k, n, rfl⟩ := hx d List.mem_cons_self
    simp only [VRel] at h3 h5
    subst h3 h5
    obtain ⟨g1, g2⟩ := ih (fun d hd => hx d (List.mem_cons_of_mem _ hd)) h4 h6
    refine ⟨by rw [g1], fun m => ?_⟩
    simp only [List.zip_cons_cons, List.all_cons, g2 m, Bool.and_true]
    cases m <;> simp [Instr.sameBits]
theorem agg_same {i : D} {u v : Value} {xs : List D} (e : i = .agg xs) (hx : ∀ d ∈ xs, ∃ k n, d = D.int k n) (h1 : VRel (Mm M0 μ) w μ i u) (h2 : VRel (Mm M0 μ) w μ i v) : u = v ∧ Instr.sameBits 10000 u v = true := by
  subst e
  simp only [VRel] at h1 h2
  obtain ⟨us, rfl, h1⟩ := h1
  obtain ⟨vs, rfl, h2⟩ := h2
  obtain ⟨g1, g2⟩ := ints_eq hx h1 h2
  have : us = vs := Array.ext' g1
  subst this
  refine ⟨rfl, ?_⟩
  rw [show (10000 : Nat) = 9999 + 1 from rfl]
  unfold Instr.sameBits
  simp only [beq_self_eq_true, Bool.true_and]
  exact g2 9999
theorem find_arr {P : Program} {t el : TypeId} {len : Nat} {c : IntKind} (hu : P.underlying t = some (.array len el)) (hel : P.underlying el = some (.int c)) (hcs : cSz P el = some none) (hsz : szOf P el = some 1)
    {i : D} {v : Value} (hv : VRel (Mm M0 μ) w μ i v) : ∀ {es : List (D × D × Nat)} {ents : List MapEntry} {n : Nat} {r : Option (Nat × D)}, MEs (Mm M0 μ) w μ es ents →
    mfind (.parts ((List.range len).map fun i => (i, none, .int))) i es n = some r → (∃ xs, i = .agg xs ∧ xs.length = len ∧ ∀ d ∈ xs, ∃ k n, d = D.int k n) ∧ ((r = none ∧ (Instr.findAsking t v ents n).run P w = .ok none w) ∨
      ∃ j d e kd b, r = some (n + j, d) ∧ (Instr.findAsking t v ents n).run P w = .ok (some (n + j, e.val)) w ∧ ents[j]? = some e ∧ es[j]? = some (kd, d, b) ∧ VRel (Mm M0 μ) w μ d e.val ∧ e.key = v ∧ Instr.sameBits 10000 e.key v = true)
  | [], ents, n, r, h, hm => by
    simp only [MEs] at h
    subst h
    unfold mfind at hm
    cases hko : keyOk (.parts ((List.range len).map fun i => (i, none, .int))) i <;> rw [hko] at hm <;> cases hm
    refine ⟨?_, .inl ⟨rfl, rfl⟩⟩
    unfold keyOk at hko
    simp only at hko
    split at hko
    · rename_i q hq
      exact (arr_eq hu hel hcs hsz hq hv hv).2.1
    · cases hko
  | (kd, d, b) :: rest, ents, n, r, h, hm => by
    simp only [MEs] at h
    obtain ⟨e, r', rfl, h1, h2, h3, h4⟩ := h
    unfold mfind at hm
    split at hm
    · rename_i he
      cases hm
      obtain ⟨g1, ⟨xs, g2, g3, g4⟩, g5⟩ := arr_eq hu hel hcs hsz he hv h1
      have hkv := agg_same g2 g4 hv (by rw [g5 rfl]; exact h1)
      refine ⟨⟨xs, g2, g3, g4⟩, .inr ⟨0, d, e, kd, b, rfl, ?_, rfl, rfl, h2, hkv.1.symm, by rw [← hkv.1]; have := hkv.2; rwa [← hkv.1] at this⟩⟩
      simp only [Instr.findAsking, Sem.run_bind, g1, Result.andThen_ok, if_true, Sem.run_pure, Nat.add_zero]
    · rename_i he
      obtain ⟨g1, _, _⟩ := arr_eq hu hel hcs hsz he hv h1
      obtain ⟨hx, hh⟩ := find_arr hu hel hcs hsz hv h4 hm
      refine ⟨hx, ?_⟩
      rcases hh with ⟨q1, q2⟩ | ⟨j, d', e', kd', b', q1, q2, q3, q4, q5⟩
      · exact .inl ⟨q1, by simp only [Instr.findAsking, Sem.run_bind, g1, Result.andThen_ok, Bool.false_eq_true, if_false, q2]⟩
      · refine .inr ⟨j + 1, d', e', kd', b', by rw [q1]; congr 2; omega, ?_, by simpa using q3, by simpa using q4, q5⟩
        simp only [Instr.findAsking, Sem.run_bind, g1, Result.andThen_ok, Bool.false_eq_true, if_false, q2]
        congr 3; omega
    · cases hm
theorem run_checkKey_arr {P : Program} {t el : TypeId} {len : Nat} {c : IntKind} (hu : P.underlying t = some (.array len el)) (hel : P.underlying el = some (.int c)) (hcs : cSz P el = some none) (hsz : szOf P el = some 1)
    {i : D} {v : Value} (hv : VRel (Mm M0 μ) w μ i v) {xs : List D} (hi : i = .agg xs) (hl : xs.length = len) (hx : ∀ d ∈ xs, ∃ k n, d = D.int k n) (e : Bool) :
    (Instr.checkKey e 10000 t v).run P w = .ok () w := by
  subst hi
  simp only [VRel] at hv
  obtain ⟨vs, rfl, hr⟩ := hv
  obtain ⟨ii, bb, h3, h4, h5⟩ := cSz_some hcs
  have hbb : bb = false := by cases bb <;> simp at h5 ⊢
  subst hbb
  rw [show (10000 : Nat) = 9999 + 1 from rfl]
  unfold Instr.checkKey
  simp only [Sem.run_bind, run_underlying hu, Result.andThen_ok, run_sizeOf' hsz]
  have hstep : ∀ j, j < len → ∃ u, (part el vs (j * 1)).run P w = .ok u w ∧ (Instr.checkKey e 9999 el u).run P w = .ok () w := by
    intro j hj
    obtain ⟨u, hu1, hu2⟩ := part_rel (P := P) (off := j * 1) (bb := false) hr h4 hsz (d := xs[j]'(by omega)) (by simp only [cond_false, takeAt, Nat.mul_one]; exact List.getElem?_eq_getElem (by omega))
    refine ⟨u, hu1, ?_⟩
    rw [show (9999 : Nat) = 9998 + 1 from rfl]
    unfold Instr.checkKey
    simp only [Sem.run_bind, run_underlying hel, Result.andThen_ok]
    rfl
  simp only [Std.Legacy.Range.forIn_eq_forIn_range', Std.Legacy.Range.size, Nat.sub_zero, Nat.add_sub_cancel, Nat.div_one]
  have hL : ∀ j ∈ List.range' 0 len, j < len := fun j hj => by have := List.mem_range'_1.1 hj; omega
  generalize List.range' 0 len = L at hL
  induction L with
  | nil => rfl
  | cons j r ih =>
    obtain ⟨u, g1, g2⟩ := hstep j (hL j List.mem_cons_self)
    simp only [List.forIn_cons, Sem.run_bind, g1, g2, Result.andThen_ok, Sem.run_pure, run_sizeOf' hsz]
    exact ih fun j hj => hL j (List.mem_cons_of_mem _ hj)
theorem find_run {P : Program} {t : TypeId} {td : TypeDesc} {k : ET} (hu : P.underlying t = some td) (hk : KeyB td k ∨ KeyA P td k) {i : D} {v : Value} (hv : VRel (Mm M0 μ) w μ i v) {es : List (D × D × Nat)} {ents : List MapEntry} {r : Option (Nat × D)}
    (h : MEs (Mm M0 μ) w μ es ents) (hm : mfind k i es 0 = some r) : (∀ e, (Instr.checkKey e 10000 t v).run P w = .ok () w) ∧ ((r = none ∧ (Instr.findKey t v ents).run P w = .ok none w) ∨
      ∃ j d e kd b, r = some (j, d) ∧ (Instr.findKey t v ents).run P w = .ok (some (j, e.val)) w ∧ ents[j]? = some e ∧ es[j]? = some (kd, d, b) ∧ VRel (Mm M0 μ) w μ d e.val ∧ e.key = v ∧ Instr.sameBits 10000 e.key v = true) := by
  rcases hk with hk | ⟨len, el, c, rfl, hel, hcs, hsz, rfl⟩
  · refine ⟨fun e => run_checkKey hu hk e v w, ?_⟩
    rcases find_rel hk hv h hm with ⟨q1, q2⟩ | ⟨j, d, e, kd, b, q1, q2, q3⟩
    · exact .inl ⟨q1, run_findKey hu q2 w⟩
    · rw [Nat.zero_add] at q1 q2
      exact .inr ⟨j, d, e, kd, b, q1, run_findKey hu q2 w, q3⟩
  · obtain ⟨⟨xs, g1, g2, g3⟩, hh⟩ := find_arr hu hel hcs hsz hv h hm
    refine ⟨fun e => run_checkKey_arr hu hel hcs hsz hv g1 g2 g3 e, ?_⟩
    have hfk : (Instr.findKey t v ents).run P w = (Instr.findAsking t v ents 0).run P w := by
      simp only [Instr.findKey, Sem.run_bind, run_underlying hu, Result.andThen_ok]
      cases ents with
      | nil => simp [Instr.findNow, Instr.findAsking]
      | cons a b => simp [Instr.findNow, Instr.sameNow]
    rw [hfk]
    rcases hh with hh | ⟨j, d, e, kd, b, q1, q2, q3⟩
    · exact .inl hh
    · rw [Nat.zero_add] at q1 q2
      exact .inr ⟨j, d, e, kd, b, q1, q2, q3⟩
theorem MEs.length : ∀ {es : List (D × D × Nat)} {ents : List MapEntry}, MEs (Mm M0 μ) w μ es ents → ents.length = es.length
  | [], _, h => by simp only [MEs] at h; subst h; rfl
  | (k, v, n) :: r, _, h => by
    simp only [MEs] at h
    obtain ⟨e, r', rfl, _, _, _, h4⟩ := h
    simp [MEs.length h4]
theorem MEs.set {d' : D} {u key : Value} (hd : VRel (Mm M0 μ) w μ d' u) : ∀ {es : List (D × D × Nat)} {ents : List MapEntry} {j : Nat} {e : MapEntry}, MEs (Mm M0 μ) w μ es ents → ents[j]? = some e → e.key = key →
    MEs (Mm M0 μ) w μ (mset es j d') (ents.modify j fun e => { e with key := key, val := u })
  | [], _, j, e, h, he, _ => by simp only [MEs] at h; subst h; simp at he
  | (k, v, n) :: r, _, 0, e, h, he, hkey => by
    simp only [MEs] at h
    obtain ⟨e0, r', rfl, h1, h2, h3, h4⟩ := h
    simp only [List.getElem?_cons_zero, Option.some.injEq] at he
    subst he
    simp only [mset, MEs, List.modify_zero_cons]
    refine ⟨_, _, rfl, ?_, hd, h3, h4⟩
    show VRel (Mm M0 μ) w μ k key
    rw [← hkey]; exact h1
  | (k, v, n) :: r, _, j + 1, e, h, he, hkey => by
    simp only [MEs] at h
    obtain ⟨e0, r', rfl, h1, h2, h3, h4⟩ := h
    simp only [mset, MEs, List.modify_succ_cons]
    exact ⟨_, _, rfl, h1, h2, h3, MEs.set hd h4 (by simpa using he) hkey⟩
theorem MEs.push {kd vd : D} {e : MapEntry} (h1 : VRel (Mm M0 μ) w μ kd e.key) (h2 : VRel (Mm M0 μ) w μ vd e.val) : ∀ {es : List (D × D × Nat)} {ents : List MapEntry}, MEs (Mm M0 μ) w μ es ents → MEs (Mm M0 μ) w μ (es ++ [(kd, vd, e.born)]) (ents ++ [e])
  | [], _, h => by
    simp only [MEs] at h; subst h
    simp only [List.nil_append, MEs]
    exact ⟨e, [], rfl, h1, h2, rfl, rfl⟩
  | (k, v, n) :: r, _, h => by
    simp only [MEs] at h
    obtain ⟨e0, r', rfl, g1, g2, g3, g4⟩ := h
    simp only [List.cons_append, MEs]
    exact ⟨_, _, rfl, g1, g2, g3, MEs.push h1 h2 g4⟩
theorem MEs.filter {p : D × D × Nat → Bool} {q : MapEntry → Bool} (hpq : ∀ k v n e, e.born = n → p (k, v, n) = q e) : ∀ {es : List (D × D × Nat)} {ents : List MapEntry}, MEs (Mm M0 μ) w μ es ents → MEs (Mm M0 μ) w μ (es.filter p) (ents.filter q)
  | [], _, h => by simp only [MEs] at h; subst h; simp [MEs]
  | (k, v, n) :: r, _, h => by
    simp only [MEs] at h
    obtain ⟨e0, r', rfl, g1, g2, g3, g4⟩ := h
    have hp := hpq k v n e0 g3
    cases hq : q e0 <;> rw [hq] at hp
    · simp only [List.filter_cons, hp, hq, Bool.false_eq_true, if_false]
      exact MEs.filter hpq g4
    · simp only [List.filter_cons, hp, hq, if_true, MEs]
      exact ⟨_, _, rfl, g1, g2, g3, MEs.filter hpq g4⟩
theorem MEs.any {p : D × D × Nat → Bool} {q : MapEntry → Bool} (hpq : ∀ k v n e, e.born = n → p (k, v, n) = q e) : ∀ {es : List (D × D × Nat)} {ents : List MapEntry}, MEs (Mm M0 μ) w μ es ents → es.any p = ents.any q
  | [], _, h => by simp only [MEs] at h; subst h; rfl
  | (k, v, n) :: r, _, h => by
    simp only [MEs] at h
    obtain ⟨e0, r', rfl, g1, g2, g3, g4⟩ := h
    simp only [List.any_cons, hpq k v n e0 g3, MEs.any hpq g4]
theorem run_getObj {P : Program} {w : World} {b : Nat} {o : Obj} (h : w.heap[b]? = some o) (hc : ∀ vs e fz, o ≠ .cells vs e fz) : (getObj b).run P w = .ok o w := by
  cases o <;> first | (simp only [getObj, Sem.run, h]; done) | exact absurd rfl (hc _ _ _)
theorem run_setObj {P : Program} {w : World} {b : Nat} {o o' : Obj} (h : w.heap[b]? = some o) (hc : ∀ vs e fz, o ≠ .cells vs e fz) : (setObj b o').run P w = .ok () { w with heap := w.heap.setIfInBounds b o' } := by
  cases o <;> first | (simp only [setObj, Sem.run, h]; done) | exact absurd rfl (hc _ _ _)
theorem op_mkm (h : Rel E M0 w0 N μ a w x) {t : TypeId} {d : D} {x' : AS} (hs : step E.G .mkm x = some (d, x')) :
    gd E M0 w0 N μ w x a d x' w (do pure (.value (← Instr.makeMap t none))) := by
  simp only [step_mkm, st_mkm, Option.some.injEq, Prod.mk.injEq] at hs
  obtain ⟨rfl, rfl⟩ := hs
  let w' : World := { w with heap := w.heap.push (.map #[] 0) }
  obtain ⟨hx, hR, hf⟩ := h.fresh x.c (Nat.le_refl _) (.mp [] 0) (.map #[] 0) 0 (w' := w') (x' := x.add (.mp [] 0)) rfl (fun _ => rfl) (fun n => sget_sadd _ _ _ _) rfl rfl
    (fun hx hM => ⟨⟨some w.heap.size, 0⟩, w.heap.size, #[], by simp [muSet], rfl, hM, by simp [w'], by simp [MEs]⟩)
  refine ⟨.map (some w.heap.size), w', _, .inl (run_value ?_), ?_, hR, hf⟩
  · simp [Instr.makeMap, newObj, Sem.run, w']
  · simp only [VRel]
    exact ⟨_, _, by simp [muSet]; rfl, rfl, rfl⟩
theorem op_mlk (h : Rel E M0 w0 N μ a w x) {t k e : TypeId} (hu : E.P.underlying t = some (.map k e)) {z : D} (hz : zeroOf E.P e = some z) {kt : ET} (hk : keyT E.P k = some kt) {ok : Bool} {o p : Operand} {ar pr : Arg}
    (h2 : cArg o = some ar) (h3 : cArg p = some pr) {d : D} {x' : AS} (hs : step E.G (.mlk z ok kt ar pr) x = some (d, x')) :
    gd E M0 w0 N μ w x a d x' w (do pure (.value (← Instr.lookup t (a.eval o) (a.eval p) ok))) := by
  have hv := arg_rel h h2
  have hp := arg_rel h h3
  generalize a.eval o = v at *
  generalize a.eval p = y at *
  obtain ⟨td, hkd, hK⟩ := keyT_kind hk
  simp only [zeroOf, Option.bind_eq_bind, Option.bind_eq_some_iff] at hz
  obtain ⟨i, hi, zv, hzv, hz⟩ := hz
  have hzr : VRel (Mm M0 μ) w μ z zv := ofV_rel _ _ _ hz
  have hzz : (zeroValue e).run E.P w = .ok zv w := by simp [zeroValue, run_typeInfo' hi, hzv]
  have hfin : ∀ (dd : D) (vv : Value) (b : Bool), VRel (Mm M0 μ) w μ dd vv → VRel (Mm M0 μ) w μ (bif ok then .tup (aggD dd ++ [.bool b]) else dd) (if ok then .tuple #[vv, .bool b] else vv) := by
    intro dd vv b hd
    cases ok
    · simpa using hd
    · simp only [cond_true, if_true, VRel, aggD]
      exact ⟨_, rfl, VRels.cons hd (VRels.cons (by simp only [VRel]) VRels.nil)⟩
  simp only [step_mlk, st_mlk] at hs
  split at hs
  · rename_i he
    rw [he] at hv; simp only [VRel] at hv; subst hv
    split at hs
    · rename_i r hf
      cases hs
      obtain ⟨hck, q⟩ := find_run (w := w) hkd hK hp (es := []) (ents := []) (by simp only [MEs]) hf
      have q2 : (Instr.findKey k y []).run E.P w = .ok none w := by
        rcases q with ⟨_, q⟩ | ⟨j, d, e, kd, b, _, _, q3, _⟩
        · exact q
        · cases q3
      refine Good.of (v := if ok then .tuple #[zv, .bool false] else zv) h (run_value ?_) (hfin _ _ _ hzr)
      simp only [Instr.lookup, Sem.run_bind, run_underlying hu, Result.andThen_ok, Sem.run_pure, hck, q2, hzz, List.nil_eq]
    · cases hs
  · rename_i nm he
    rw [he] at hv; simp only [VRel] at hv
    obtain ⟨l, b, k1, k2, rfl⟩ := hv
    split at hs
    · rename_i es c hg
      obtain ⟨l', b', ents, g1, g2, g3, g4, g5⟩ := h.st nm _ _ k1 hg
      rw [k1] at g1; cases g1; rw [k2] at g2; cases g2
      have hobj : (getObj b).run E.P w = .ok (.map ents c) w := run_getObj g4 (by intro _ _ _ hh; cases hh)
      split at hs
      · rename_i j u hf
        cases hs
        obtain ⟨hck, hfr⟩ := find_run (w := w) hkd hK hp g5 hf
        rcases hfr with ⟨q1, q2⟩ | ⟨j', d', e', kd', b', q1, q2, q3, q4, q5, q6⟩
        · cases q1
        · cases q1
          refine Good.of (v := if ok then .tuple #[e'.val, .bool true] else e'.val) h (run_value ?_) (hfin _ _ _ q5)
          simp only [Instr.lookup, Sem.run_bind, run_underlying hu, Result.andThen_ok, Sem.run_pure, hobj, hck, q2]
      · rename_i hf
        cases hs
        obtain ⟨hck, hfr⟩ := find_run (w := w) hkd hK hp g5 hf
        rcases hfr with ⟨q1, q2⟩ | ⟨j', d', e', kd', b', q1, q2, q3, q4, q5, q6⟩
        · refine Good.of (v := if ok then .tuple #[zv, .bool false] else zv) h (run_value ?_) (hfin _ _ _ hzr)
          simp only [Instr.lookup, Sem.run_bind, run_underlying hu, Result.andThen_ok, Sem.run_pure, hobj, hck, q2, hzz]
        · cases q1
      · cases hs
    · cases hs
  · cases hs
theorem op_mup (h : Rel E M0 w0 N μ a w x) {t k e : TypeId} (hu : E.P.underlying t = some (.map k e)) {kt : ET} (hk : keyT E.P k = some kt) {o p q : Operand} {ar pr qr : Arg}
    (h2 : cArg o = some ar) (h3 : cArg p = some pr) (h4 : cArg q = some qr) {d : D} {x' : AS} (hs : step E.G (.mup kt ar pr qr) x = some (d, x')) :
    gd E M0 w0 N μ w x a d x' w (do Instr.mapUpdate t (a.eval o) (a.eval p) (a.eval q); pure .skip) := by
  have hv := arg_rel h h2
  have hp := arg_rel h h3
  have hq := arg_rel h h4
  generalize a.eval o = v at *
  generalize a.eval p = y at *
  generalize a.eval q = u at *
  obtain ⟨td, hkd, hK⟩ := keyT_kind hk
  simp only [step_mup, st_mup] at hs
  split at hs
  · rename_i nm he
    rw [he] at hv; simp only [VRel] at hv
    obtain ⟨l, b, k1, k2, rfl⟩ := hv
    split at hs
    · rename_i es c hg
      obtain ⟨l', b', ents, g1, g2, g3, g4, g5⟩ := h.st nm _ _ k1 hg
      rw [k1] at g1; cases g1; rw [k2] at g2; cases g2
      have hb : b < w.heap.size := (h.own nm l b k1 k2).2
      have hobj : (getObj b).run E.P w = .ok (.map ents c) w := run_getObj g4 (by intro _ _ _ hh; cases hh)
      have hset : ∀ o', (setObj b o').run E.P w = .ok () { w with heap := w.heap.setIfInBounds b o' } := fun o' => run_setObj g4 (by intro _ _ _ hh; cases hh)
      split at hs
      · rename_i j uu hf
        obtain ⟨hck, hfr⟩ := find_run (w := w) hkd hK hp g5 hf
        rcases hfr with ⟨q1, q2⟩ | ⟨j', d', e', kd', b', q1, q2, q3, q4, q5, q6, q7⟩
        · cases q1
        · simp only [Option.some.injEq, Prod.mk.injEq, Nat.zero_add] at q1
          obtain ⟨rfl, rfl⟩ := q1
          simp only [Option.some.injEq, Prod.mk.injEq] at hs
          obtain ⟨rfl, rfl⟩ := hs
          let w' : World := { w with heap := w.heap.setIfInBounds b (.map (ents.modify j fun e => { e with key := y, val := u }) c) }
          obtain ⟨hx, hR, hf'⟩ := h.write nm (.mp (mset es j (qr.ev E.G x.t)) c) l b (w' := w') (x' := { x with s := sset x.s nm (.mp (mset es j (qr.ev E.G x.t)) c) }) k1 k2 (by rw [hg]; rfl) (by simp [w'])
            (fun k hk => by simp only [w']; rw [Array.getElem?_setIfInBounds_ne (fun e => hk e.symm)]) (fun n => rfl) (fun n => by rw [sget_sset]) rfl rfl
            (fun hx => ⟨l, b, _, k1, k2, g3, by simp [w', hb]; rfl, by
              rw [Array.toList_modify]
              exact MEs.set (VRel.mono hx _ _ (muLe.refl _) hq) (MEs.mono hx (muLe.refl _) g5) (by simpa using q3) q6⟩)
          refine ⟨undef, w', μ, .inr ⟨?_, rfl⟩, by simp only [VRel], hR, hf'⟩
          have hkey : ((ents[j]?).map (·.key)).getD y = y := by
            rw [← Array.getElem?_toList, q3]; simp [q6]
          have hsb : Instr.sameBits 10000 y y = true := by rw [q6] at q7; exact q7
          simp only [Instr.mapUpdate, Sem.run_bind, run_underlying hu, Result.andThen_ok, hobj, hck, q2, hkey, Instr.keyThatStays, hsb, if_true, Sem.run_pure, hset, w']
      · rename_i hf
        obtain ⟨hck, hfr⟩ := find_run (w := w) hkd hK hp g5 hf
        rcases hfr with ⟨q1, q2⟩ | ⟨j', d', e', kd', b', q1, q2, q3, q4, q5, q6⟩
        · simp only [Option.some.injEq, Prod.mk.injEq] at hs
          obtain ⟨rfl, rfl⟩ := hs
          let w' : World := { w with heap := w.heap.setIfInBounds b (.map (ents.push { key := y, val := u, born := c }) (c + 1)) }
          obtain ⟨hx, hR, hf'⟩ := h.write nm (.mp (es ++ [(pr.ev E.G x.t, qr.ev E.G x.t, c)]) (c + 1)) l b (w' := w') (x' := { x with s := sset x.s nm (.mp (es ++ [(pr.ev E.G x.t, qr.ev E.G x.t, c)]) (c + 1)) }) k1 k2 (by rw [hg]; rfl) (by simp [w'])
            (fun k hk => by simp only [w']; rw [Array.getElem?_setIfInBounds_ne (fun e => hk e.symm)]) (fun n => rfl) (fun n => by rw [sget_sset]) rfl rfl
            (fun hx => ⟨l, b, _, k1, k2, g3, by simp [w', hb]; rfl, by
              rw [Array.toList_push]
              exact MEs.push (e := { key := y, val := u, born := c }) (VRel.mono hx _ _ (muLe.refl _) hp) (VRel.mono hx _ _ (muLe.refl _) hq) (MEs.mono hx (muLe.refl _) g5)⟩)
          refine ⟨undef, w', μ, .inr ⟨?_, rfl⟩, by simp only [VRel], hR, hf'⟩
          simp only [Instr.mapUpdate, Sem.run_bind, run_underlying hu, Result.andThen_ok, hobj, hck, q2, Sem.run_pure, hset, w']
        · cases q1
      · cases hs
    · cases hs
  · cases hs
theorem op_mln (h : Rel E M0 w0 N μ a w x) {t k e ty : TypeId} (hu : E.P.underlying t = some (.map k e)) {o : Operand} {ar : Arg} (h2 : cArg o = some ar) {d : D} {x' : AS}
    (hs : step E.G (.mln ar) x = some (d, x')) : gd E M0 w0 N μ w x a d x' w (do pure (.value (← Builtin.len_ #[t] ty #[a.eval o]))) := by
  have hv := arg_rel h h2
  generalize a.eval o = v at *
  simp only [step_mln, st_mln] at hs
  split at hs
  · rename_i he
    rw [he] at hv; simp only [VRel] at hv; subst hv
    cases hs
    refine Good.of (v := .int .i64 0) h (run_value ?_) (by simp only [VRel])
    simp [Builtin.len_, run_underlying hu, goInt]
  · rename_i nm he
    rw [he] at hv; simp only [VRel] at hv
    obtain ⟨l, b, k1, k2, rfl⟩ := hv
    split at hs
    · rename_i es c hg
      obtain ⟨l', b', ents, g1, g2, g3, g4, g5⟩ := h.st nm _ _ k1 hg
      rw [k1] at g1; cases g1; rw [k2] at g2; cases g2
      have hobj : (getObj b).run E.P w = .ok (.map ents c) w := run_getObj g4 (by intro _ _ _ hh; cases hh)
      cases hs
      have hl : ents.size = es.length := by simpa using MEs.length g5
      refine Good.of (v := .int .i64 es.length) h (run_value ?_) (by simp only [VRel])
      simp only [Builtin.len_, List.getElem?_toArray, List.getElem?_cons_zero, Sem.run_bind, run_underlying hu, Result.andThen_ok, hobj, Sem.run_pure, goInt, hl]
    · cases hs
  · cases hs
theorem op_rgm (h : Rel E M0 w0 N μ a w x) {t k e : TypeId} (hu : E.P.underlying t = some (.map k e)) {o : Operand} {ar : Arg} (h2 : cArg o = some ar) {d : D} {x' : AS}
    (hs : step E.G (.rgm ar) x = some (d, x')) : gd E M0 w0 N μ w x a d x' w (do pure (.value (← Instr.range t (a.eval o)))) := by
  have hv := arg_rel h h2
  generalize a.eval o = v at *
  simp only [step_rgm, st_rgm] at hs
  split at hs
  · rename_i he
    rw [he] at hv; simp only [VRel] at hv; subst hv
    cases hs
    let w' : World := { w with heap := w.heap.push (.mapIter none 0 #[] 0) }
    obtain ⟨hx, hR, hf⟩ := h.fresh x.c (Nat.le_refl _) (.mit none 0 [] 0) (.mapIter none 0 #[] 0) 0 (w' := w') (x' := x.add (.mit none 0 [] 0)) rfl (fun _ => rfl) (fun n => sget_sadd _ _ _ _) rfl rfl
      (fun hx hM => ⟨⟨some w.heap.size, 0⟩, w.heap.size, none, by simp [muSet], rfl, hM, by simp [w'], rfl⟩)
    refine ⟨.pointer (some ⟨w.heap.size, 0, none⟩), w', _, .inl (run_value (by simp [Instr.range, run_underlying hu, w', newObj, Sem.run])), ?_, hR, hf⟩
    simp only [VRel]
    exact ⟨_, _, by simp [muSet]; rfl, rfl, rfl⟩
  · rename_i nm he
    rw [he] at hv; simp only [VRel] at hv
    obtain ⟨l, b, k1, k2, rfl⟩ := hv
    split at hs
    · rename_i es c hg
      obtain ⟨l', b', ents, g1, g2, g3, g4, g5⟩ := h.st nm _ _ k1 hg
      rw [k1] at g1; cases g1; rw [k2] at g2; cases g2
      have hobj : (getObj b).run E.P w = .ok (.map ents c) w := run_getObj g4 (by intro _ _ _ hh; cases hh)
      cases hs
      let w' : World := { w with heap := w.heap.push (.mapIter (some b) c #[] c) }
      obtain ⟨hx, hR, hf⟩ := h.fresh x.c (Nat.le_refl _) (.mit (some nm) c [] c) (.mapIter (some b) c #[] c) 0 (w' := w') (x' := x.add (.mit (some nm) c [] c)) rfl (fun _ => rfl) (fun n => sget_sadd _ _ _ _) rfl rfl
        (fun hx hM => ⟨⟨some w.heap.size, 0⟩, w.heap.size, some b, by simp [muSet], rfl, hM, by simp [w'], l, b, h.free_le (Nat.le_refl _) _ _ _ k1, k2, rfl⟩)
      refine ⟨.pointer (some ⟨w.heap.size, 0, none⟩), w', _, .inl (run_value ?_), ?_, hR, hf⟩
      · simp only [Instr.range, Sem.run_bind, run_underlying hu, Result.andThen_ok, hobj, Sem.run_pure, newObj, Sem.run, w']
      · simp only [VRel]
        exact ⟨_, _, by simp [muSet]; rfl, rfl, rfl⟩
    · cases hs
  · cases hs
theorem op_nxm (h : Rel E M0 w0 N μ a w x) {o : Operand} {ar : Arg} (h2 : cArg o = some ar) {ty : TypeId} {d : D} {x' : AS}
    (hs : step E.G (.nxm ar) x = some (d, x')) : gd E M0 w0 N μ w x a d x' w (do pure (.value (← Instr.next (a.eval o) false ty))) := by
  have hv := arg_rel h h2
  generalize a.eval o = v at *
  simp only [step_nxm, st_nxm] at hs
  split at hs
  · rename_i nm he
    rw [he] at hv; simp only [VRel] at hv
    obtain ⟨l, b, k1, k2, rfl⟩ := hv
    split at hs
    · rename_i since sn last hg
      obtain ⟨l', b', mo, g1, g2, g3, g4, g5⟩ := h.st nm _ _ k1 hg
      rw [k1] at g1; cases g1; rw [k2] at g2; cases g2
      simp only at g5; subst g5
      cases hs
      have hobj := run_getObj (P := E.P) g4 (by intro _ _ _ hh; cases hh)
      refine Good.of (v := .tuple #[.bool false]) h (run_value ?_) ?_
      · simp only [Instr.next, Sem.run_bind, hobj, Result.andThen_ok, Sem.run_pure]
      · simp only [VRel]
        exact ⟨_, rfl, VRels.cons (by simp only [VRel]) VRels.nil⟩
    · rename_i m since sn last hg
      obtain ⟨l', b', mo, g1, g2, g3, g4, g5⟩ := h.st nm _ _ k1 hg
      rw [k1] at g1; cases g1; rw [k2] at g2; cases g2
      obtain ⟨lm, bm, m1, m2, rfl⟩ := g5
      have hobj := run_getObj (P := E.P) g4 (by intro _ _ _ hh; cases hh)
      split at hs
      · rename_i es c hgm
        obtain ⟨lm', bm', ents, q1, q2, q3, q4, q5⟩ := h.st m _ _ m1 hgm
        rw [m1] at q1; cases q1; rw [m2] at q2; cases q2
        have hobjm := run_getObj (P := E.P) q4 (by intro _ _ _ hh; cases hh)
        cases hcond : (sn.isEmpty || es.isEmpty || es.any (fun e => Nat.blt e.2.2 last)) <;> rw [hcond] at hs
        · cases hs
        simp only [cond_true] at hs
        have hempty : ents.isEmpty = es.isEmpty := by
          have hl : ents.toList.length = es.length := MEs.length q5
          rw [Bool.eq_iff_iff]
          simp only [Array.isEmpty_iff, List.isEmpty_iff, ← List.length_eq_zero_iff, ← hl]
          simp
        have hguard : (!sn.toArray.isEmpty && !ents.isEmpty && ents.all fun x => decide (x.born ≥ last)) = false := by
          have hany : es.any (fun e => Nat.blt e.2.2 last) = ents.toList.any (fun e => Nat.blt e.born last) :=
            MEs.any (p := fun e => Nat.blt e.2.2 last) (q := fun e => Nat.blt e.born last) (fun k v n e hh => by simp only [hh]) q5
          have hall : ents.all (fun x => decide (x.born ≥ last)) = !(ents.toList.any (fun e => Nat.blt e.born last)) := by
            rw [← Array.all_toList, Bool.eq_iff_iff]
            simp [Nat.blt_eq]
          rw [hall, ← hany, hempty, show sn.toArray.isEmpty = sn.isEmpty by simp]
          revert hcond
          cases sn.isEmpty <;> cases es.isEmpty <;> cases es.any (fun e => Nat.blt e.2.2 last) <;> simp
        have hleft := MEs.filter (p := fun e => !sn.any (Nat.beq e.2.2)) (q := fun e => !sn.toArray.contains e.born) (fun k v n e hh => by
          subst hh
          show (!sn.any (Nat.beq e.born)) = !sn.toArray.contains e.born
          rw [Bool.eq_iff_iff]
          simp only [Bool.not_eq_true', List.any_eq_false, Nat.beq_eq, List.contains_toArray, List.elem_eq_mem, decide_eq_false_iff_not]
          exact ⟨fun g hm => g _ hm rfl, fun g x hx e => g (e ▸ hx)⟩) q5
        have hfl : (ents.filter fun e => !sn.toArray.contains e.born).toList = ents.toList.filter fun e => !sn.toArray.contains e.born := by simp
        rw [← hfl] at hleft
        generalize hLe : ents.filter (fun e => !sn.toArray.contains e.born) = left at hleft
        obtain ⟨left⟩ := left
        simp only at hleft
        split at hs
        · rename_i hnil
          rw [hnil] at hleft
          simp only [MEs] at hleft
          subst hleft
          cases hs
          refine Good.of (v := .tuple #[.bool false]) h (run_value ?_) ?_
          · simp only [Instr.next, Sem.run_bind, hobj, Result.andThen_ok, hobjm, hguard, Bool.false_eq_true, if_false, hLe, Sem.run_pure]
            simp [choose, Sem.run, Question.forced]
          · simp only [VRel]
            exact ⟨_, rfl, VRels.cons (by simp only [VRel]) VRels.nil⟩
        · rename_i kd vd bn hone
          rw [hone] at hleft
          simp only [MEs] at hleft
          obtain ⟨e, r', rfl, r1, r2, r3, rfl⟩ := hleft
          cases hlt : Nat.blt bn since <;> rw [hlt] at hs
          · cases hs
          rw [Nat.blt_eq] at hlt
          simp only [cond_true, Option.some.injEq, Prod.mk.injEq] at hs
          obtain ⟨rfl, rfl⟩ := hs
          have hb : b < w.heap.size := (h.own nm l b k1 k2).2
          let w' : World := { w with heap := w.heap.setIfInBounds b (.mapIter (some bm) since (sn.toArray.push e.born) c) }
          obtain ⟨hx, hR, hf⟩ := h.write nm (.mit (some m) since (sn ++ [bn]) c) l b (w' := w') (x' := { x with s := sset x.s nm (.mit (some m) since (sn ++ [bn]) c) }) k1 k2 (by rw [hg]; rfl) (by simp [w'])
            (fun k hk => by simp only [w']; rw [Array.getElem?_setIfInBounds_ne (fun e => hk e.symm)]) (fun n => rfl) (fun n => by rw [sget_sset]) rfl rfl
            (fun hx => ⟨l, b, some bm, k1, k2, g3, by simp [w', hb, r3], lm, bm, m1, m2, rfl⟩)
          refine ⟨.tuple #[.bool true, e.key, e.val], w', μ, .inl (run_value ?_), ?_, hR, hf⟩
          · have hset := run_setObj (P := E.P) (o' := .mapIter (some bm) since (sn.toArray.push e.born) c) g4 (by intro _ _ _ hh; cases hh)
            have h1 : (#[e].filter fun x => decide (x.born < since)) = #[e] := by simp [r3, hlt]
            have h2' : (#[e].filter fun x => decide (x.born ≥ since)) = #[] := by simp [r3]; omega
            simp only [Instr.next, Sem.run_bind, hobj, Result.andThen_ok, hobjm, hguard, Bool.false_eq_true, if_false, hLe, Sem.run_pure, show (⟨[e]⟩ : Array MapEntry) = #[e] from rfl, h1, h2']
            simp only [choose, Sem.run, Question.forced, Sem.run_bind, Sem.run_pure, Array.isEmpty_eq_false_iff, show (#[e].isEmpty) = false from rfl, Bool.false_eq_true, if_false, Array.append_empty, Array.empty_append, Array.size_map, show (#[e] : Array MapEntry).size = 1 from rfl, Nat.le_refl, decide_true, if_true, show (#[some e] : Array (Option MapEntry)).size = 1 from rfl, List.map_toArray, List.map_cons, List.map_nil, List.getElem?_toArray, List.getElem?_cons_zero, hset, Result.andThen_ok, w']
          · simp only [VRel]
            exact ⟨_, rfl, VRels.cons (by simp only [VRel]) (VRels.cons (VRel.mono hx _ _ (muLe.refl _) r1) (VRels.cons (VRel.mono hx _ _ (muLe.refl _) r2) VRels.nil))⟩
        · cases hs
      · cases hs
    · cases hs
  · cases hs
theorem op_ent (h : Rel E M0 w0 N μ a w x) {o : Operand} {ar : Arg} (h2 : cArg o = some ar) {d : D} {x' : AS}
    (hs : step E.G (.ent ar) x = some (d, x')) : gd E M0 w0 N μ w x a d x' w (do pure (.value (← Instr.entry (a.eval o)))) := by
  have hv := arg_rel h h2
  generalize a.eval o = v at *
  simp only [step_ent, st_ent] at hs
  split at hs
  · rename_i nm he
    rw [he] at hv; simp only [VRel] at hv
    obtain ⟨l, b, k1, k2, rfl⟩ := hv
    split at hs
    · rename_i m since sn last hg
      obtain ⟨l', b', mo, g1, g2, g3, g4, g5⟩ := h.st nm _ _ k1 hg
      rw [k1] at g1; cases g1; rw [k2] at g2; cases g2
      obtain ⟨lm, bm, m1, m2, rfl⟩ := g5
      have hobj := run_getObj (P := E.P) g4 (by intro _ _ _ hh; cases hh)
      split at hs
      · rename_i es c bn hgm hlast
        obtain ⟨lm', bm', ents, q1, q2, q3, q4, q5⟩ := h.st m _ _ m1 hgm
        rw [m1] at q1; cases q1; rw [m2] at q2; cases q2
        have hobjm := run_getObj (P := E.P) q4 (by intro _ _ _ hh; cases hh)
        cases hcond : Nat.beq c last <;> rw [hcond] at hs
        · cases hs
        have hcl := Nat.eq_of_beq_eq_true hcond
        subst hcl
        simp only [cond_true] at hs
        have hleft := MEs.filter (p := fun e => Nat.beq e.2.2 bn) (q := fun e => e.born == bn) (fun k v n e hh => by subst hh; rw [Bool.eq_iff_iff]; simp) q5
        split at hs
        · rename_i kd vd n0 rest hone
          rw [hone] at hleft
          simp only [MEs] at hleft
          obtain ⟨e, r', hr', r1, r2, r3, r4⟩ := hleft
          cases hs
          refine Good.of (v := .tuple #[e.key, e.val]) h (run_value ?_) ?_
          · have hfind : ents.find? (·.born == bn) = some e := by
              rw [← Array.find?_toList, ← List.head?_filter, hr']; rfl
            have hback : sn.toArray.back? = some bn := by simp [hlast]
            simp only [Instr.entry, Sem.run_bind, hobj, Result.andThen_ok, hback, hobjm, bne_self_eq_false, Bool.false_eq_true, if_false, Sem.run_pure, hfind]
          · simp only [VRel]
            exact ⟨_, rfl, VRels.cons r1 (VRels.cons r2 VRels.nil)⟩
        · cases hs
      · cases hs
    · cases hs
  · cases hs
theorem op_tas (h : Rel E M0 w0 N μ a w x) {s t : TypeId} {td : TypeDesc} (hu : E.P.underlying t = some td) (hni : ∀ ms, td ≠ .interface ms) {z : D} (hz : zeroOf E.P t = some z) {ok : Bool} {o : Operand} {ar : Arg}
    (h2 : cArg o = some ar) {d : D} {x' : AS} (hs : step E.G (.tas t z ok ar) x = some (d, x')) :
    gd E M0 w0 N μ w x a d x' w (do pure (.value (← Instr.typeAssert (a.eval o) s t ok))) := by
  have hv := arg_rel h h2
  generalize a.eval o = v at *
  simp only [zeroOf, Option.bind_eq_bind, Option.bind_eq_some_iff] at hz
  obtain ⟨i, hi, zv, hzv, hz⟩ := hz
  have hzr : VRel (Mm M0 μ) w μ z zv := ofV_rel _ _ _ hz
  have hzz : (zeroValue t).run E.P w = .ok zv w := by simp [zeroValue, run_typeInfo' hi, hzv]
  have hno : VRel (Mm M0 μ) w μ (.tup (aggD z ++ [.bool false])) (.tuple #[zv, .bool false]) := by
    simp only [VRel, aggD]
    exact ⟨_, rfl, VRels.cons hzr (VRels.cons (by simp only [VRel]) VRels.nil)⟩
  simp only [step_tas, st_tas] at hs
  split at hs
  · rename_i he
    rw [he] at hv; simp only [VRel] at hv; subst hv
    cases ok
    · cases hs
    · cases hs
      refine Good.of (v := .tuple #[zv, .bool false]) h (run_value ?_) hno
      cases td <;> first
        | (exact absurd rfl (hni _); done)
        | simp only [Instr.typeAssert, Sem.run_bind, run_underlying hu, Result.andThen_ok, if_true, hzz, Sem.run_pure]
  · rename_i u dd he
    rw [he] at hv; simp only [VRel] at hv
    obtain ⟨xv, rfl, hxv⟩ := hv
    cases hcond : Nat.beq u t <;> rw [hcond] at hs
    · have hne : u ≠ t := fun e => by subst e; simp at hcond
      cases ok
      · cases hs
      · cases hs
        refine Good.of (v := .tuple #[zv, .bool false]) h (run_value ?_) hno
        cases td <;> first
          | (exact absurd rfl (hni _); done)
          | simp only [Instr.typeAssert, Sem.run_bind, run_underlying hu, Result.andThen_ok, if_neg hne, if_true, hzz, Sem.run_pure]
    · have he := Nat.eq_of_beq_eq_true hcond
      subst he
      simp only [cond_true, Option.some.injEq, Prod.mk.injEq] at hs
      obtain ⟨rfl, rfl⟩ := hs
      refine Good.of (v := if ok then .tuple #[xv, .bool true] else xv) h (run_value ?_) ?_
      · cases td <;> first
          | (exact absurd rfl (hni _); done)
          | simp only [Instr.typeAssert, Sem.run_bind, run_underlying hu, Result.andThen_ok, if_true, Sem.run_pure]
      · cases ok
        · simpa using hxv
        · simp only [cond_true, if_true, VRel, aggD]
          exact ⟨_, rfl, VRels.cons hxv (VRels.cons (by simp only [VRel]) VRels.nil)⟩
  · cases hs
end
end Zv
namespace Zv
open Go
theorem find_idb {fn : Func} (h : fn.name = "internal/bytealg.IndexByteString") : Extern.find fn = some Extern.BytealgIndexByte.indexByte := by
  unfold Extern.find
  rw [h]
  kernel_rfl
theorem find_ctb {fn : Func} (h : fn.name = "internal/bytealg.CountString") : Extern.find fn = some Extern.BytealgCount.count := by
  unfold Extern.find
  rw [h]
  kernel_rfl
theorem find_idn {fn : Func} (h : fn.name = "internal/abi.NoEscape") : Extern.find fn = some Extern.AbiNoEscape.same := by
  unfold Extern.find
  rw [h]
  kernel_rfl
theorem find_mnz {fn : Func} (h : fn.name = "internal/bytealg.MakeNoZero") : Extern.find fn = some (Extern.BytealgMakeNoZero.makeNoZero fn.params fn.resultTypes) := by
  unfold Extern.find
  rw [h]
  kernel_rfl
theorem isRow_run {P : Program} {f : Nat} {name : String} (h : isRow P f name = true) {e : Array Value → Sem Value} (he : ∀ fn : Func, fn.name = name → Extern.find fn = some e) (args : Array Value) (w : World) :
    (callFunc f args).run P w = ((e args).run P w).andThen fun v w' => .ok (.value v) w' := by
  unfold isRow at h
  split at h
  · rename_i fn hf
    simp only [Bool.and_eq_true, Bool.not_eq_true', beq_iff_eq, Option.isNone_iff_eq_none] at h
    obtain ⟨h1, h2, h3, h4⟩ := h
    exact run_callFunc_extern hf h4 (by rw [h1]; rfl) h3 (he fn h2) args w
  · cases h
theorem idxB_eq (c : UInt8) : ∀ l : List UInt8, idxB c l = Lib.indexByte l c
  | [] => rfl
  | b :: r => by
    simp only [idxB, Lib.indexByte, idxB_eq c r]
    have h1 := Lib.indexByte_ge r c
    cases hb : b == c
    · simp only [cond_false, Bool.false_eq_true, if_false]
      rcases hn : Lib.indexByte r c with n | n
      · have h2 : ((Int.ofNat n) == -1) = false := by
          simp only [beq_eq_false_iff_ne, ne_eq]
          intro e; cases e
        rw [h2]; rfl
      · rw [hn, Int.negSucc_eq] at h1
        have h0 : n = 0 := by omega
        subst h0
        rfl
    · rfl
section
variable {E : Env} {M0 : Nat → Prop} {w0 : World} {N : Nat} {μ : Mu} {M : Nat → Prop} {a : Act} {w : World} {x : AS}
theorem run_builtin0 {P : Program} {ρ : Operand → Value} {o : Oper} {c : Call} {b : Builtin} (ho : o.op = .call c) (hb : c.callee = .builtin b) (w : World) :
    ∃ cs, (execOp ρ o).run P w = (builtin b c.argTypes o.type cs (c.args.map ρ)).run P w := by
  refine ⟨c.args.map fun | .const _ => true | _ => false, ?_⟩
  simp only [execOp, ho, resolve, hb, Sem.run_bind, Sem.run_pure, Result.andThen_ok, invoke]
  rfl
theorem args_x (h : Rel E M0 w0 N μ a w x) {l : Array Operand} {as : List Arg} (hc : cArgs l = some as) : VRels (Mm M0 μ) w μ (as.map (·.ev E.G x.t)) (l.map a.eval).toList := by
  rw [Array.toList_map]
  exact args_rel h hc
theorem run_row_op {P : Program} {ρ : Operand → Value} {o : Oper} {c : Call} {f : Nat} (ho : o.op = .call c) (hc : c.callee = .value (.func f)) (hρ : ρ (.func f) = .func (.func f) #[] #[]) (w : World) :
    (execOp ρ o).run P w = (callFunc f (c.args.map ρ)).run P w := by
  simp only [execOp, ho, resolve, hc, hρ, Deferred.ofValue, Sem.run_bind, Sem.run_pure, Result.andThen_ok, invoke, Array.empty_append, Array.append_empty]
theorem vals1 {d : D} {vs : Array Value} (h : VRels (Mm M0 μ) w μ [d] vs.toList) : ∃ v, vs = #[v] ∧ VRel (Mm M0 μ) w μ d v := by
  simp only [VRels] at h
  obtain ⟨v, r, h1, h2, rfl⟩ := h
  exact ⟨v, by apply Array.ext'; simp [h1], h2⟩
theorem vals2 {d e : D} {vs : Array Value} (h : VRels (Mm M0 μ) w μ [d, e] vs.toList) : ∃ v u, vs = #[v, u] ∧ VRel (Mm M0 μ) w μ d v ∧ VRel (Mm M0 μ) w μ e u := by
  simp only [VRels] at h
  obtain ⟨v, r, h1, h2, u, r', rfl, h3, rfl⟩ := h
  exact ⟨v, u, by apply Array.ext'; simp [h1], h2, h3⟩
theorem look_row (h : Rel E M0 w0 N μ a w x) {o : Oper} {c : Call} {f : Nat} (ho : o.op = .call c) (hc : c.callee = .value (.func f)) {as : List Arg} (hl : cArgs c.args = some as) {k : XL} {name : String} (hrow : isRow E.P f name = true)
    {e : Array Value → Sem Value} (he : ∀ fn : Func, fn.name = name → Extern.find fn = some e) {d : D} {x' : AS} (hs : step E.G (.xl k as) x = some (d, x'))
    (hrun : ∀ l vs, xlook k l x.s = some d → VRels (Mm M0 μ) w μ l vs.toList → ∃ v, (e vs).run E.P w = .ok v w ∧ VRel (Mm M0 μ) w μ d v) : gd E M0 w0 N μ w x a d x' w (execOp a.eval o) := by
  simp only [step_xl, st_xl, Option.map_eq_some_iff, Prod.mk.injEq] at hs
  obtain ⟨d', hk, rfl, rfl⟩ := hs
  obtain ⟨v, hr, hv⟩ := hrun _ _ hk (args_x h hl)
  refine Good.of h (v := v) ?_ hv
  rw [run_row_op ho hc rfl, isRow_run hrow he, hr]
  rfl
theorem xl_idb {l : List D} {s : St} {d : D} {vs : Array Value} (hk : xlook .idb l s = some d) (hv : VRels (Mm M0 μ) w μ l vs.toList) {P : Program} :
    ∃ v, (Extern.BytealgIndexByte.indexByte vs).run P w = .ok v w ∧ VRel (Mm M0 μ) w μ d v := by
  unfold xlook at hk
  split at hk
  all_goals try contradiction
  cases hk
  obtain ⟨v, u, rfl, g1, g2⟩ := vals2 hv
  simp only [VRel] at g1 g2
  subst g1 g2
  exact ⟨_, Lib.run_indexByteString _ _ _, by simp only [VRel, idxB_eq]⟩
theorem xl_ctb {l : List D} {s : St} {d : D} {vs : Array Value} (hk : xlook .ctb l s = some d) (hv : VRels (Mm M0 μ) w μ l vs.toList) {P : Program} :
    ∃ v, (Extern.BytealgCount.count vs).run P w = .ok v w ∧ VRel (Mm M0 μ) w μ d v := by
  unfold xlook at hk
  split at hk
  all_goals try contradiction
  cases hk
  obtain ⟨v, u, rfl, g1, g2⟩ := vals2 hv
  simp only [VRel] at g1 g2
  subst g1 g2
  exact ⟨_, Lib.run_countString _ _ _, by simp only [VRel]; rfl⟩
theorem xl_idn {l : List D} {s : St} {d : D} {vs : Array Value} (hk : xlook .idn l s = some d) (hv : VRels (Mm M0 μ) w μ l vs.toList) {P : Program} :
    ∃ v, (Extern.AbiNoEscape.same vs).run P w = .ok v w ∧ VRel (Mm M0 μ) w μ d v := by
  unfold xlook at hk
  split at hk
  all_goals try contradiction
  cases hk
  obtain ⟨v, rfl, g1⟩ := vals1 hv
  exact ⟨v, Lib.run_noEscape _ _, g1⟩
theorem fix_cells (h : Rel E M0 w0 N μ a w x) {nm : Nat} {l : Loc} {b ty : Nat} {cs : List D} (hl : μ nm = some l) (hb : l.blk = some b) (hg : sget x.s nm = some (.fix ty cs)) :
    ∃ e, w.shape? b = some (e, cs.length) ∧ ∀ k, ty = k + 1 → e = k := by
  obtain ⟨l', b', vs, e, fz, g1, g2, g3, g4, g5, g6, g7, g8⟩ := h.st nm _ l hl hg
  rw [hl] at g1; cases g1; rw [hb] at g2; cases g2
  refine ⟨e, ?_, g8⟩
  have := g7.length
  simp only [Array.length_toList] at this
  simp [World.shape?, g5, this]
theorem ext_upt (h : Rel E M0 w0 N μ a w x) {s t td : TypeId} {i : TypeInfo} (hu : E.P.underlying s = some (.pointer td)) (hd : E.P.underlying t = some .unsafePointer) (hi : E.P.info? td = some i) (hz : Nat.beq i.size 0 = false)
    {y : Operand} {ar : Arg} (h2 : cArg y = some ar) {d : D} {x' : AS} (hs : step E.G (.xl .upt [ar]) x = some (d, x')) : gd E M0 w0 N μ w x a d x' w (do pure (.value (← convert s t (a.eval y)))) := by
  have hv := arg_rel h h2
  simp only [step_xl, st_xl, Option.map_eq_some_iff, Prod.mk.injEq, List.map_cons, List.map_nil] at hs
  obtain ⟨d', hk, rfl, rfl⟩ := hs
  unfold xlook at hk
  split at hk
  all_goals try contradiction
  rename_i nm off hke hle
  simp only [List.cons.injEq, and_true] at hle
  rw [hle] at hv
  split at hk
  · rename_i ty cs hg
    cases hlt : Nat.blt off cs.length <;> rw [hlt] at hk
    · cases hk
    simp only [cond_true, Option.some.injEq] at hk
    subst hk
    have hvv := hv
    simp only [VRel] at hv
    obtain ⟨l, b, h1, h2, h3⟩ := hv
    obtain ⟨e, hsh, _⟩ := fix_cells h h1 h2 hg
    rw [h3] at hvv ⊢
    refine Good.of h (run_value (Lib.run_to_unsafe w ⟨b, off, none⟩ hu hd hi (fun e0 => by rw [e0] at hz; simp at hz) hsh ?_)) hvv
    simpa [Nat.blt_eq] using hlt
  · cases hk
theorem ext_ufp (h : Rel E M0 w0 N μ a w x) {s t u : TypeId} {i : TypeInfo} (hs' : E.P.underlying s = some .unsafePointer) (hd : E.P.underlying t = some (.pointer u)) (hi : E.P.info? u = some i)
    (hlie : liesAt E.P E.P.depth u (i.size / E.P.cellsOf u) 0 u 1 = true) {y : Operand} {ar : Arg} (h2 : cArg y = some ar) {d : D} {x' : AS} (hs : step E.G (.xl (.ufp u i.size) [ar]) x = some (d, x')) :
    gd E M0 w0 N μ w x a d x' w (do pure (.value (← convert s t (a.eval y)))) := by
  have hv := arg_rel h h2
  simp only [step_xl, st_xl, Option.map_eq_some_iff, Prod.mk.injEq, List.map_cons, List.map_nil] at hs
  obtain ⟨d', hk, rfl, rfl⟩ := hs
  unfold xlook at hk
  split at hk
  all_goals try contradiction
  rename_i u' n nm hke hle
  cases hke
  simp only [List.cons.injEq, and_true] at hle
  rw [hle] at hv
  split at hk
  · rename_i ty cs hg
    cases hc : (Nat.beq ty (u + 1) && Nat.beq cs.length i.size) <;> rw [hc] at hk
    · cases hk
    simp only [Bool.and_eq_true] at hc
    have c1 := Nat.eq_of_beq_eq_true hc.1
    have c2 := Nat.eq_of_beq_eq_true hc.2
    simp only [cond_true, Option.some.injEq] at hk
    subst hk
    have hvv := hv
    simp only [VRel] at hv
    obtain ⟨l, b, h1, h2, h3⟩ := hv
    obtain ⟨e, hsh, he⟩ := fix_cells h h1 h2 hg
    have := he u c1
    subst this
    rw [h3] at hvv ⊢
    refine Good.of h (run_value (Lib.run_from_unsafe w ⟨b, 0, none⟩ hs' hd hi (by rw [c2] at hsh; exact hsh) hlie)) hvv
  · cases hk
theorem ext_peq (h : Rel E M0 w0 N μ a w x) {neg : Bool} {t e : TypeId} {i : TypeInfo} {o p : Operand} {ar pr : Arg} (hu : E.P.underlying t = some (.pointer e)) (hi : E.P.info? e = some i) (h2 : cArg o = some ar) (h3 : cArg p = some pr) {d : D} {x' : AS}
    (hs : step E.G (.xl (.peq neg) [ar, pr]) x = some (d, x')) :
    gd E M0 w0 N μ w x a d x' w (do pure (.value (← (do eqGuard (bif neg then .neq else .eql) t o p (a.eval o) (a.eval p); binOp (bif neg then .neq else .eql) t (a.eval o) (a.eval p) : Sem Value)))) := by
  have hv := arg_rel h h2
  have hp := arg_rel h h3
  simp only [step_xl, st_xl, Option.map_eq_some_iff, Prod.mk.injEq, List.map_cons, List.map_nil] at hs
  obtain ⟨d', hk, rfl, rfl⟩ := hs
  change Option.map _ (peqD (ar.ev E.G x.t) (pr.ev E.G x.t)) = some d' at hk
  simp only [Option.map_eq_some_iff] at hk
  obtain ⟨r, hr, hd⟩ := hk
  subst hd
  generalize hd1 : ar.ev E.G x.t = d1 at hr hv
  generalize hd2 : pr.ev E.G x.t = d2 at hr hp
  have hle : ar.ev E.G x.t = d1 ∧ pr.ev E.G x.t = d2 := ⟨hd1, hd2⟩
  unfold peqD at hr
  split at hr
  · rename_i nm i1 nm2 j1
    cases hc : (Nat.beq nm nm2 && Nat.beq i1 j1) <;> rw [hc] at hr
    · cases hr
    simp only [Bool.and_eq_true] at hc
    have c1 := Nat.eq_of_beq_eq_true hc.1
    have c2 := Nat.eq_of_beq_eq_true hc.2
    subst c1 c2
    simp only [cond_true, Option.some.injEq] at hr
    subst hr
    simp only [VRel] at hv hp
    obtain ⟨l, b, g1, g2, g3⟩ := hv
    obtain ⟨l', b', k1, k2, k3⟩ := hp
    rw [g1] at k1; cases k1; rw [g2] at k2; cases k2
    rw [g3, k3]
    have heq : (Op.equal t (.pointer (some ⟨b, i1, none⟩)) (.pointer (some ⟨b, i1, none⟩))).run E.P w = .ok true w := by
      have h' : ∀ d : Nat, (Op.equalIn (d + 1) t (.pointer (some ⟨b, i1, none⟩)) (.pointer (some ⟨b, i1, none⟩))).run E.P w = .ok true w := fun d => by
        simp [Op.equalIn, run_underlying hu, run_sizeOf' (show szOf E.P e = some i.size by simp [szOf, hi]), run_sameAddr_same]
      simp only [Op.equal, Op.maxDepth, h' 9999]
    refine Good.of h (v := .bool (bif neg then !true else true)) (run_value ?_) (by simp only [VRel])
    simp only [Sem.run_bind, eqGuard_at_pointer, Sem.run_pure, Result.andThen_ok]
    exact binOp_eqneq t _ _ true neg w (by simp) heq
  · have hcmp : cmpK E.P t o p = some .ptr := by simp [cmpK, hu]
    have hs2 : step E.G (.cmp neg .ptr ar pr) x = some (.bool (bif neg then !r else r), x) := by
      simp only [step_cmp, st_cmp, hle.1, hle.2, hr, Option.map_some]
    exact op_cmp (neg := neg) h hcmp h2 h3 hs2
theorem ext_sda (h : Rel E M0 w0 N μ a w x) {o : Oper} {cc : Call} (ho : o.op = .call cc) (hcal : cc.callee = .builtin .unsafeSliceData) {as : List Arg} (hl : cArgs cc.args = some as) {d : D} {x' : AS}
    (hs : step E.G (.xl .sda as) x = some (d, x')) : gd E M0 w0 N μ w x a d x' w (execOp a.eval o) := by
  obtain ⟨cs, hrb⟩ := run_builtin0 (P := E.P) (ρ := a.eval) ho hcal w
  unfold gd
  rw [hrb]
  have hv := args_x h hl
  simp only [step_xl, st_xl, Option.map_eq_some_iff, Prod.mk.injEq] at hs
  obtain ⟨d', hk, rfl, rfl⟩ := hs
  generalize as.map (·.ev E.G x.t) = l at hk hv
  unfold xlook at hk
  split at hk
  all_goals try contradiction
  · cases hk
    obtain ⟨v, hvs, g1⟩ := vals1 hv
    rw [hvs]
    simp only [VRel] at g1
    subst g1
    exact Good.of h (run_value (Lib.run_unsafeSliceData_nil _ _ _ _ _)) (by simp only [VRel])
  · cases hk
    obtain ⟨v, hvs, g1⟩ := vals1 hv
    rw [hvs]
    simp only [VRel] at g1
    obtain ⟨⟨lb, lc⟩, cap, h1, rfl, h3, h4, h5⟩ := g1
    cases lb with
    | none => have := h5 rfl; omega
    | some b => exact Good.of h (run_value (Lib.run_unsafeSliceData_row _ _ _ _ _ _ (by omega))) (by simp only [VRel]; exact ⟨_, _, h1, rfl, rfl⟩)
  · cases hk
    obtain ⟨v, hvs, g1⟩ := vals1 hv
    rw [hvs]
    simp only [VRel] at g1
    obtain ⟨loc, b, h1, h2, rfl, h3, h4⟩ := g1
    exact Good.of h (run_value (Lib.run_unsafeSliceData_row _ _ _ _ _ _ (by omega))) (by simp only [VRel]; exact ⟨_, _, h1, h2, rfl⟩)
theorem mmAll_rel {P : Program} {mx : Bool} {k : IntKind} : ∀ {l : List D} {vs : List Value} {n : Int} {d : D}, mmAll mx k n l = some d → VRels (Mm M0 μ) w μ l vs →
    ∃ v, (vs.foldlM (bif mx then Builtin.max2 else Builtin.min2) (.int k n) : Sem Value).run P w = .ok v w ∧ VRel (Mm M0 μ) w μ d v
  | [], vs, n, d, h, hv => by
    simp only [mmAll, Option.some.injEq] at h
    subst h
    simp only [VRels] at hv
    subst hv
    exact ⟨_, rfl, by simp only [VRel]⟩
  | e :: r, vs, n, d, h, hv => by
    simp only [VRels] at hv
    obtain ⟨v, r', rfl, h1, h2⟩ := hv
    cases e <;> simp only [mmAll, reduceCtorEq] at h
    simp only [VRel] at h1
    subst h1
    obtain ⟨u, g1, g2⟩ := mmAll_rel h h2
    refine ⟨u, ?_, g2⟩
    rw [List.foldlM_cons, Sem.run_bind]
    cases mx
    · simpa [Builtin.min2] using g1
    · simpa [Builtin.max2] using g1
theorem ext_mml (h : Rel E M0 w0 N μ a w x) {mx : Bool} {o : Oper} {cc : Call} (ho : o.op = .call cc) (hcal : cc.callee = .builtin (bif mx then .max else .min)) {as : List Arg} (hl : cArgs cc.args = some as) {d : D} {x' : AS}
    (hs : step E.G (.xl (.mml mx) as) x = some (d, x')) : gd E M0 w0 N μ w x a d x' w (execOp a.eval o) := by
  obtain ⟨cs, hrb⟩ := run_builtin0 (P := E.P) (ρ := a.eval) ho hcal w
  unfold gd
  rw [hrb]
  have hv := args_x h hl
  simp only [step_xl, st_xl, Option.map_eq_some_iff, Prod.mk.injEq] at hs
  obtain ⟨d', hk, rfl, rfl⟩ := hs
  generalize as.map (·.ev E.G x.t) = l at hk hv
  unfold xlook at hk
  split at hk
  all_goals try contradiction
  rename_i mx' k n r hke
  cases hke
  simp only [VRels] at hv
  obtain ⟨v, r', hvs, h1, h2⟩ := hv
  simp only [VRel] at h1
  subst h1
  obtain ⟨u, g1, g2⟩ := mmAll_rel (P := E.P) hk h2
  refine Good.of h (v := u) ?_ g2
  cases mx
  · exact run_value (s := Builtin.min_ cc.argTypes o.type (cc.args.map a.eval)) (by simp only [Builtin.min_, hvs]; exact g1)
  · exact run_value (s := Builtin.max_ cc.argTypes o.type (cc.args.map a.eval)) (by simp only [Builtin.max_, hvs]; exact g1)
theorem ext_apz (h : Rel E M0 w0 N μ a w x) {o : Oper} {cc : Call} (ho : o.op = .call cc) (hcal : cc.callee = .builtin .append) {t u e : TypeId} {k : IntKind} (hts : cc.argTypes.toList = [t, u]) (hu : E.P.underlying t = some (.slice e)) (hn : E.P.underlying u = some (.int k))
    {ao : AOp} (hc : (do
          let i ← E.P.info? e
          let z ← zeroOf E.P e
          let zc ← z.cells?
          bif Nat.beq zc.length i.size && !Nat.beq i.size 0 then (cArgs cc.args).map (.xa (.apz i.size i.bytes zc)) else none) = some ao) {d : D} {x' : AS}
    (hs : step E.G ao x = some (d, x')) : gd E M0 w0 N μ w x a d x' w (execOp a.eval o) := by
  simp only [Option.bind_eq_bind, Option.bind_eq_some_iff] at hc
  obtain ⟨i, hi, z, hz, zc, hzc, hc⟩ := hc
  cases hcond : (Nat.beq zc.length i.size && !Nat.beq i.size 0) <;> rw [hcond] at hc
  · cases hc
  simp only [Bool.and_eq_true, Bool.not_eq_true'] at hcond
  simp only [cond_true, Option.map_eq_some_iff] at hc
  obtain ⟨as, hl, rfl⟩ := hc
  have hzl := Nat.eq_of_beq_eq_true hcond.1
  simp only [step_xa, st_xa, Option.map_eq_some_iff, Prod.mk.injEq] at hs
  obtain ⟨⟨d', s', c'⟩, hk, rfl, rfl⟩ := hs
  unfold xact at hk
  split at hk
  all_goals try contradiction
  rename_i sz bytes z' kn n hke hle
  cases hke
  have hv := args_x h hl
  rw [hle] at hv
  obtain ⟨v, y, hvs, g1, g2⟩ := vals2 hv
  simp only [VRel] at g1 g2
  subst g1 g2
  cases hroom : (!Nat.beq n 0 && room n i.bytes) <;> rw [hroom] at hk
  · cases hk
  simp only [Bool.and_eq_true, Bool.not_eq_true', room] at hroom
  simp only [cond_true, Option.some.injEq, Prod.mk.injEq] at hk
  obtain ⟨rfl, rfl, rfl⟩ := hk
  have hn0 : 0 < n := by
    rcases Nat.eq_zero_or_pos n with e0 | e0
    · rw [e0] at hroom; simp at hroom
    · exact e0
  have hs0 : 0 < i.size := by
    rcases Nat.eq_zero_or_pos i.size with e0 | e0
    · rw [e0] at hcond; simp at hcond
    · exact e0
  have r1 := Nat.le_of_ble_eq_true hroom.2.1
  have r2 := Nat.le_of_ble_eq_true hroom.2.2
  have r3 : n * i.bytes ≤ 4294967296 * 4096 := Nat.mul_le_mul r1 r2
  simp only [zeroOf, Option.bind_eq_bind, Option.bind_eq_some_iff] at hz
  obtain ⟨i', hi', zv, hzv, hz⟩ := hz
  rw [hi] at hi'; cases hi'
  have hzr := cells_rel hzc (ofV_rel (M0 := M0) (w := w) (μ := μ) _ _ _ hz)
  have hzs : zv.cells.size = i.size := by have := hzr.length; simp only [Array.length_toList] at this; omega
  have hrun := Lib.run_append_nil_zeros (P := E.P) w t u o.type e i zv kn k hu hn hi hzv n hn0 hs0 (by omega) (by omega)
  have hge := grownCap_ge w n 0 e
  have hz0 := zero_rep hzr n i.size hzl (n * i.size) rfl
  let w1 : World := w.drew
  have hw1 : Rel E M0 w0 N μ a w1 x := h.world rfl
  let arr := Builtin.zeroCells zv.cells n ++ Builtin.zeroCells zv.cells (grownCap w n 0 e - n)
  have hlen : (rep n zc).length = n * i.size := by simp [rep, hzl]
  have hzc1 : (Builtin.zeroCells zv.cells n).size = n * i.size := by simp [Builtin.zeroCells, hzs]
  have hsz : arr.size = grownCap w n 0 e * i.size := by
    simp only [arr, Array.size_append, hzc1]
    rw [show (Builtin.zeroCells zv.cells (grownCap w n 0 e - n)).size = (grownCap w n 0 e - n) * i.size by simp [Builtin.zeroCells, hzs], ← Nat.add_mul]
    congr 1; omega
  obtain ⟨μ', hR, hx, hm, hmle, hf⟩ := new_grow hw1 (cs := rep n zc) (vs := arr) (by rw [hlen, hsz]; exact Nat.mul_le_mul_right _ hge) (e := e) (fz := (0, 0)) (by
    have : arr.toList.take (rep n zc).length = (Builtin.zeroCells zv.cells n).toList := by
      rw [Array.toList_append, List.take_left' (by rw [Array.length_toList, hzc1, hlen])]
    rw [this]
    have e1 : Builtin.zeroCells zv.cells n = (Array.range (n * i.size)).map fun j => zv.cells[j % zv.cells.size]! := by simp only [Builtin.zeroCells, hzs]
    rw [e1]
    exact VRels.mono (show Ext (Mm M0 μ) w (Mm M0 μ) w1 from ⟨Nat.le_refl _, fun _ _ _ => rfl, fun _ _ hm => hm⟩) _ _ (muLe.refl _) hz0) (thaw0 _) (ty := 0) (fun k hk => by first | exact Nat.add_right_cancel hk | exact absurd hk.symm (Nat.succ_ne_zero k)) (w' := w.drew.alloc (.cells arr e)) rfl
  refine ⟨.slice (some ⟨w.heap.size, 0, none⟩) n (grownCap w n 0 e), _, μ', .inl ?_, ?_, hR, ⟨hf.size, hf.same, hf.live, hf.mu, hf.cle, hf.kept, hf.new⟩⟩
  · obtain ⟨cs, hrb⟩ := run_builtin0 (P := E.P) (ρ := a.eval) ho hcal w
    rw [hrb]
    have hat : cc.argTypes = #[t, u] := by apply Array.ext'; simp [hts]
    rw [hvs, hat]
    exact run_value hrun
  · simp only [VRel]
    exact ⟨_, _, hm, rfl, hge, by simp [hsz], fun hn => by cases hn⟩
theorem ext_mnz (h : Rel E M0 w0 N μ a w x) {o : Oper} {cc : Call} {f : Nat} (ho : o.op = .call cc) (hcal : cc.callee = .value (.func f)) {as : List Arg} (hl : cArgs cc.args = some as) (hrow : isRow E.P f "internal/bytealg.MakeNoZero" = true)
    {fn : Func} (hf : E.P.funcs[f]? = some fn) {t e : TypeId} (hr : fn.resultTypes.toList = [t]) (hu : E.P.underlying t = some (.slice e)) {d : D} {x' : AS}
    (hs : step E.G (.xa (.mnz (e + 1)) as) x = some (d, x')) : gd E M0 w0 N μ w x a d x' w (execOp a.eval o) := by
  have hv := args_x h hl
  simp only [step_xa, st_xa, Option.map_eq_some_iff, Prod.mk.injEq] at hs
  obtain ⟨⟨d', s', c'⟩, hk, rfl, rfl⟩ := hs
  generalize as.map (·.ev E.G x.t) = l at hk hv
  unfold xact at hk
  split at hk
  all_goals try contradiction
  rename_i ty n hke
  cases hke
  obtain ⟨v, hvs, g1⟩ := vals1 hv
  simp only [VRel] at g1
  subst g1
  cases hle : Nat.ble n 4294967296 <;> rw [hle] at hk
  · cases hk
  have hle' := Nat.le_of_ble_eq_true hle
  simp only [cond_true, Option.some.injEq, Prod.mk.injEq] at hk
  obtain ⟨rfl, rfl, rfl⟩ := hk
  have hrt : fn.resultTypes = #[t] := by apply Array.ext'; simp [hr]
  obtain ⟨cs, hrun, hge, _⟩ := Lib.run_makeNoZero (P := E.P) w fn.params t e hu n (by omega)
  let w1 : World := w.drew.drew
  have hw1 : Rel E M0 w0 N μ a w1 x := h.world rfl
  obtain ⟨μ', hR, hx, hm, hmle, hfr⟩ := new_grow hw1 (cs := []) (vs := cs) (Nat.zero_le _) VRels.nil (e := e) (fz := (0, 0)) (thaw0 _) (ty := e + 1) (fun k hk => by first | exact Nat.add_right_cancel hk | exact absurd hk.symm (Nat.succ_ne_zero k)) (w' := w.drew.drew.alloc (.cells cs e)) rfl
  refine ⟨.slice (some ⟨w.heap.size, 0, none⟩) n cs.size, _, μ', .inl ?_, ?_, hR, ⟨hfr.size, hfr.same, hfr.live, hfr.mu, hfr.cle, hfr.kept, hfr.new⟩⟩
  · rw [run_row_op ho hcal rfl, hvs]
    unfold isRow at hrow
    rw [hf] at hrow
    simp only [Bool.and_eq_true, Bool.not_eq_true', beq_iff_eq, Option.isNone_iff_eq_none] at hrow
    obtain ⟨h1, h2, h3, h4⟩ := hrow
    have hfind : Extern.find fn = some (Extern.BytealgMakeNoZero.makeNoZero fn.params fn.resultTypes) := find_mnz h2
    rw [run_callFunc_extern hf h4 (by rw [h1]; rfl) h3 hfind, hrt]
    have hrun' : (Extern.BytealgMakeNoZero.makeNoZero fn.params #[t] #[.int .i64 (Int.ofNat n)]).run E.P w = _ := hrun
    rw [hrun']
    rfl
  · simp only [VRel]
    exact ⟨_, cs.size, hm, rfl, hge, by simp, fun hn => by cases hn⟩
theorem Rel.kill0 (h : Rel E M0 w0 N μ a w x) (nm : Nat) (l : Loc) (b : Nat) {w' : World} {x' : AS} (hl : μ nm = some l) (hlb : l.blk = some b) (hlive : (sget x.s nm).isSome = true)
    (hsz : w'.heap.size = w.heap.size) (hheap : ∀ k, k ≠ b → w'.heap[k]? = w.heap[k]?)
    (ht : ∀ n, tget x'.t n = tget x.t n) (hs : ∀ n, sget x'.s n = if n = nm then none else sget x.s n) (hc : x'.c = x.c) (hd : x'.d = x.d)
    (he : Env0 w w' := by exact ⟨rfl, rfl⟩) : Ext (Mm M0 μ) w (Mm M0 μ) w' ∧ Rel E M0 w0 N μ a w' x' ∧ Fr x.c x.s μ w x'.c x'.s μ w' := by
  have hM := h.isM hl hlb
  have hx : Ext (Mm M0 μ) w (Mm M0 μ) w' := ⟨by omega, fun k _ hk => hheap k fun e => hk (e ▸ hM), fun _ _ hm => hm⟩
  have hi : ∀ n, (sget x'.s n).isSome = true → (sget x.s n).isSome = true := fun n hn => by
    rw [hs] at hn
    by_cases e : n = nm
    · rw [if_pos e] at hn; cases hn
    · rwa [if_neg e] at hn
  refine ⟨hx, { h with
    size := by have := h.size; omega
    old := fun k hk => by rw [hheap k fun e => by have := h.own nm l b hl hlb; omega]; exact h.old k hk
    env := ⟨he.1.trans h.env.1, he.2.trans h.env.2⟩
    defers := by rw [hd]; exact DfRel.mono hx (muLe.refl _) h.defers
    tm := fun n => by rw [ht]; exact VRel.mono hx _ _ (muLe.refl _) (h.tm n)
    own := fun nm l b h1 h2 => by rw [hsz]; exact h.own nm l b h1 h2
    lt := fun nm l hl => by rw [hc]; exact h.lt nm l hl
    inj := fun n m l l' b s1 s2 => h.inj n m l l' b (hi n s1) (hi m s2)
    st := fun k bk lk hlk hk => by
      rw [hs] at hk
      by_cases hkn : k = nm
      · rw [if_pos hkn] at hk; cases hk
      · rw [if_neg hkn] at hk
        refine BRel.mono hx (muLe.refl _) (fun l' b' hl' hlb' => ⟨hheap b' fun e => ?_, id⟩) (h.st k bk lk hlk hk)
        subst e
        exact hkn (h.inj k nm l' l b' (by rw [hk]; rfl) hlive hl' hl hlb' hlb) },
    ⟨by omega, fun k hk hn => hheap k fun e => hn (e ▸ ⟨nm, l, hlive, hl, hlb⟩), fun k _ ⟨n, l, h1, h2, h3⟩ => ⟨n, l, hi n h1, h2, h3⟩, muLe.refl μ, by rw [hc]; exact Nat.le_refl _, fun _ _ h => h, nonew⟩⟩
theorem ext_ust (h : Rel E M0 w0 N μ a w x) {o : Oper} {cc : Call} (ho : o.op = .call cc) (hcal : cc.callee = .builtin .unsafeString) {as : List Arg} (hl : cArgs cc.args = some as) {pt it e : TypeId} (hts : cc.argTypes.toList = [pt, it])
    (hu : E.P.underlying pt = some (.pointer e)) (he1 : Nat.beq (E.P.cellsOf e) 1 = true) {d : D} {x' : AS}
    (hs : step E.G (.xa (.ust (e + 1)) as) x = some (d, x')) : gd E M0 w0 N μ w x a d x' w (execOp a.eval o) := by
  obtain ⟨cs0, hrb⟩ := run_builtin0 (P := E.P) (ρ := a.eval) ho hcal w
  unfold gd
  rw [hrb]
  have hat : cc.argTypes = #[pt, it] := by apply Array.ext'; simp [hts]
  have hce := Nat.eq_of_beq_eq_true he1
  have hv := args_x h hl
  simp only [step_xa, st_xa, Option.map_eq_some_iff, Prod.mk.injEq] at hs
  obtain ⟨⟨d', s', c'⟩, hk, rfl, rfl⟩ := hs
  generalize as.map (·.ev E.G x.t) = l at hk hv
  unfold xact at hk
  split at hk
  all_goals try contradiction
  · cases hk
    obtain ⟨v, u, hvs, g1, g2⟩ := vals2 hv
    simp only [VRel] at g1 g2
    subst g1 g2
    rw [hvs, hat]
    exact Good.of h (run_value (Lib.run_unsafeString_none _ _ _ _ _)) (by simp only [VRel]; rfl)
  · cases hk
    obtain ⟨v, u, hvs, g1, g2⟩ := vals2 hv
    simp only [VRel] at g1 g2
    obtain ⟨loc, b, _, _, rfl⟩ := g1
    subst g2
    rw [hvs, hat]
    exact Good.of h (run_value (Lib.run_unsafeString_none _ _ _ _ _)) (by simp only [VRel]; rfl)
  · rename_i ty nm n hke
    cases hke
    obtain ⟨v, u, hvs, g1, g2⟩ := vals2 hv
    simp only [VRel] at g1 g2
    obtain ⟨loc, b, k1, k2, rfl⟩ := g1
    subst g2
    split at hk
    · rename_i t0 cs hg
      cases hc : (Nat.beq t0 (e + 1) && (Nat.ble (n + 1) cs.length && Nat.ble (n + 1) 4294967296)) <;> rw [hc] at hk
      · cases hk
      simp only [Bool.and_eq_true] at hc
      have c1 := Nat.eq_of_beq_eq_true hc.1
      have c2 := Nat.le_of_ble_eq_true hc.2.1
      have c3 := Nat.le_of_ble_eq_true hc.2.2
      simp only [cond_true, Option.map_eq_some_iff, Prod.mk.injEq] at hk
      obtain ⟨bs, hbs, rfl, rfl, rfl⟩ := hk
      obtain ⟨l', g1, hh⟩ := h.st nm _ loc k1 hg
      rw [k1] at g1; cases g1
      rcases hh with ⟨g2, _⟩ | ⟨b', vs, ee, fz, g2, g4, g5, g6, g7, g8, g9, g10⟩
      · rw [k2] at g2; cases g2
      rw [k2] at g2; cases g2
      have := g10 e c1
      subst this
      obtain ⟨m1, m2⟩ := mapM_rel hbs
      have hbl : bs.length = n + 1 := by rw [m1]; simp; omega
      have hsh : w.shape? b = some (ee, vs.size) := by simp [World.shape?, g5]
      have hcell : ∀ j y, bs[j]? = some y → w.cell? ((⟨b, 0, none⟩ : Addr).add j) = some (.int .u8 y.toNat) := by
        intro j y hy
        have hj : j < n + 1 := by
          rw [List.getElem?_eq_some_iff] at hy; obtain ⟨hj, _⟩ := hy; omega
        have hcj : (cs.take (n + 1))[j]? = some (cs[j]'(by omega)) := by
          rw [List.getElem?_take, if_pos hj, List.getElem?_eq_getElem (by omega)]
        have hby := m2 j _ _ hcj hy
        have hlen := g9.length
        simp only [List.length_take, Array.length_toList] at hlen
        have hvj : (vs.toList.take cs.length)[j]? = some (vs[j]'(by omega)) := by
          rw [List.getElem?_take, if_pos (by omega)]
          simp [List.getElem?_eq_getElem]
        have hrel := g9.at (List.getElem?_eq_getElem (by omega : j < cs.length)) hvj
        generalize cs[j]'(by omega) = dj at hby hrel
        have hval : vs[j]'(by omega) = .int .u8 y.toNat := by
          unfold byteX at hby
          split at hby
          · rename_i m
            cases hm : Nat.blt m 256 <;> rw [hm] at hby
            · cases hby
            simp only [cond_true, Option.some.injEq] at hby
            subst hby
            simp only [VRel] at hrel
            rw [hrel]
            have hm' : m < 256 := by simpa [Nat.blt_eq] using hm
            simp only [UInt8.toNat_ofNat', Value.int.injEq, true_and]
            rw [Nat.mod_eq_of_lt (by simpa using hm')]
            rfl
          · cases hby
        rw [Addr.add_lit, Nat.zero_add]
        simp only [World.cell?, g5, Option.isSome_none, Bool.false_eq_true, if_false]
        rw [Array.getElem?_eq_getElem (by omega), hval]
      have hrun := Lib.run_unsafeString_row (P := E.P) w pt it o.type ee hu hce b vs.size hsh bs (fun e0 => by rw [e0] at hbl; simp at hbl) (by omega) (by omega) hcell
      obtain ⟨hx, hR, hf⟩ := h.kill0 nm loc b (w' := w.freeze ⟨b, 0, none⟩ bs.length) (x' := ⟨x.t, sdel x.s nm, x.c, x.d, x.r⟩) k1 k2 (by rw [hg]; rfl)
        (by unfold World.freeze; split <;> simp) (fun k hk => by
          unfold World.freeze
          split
          · rfl
          · simp only [Array.getElem?_modify]
            rw [if_neg (fun e => hk e.symm)]) (fun _ => rfl) (fun n => sget_sdel _ _ _) rfl rfl (by unfold World.freeze; split <;> exact ⟨rfl, rfl⟩)
      rw [hvs, hat]
      refine ⟨.string ⟨bs.toArray⟩, _, μ, .inl (run_value ?_), ?_, hR, hf⟩
      · have : (Int.ofNat (n + 1)) = ((bs.length : Nat) : Int) := by rw [hbl]; rfl
        rw [this]
        exact hrun
      · simp only [VRel]
    · cases hk
theorem row_sound (h : Rel E M0 w0 N μ a w x) {o : Oper} {c : Call} {f : Nat} (ho : o.op = .call c) (hcal : c.callee = .value (.func f)) {ao : AOp} (hc : cRow E.P f c.args = some ao) {d : D} {x' : AS} (hs : step E.G ao x = some (d, x')) :
    gd E M0 w0 N μ w x a d x' w (execOp a.eval o) := by
  unfold cRow at hc
  cases h1 : isRow E.P f "internal/bytealg.IndexByteString" <;> rw [h1] at hc
  rotate_left
  · simp only [cond_true, Option.map_eq_some_iff] at hc
    obtain ⟨as, hl, rfl⟩ := hc
    exact look_row h ho hcal hl h1 (fun fn => find_idb) hs fun l vs hk hv => xl_idb hk hv
  simp only [cond_false] at hc
  cases h2 : isRow E.P f "internal/bytealg.CountString" <;> rw [h2] at hc
  rotate_left
  · simp only [cond_true, Option.map_eq_some_iff] at hc
    obtain ⟨as, hl, rfl⟩ := hc
    exact look_row h ho hcal hl h2 (fun fn => find_ctb) hs fun l vs hk hv => xl_ctb hk hv
  simp only [cond_false] at hc
  cases h3 : isRow E.P f "internal/abi.NoEscape" <;> rw [h3] at hc
  rotate_left
  · simp only [cond_true, Option.map_eq_some_iff] at hc
    obtain ⟨as, hl, rfl⟩ := hc
    exact look_row h ho hcal hl h3 (fun fn => find_idn) hs fun l vs hk hv => xl_idn hk hv
  simp only [cond_false] at hc
  cases h4 : isRow E.P f "internal/bytealg.MakeNoZero" <;> rw [h4] at hc
  · cases hc
  simp only [cond_true] at hc
  split at hc
  · rename_i fn hf
    split at hc
    · rename_i t hr
      split at hc
      · rename_i e hu
        simp only [Option.map_eq_some_iff] at hc
        obtain ⟨as, hl, rfl⟩ := hc
        exact ext_mnz h ho hcal hl h4 hf hr hu hs
      · cases hc
    · cases hc
  · cases hc
theorem ext_sound (h : Rel E M0 w0 N μ a w x) {o : Oper} {ao : AOp} (hc : cExt E.P o = some ao) {d : D} {x' : AS} (hs : step E.G ao x = some (d, x')) :
    gd E M0 w0 N μ w x a d x' w (execOp a.eval o) := by
  unfold cExt at hc
  split at hc
  · rename_i s t y ho
    simp only [execOp, ho]
    split at hc
    · rename_i td hu hd
      simp only [Option.bind_eq_bind, Option.bind_eq_some_iff] at hc
      obtain ⟨i, hi, hc⟩ := hc
      cases hz : Nat.beq i.size 0 <;> rw [hz] at hc
      · simp only [cond_false, Option.map_eq_some_iff] at hc
        obtain ⟨ar, h2, rfl⟩ := hc
        exact ext_upt h hu hd hi hz h2 hs
      · cases hc
    · rename_i u hu hd
      simp only [Option.bind_eq_bind, Option.bind_eq_some_iff] at hc
      obtain ⟨i, hi, hc⟩ := hc
      cases hz : liesAt E.P E.P.depth u (i.size / E.P.cellsOf u) 0 u 1 <;> rw [hz] at hc
      · cases hc
      · simp only [cond_true, Option.map_eq_some_iff] at hc
        obtain ⟨ar, h2, rfl⟩ := hc
        exact ext_ufp h hu hd hi hz h2 hs
    · cases hc
  · rename_i op t y z t' ho
    simp only [execOp, ho]
    split at hc
    · rename_i e hu
      simp only [Option.bind_eq_bind, Option.bind_eq_some_iff] at hc
      obtain ⟨i, hi, ar, h2, pr, h3, hc⟩ := hc
      split at hc
      · cases hc; exact ext_peq (neg := false) h hu hi h2 h3 hs
      · cases hc; exact ext_peq (neg := true) h hu hi h2 h3 hs
      · cases hc
    · cases hc
  · rename_i c ho
    split at hc
    · rename_i f hcal
      exact row_sound h ho hcal hc hs
    · rename_i hcal
      split at hc
      · rename_i t u hts
        split at hc
        · rename_i e k hu hn
          exact ext_apz h ho hcal hts hu hn hc hs
        · cases hc
      · cases hc
    · rename_i hcal
      simp only [Option.map_eq_some_iff] at hc
      obtain ⟨as, hl, rfl⟩ := hc
      exact ext_sda h ho hcal hl hs
    · rename_i hcal
      split at hc
      · rename_i t u hts
        split at hc
        · rename_i e hu
          cases he : Nat.beq (E.P.cellsOf e) 1 <;> rw [he] at hc
          · cases hc
          simp only [cond_true, Option.map_eq_some_iff] at hc
          obtain ⟨as, hl, rfl⟩ := hc
          exact ext_ust h ho hcal hl hts hu he hs
        · cases hc
      · cases hc
    · rename_i hcal
      cases hle : Nat.ble 3 c.args.size <;> rw [hle] at hc
      · cases hc
      simp only [cond_true, Option.map_eq_some_iff] at hc
      obtain ⟨as, hl, rfl⟩ := hc
      exact ext_mml (mx := false) h ho hcal hl hs
    · rename_i hcal
      cases hle : Nat.ble 3 c.args.size <;> rw [hle] at hc
      · cases hc
      simp only [cond_true, Option.map_eq_some_iff] at hc
      obtain ⟨as, hl, rfl⟩ := hc
      exact ext_mml (mx := true) h ho hcal hl hs
    · cases hc
  · cases hc
end
theorem cRow_kind {P : Program} {f : Nat} {as : Array Operand} {op : AOp} (h : cRow P f as = some op) : (∃ k l, op = .xl k l) ∨ ∃ k l, op = .xa k l := by
  unfold cRow at h
  repeat' (first | contradiction | (split at h) | (simp only [Option.map_eq_some_iff, cond_eq_ite] at h) | (obtain ⟨_, _, h⟩ := h) | (subst h; first | exact .inl ⟨_, _, rfl⟩ | exact .inr ⟨_, _, rfl⟩))
  all_goals first | exact .inl ⟨_, _, rfl⟩ | exact .inr ⟨_, _, rfl⟩
theorem cExt_kind {P : Program} {o : Oper} {op : AOp} (h : cExt P o = some op) : ((∃ k l, op = .xl k l) ∨ ∃ k l, op = .xa k l) ∧ ∀ c, o.op ≠ .defer c := by
  unfold cExt at h
  split at h
  · rename_i s t y ho
    refine ⟨?_, fun _ e => by rw [ho] at e; cases e⟩
    repeat' (first | contradiction | (split at h) | (simp only [Option.bind_eq_bind, Option.bind_eq_some_iff, Option.map_eq_some_iff, cond_eq_ite] at h) | (obtain ⟨_, _, h⟩ := h) | (subst h; first | exact .inl ⟨_, _, rfl⟩ | exact .inr ⟨_, _, rfl⟩))
    all_goals first | exact .inl ⟨_, _, rfl⟩ | exact .inr ⟨_, _, rfl⟩
  · rename_i op t y z t' ho
    refine ⟨?_, fun _ e => by rw [ho] at e; cases e⟩
    repeat' (first | contradiction | (split at h) | (cases h; first | exact .inl ⟨_, _, rfl⟩ | exact .inr ⟨_, _, rfl⟩) | (simp only [Option.bind_eq_bind, Option.bind_eq_some_iff, Option.map_eq_some_iff, cond_eq_ite] at h) | (obtain ⟨_, _, h⟩ := h))
    all_goals first | exact .inl ⟨_, _, rfl⟩ | exact .inr ⟨_, _, rfl⟩
  · rename_i c ho
    refine ⟨?_, fun _ e => by rw [ho] at e; cases e⟩
    repeat' (first | contradiction | exact cRow_kind h | (split at h) | (simp only [Option.bind_eq_bind, Option.bind_eq_some_iff, Option.map_eq_some_iff, cond_eq_ite] at h) | (obtain ⟨_, _, h⟩ := h) | (subst h; first | exact .inl ⟨_, _, rfl⟩ | exact .inr ⟨_, _, rfl⟩))
    all_goals first | exact .inl ⟨_, _, rfl⟩ | exact .inr ⟨_, _, rfl⟩
  · cases h
end Zv
namespace Zv
open Go
section
variable {E : Env} {M0 : Nat → Prop} {w0 : World} {N : Nat} {μ : Mu} {M : Nat → Prop} {a : Act} {w : World} {x : AS}
theorem op_builtin (h : Rel E M0 w0 N μ a w x) {o : Oper} {c : Call} {b : Builtin} (ho : o.op = .call c) (hb : c.callee = .builtin b) {ao : AOp} (hc : cOp0 E.P o = some ao) {d : D} {x' : AS}
    (hs : step E.G ao x = some (d, x')) : gd E M0 w0 N μ w x a d x' w (execOp a.eval o) := by
  unfold gd
  obtain ⟨cs, hrb⟩ := run_builtin0 (P := E.P) (ρ := a.eval) ho hb w
  rw [hrb]
  clear hrb
  simp only [cOp0, ho, hb] at hc
  obtain ⟨callee, args, ats⟩ := c
  obtain ⟨args⟩ := args
  obtain ⟨ats⟩ := ats
  simp only at hb hc ⊢
  have hm : (⟨args⟩ : Array Operand).map a.eval = ⟨args.map a.eval⟩ := by apply Array.ext'; simp
  rw [hm]
  clear hm ho
  subst hb
  split at hc
  · -- len
    rename_i y t
    split at hc
    · rename_i hu
      simp only [Option.bind_eq_bind, Option.bind_eq_some_iff, Option.some.injEq] at hc
      obtain ⟨ar, h2, rfl⟩ := hc
      exact op_len (ty := o.type) h h2 (by simpa using hu) hs
    · rename_i e hu
      simp only [Option.bind_eq_bind, Option.bind_eq_some_iff, Option.some.injEq] at hc
      obtain ⟨ar, h2, rfl⟩ := hc
      exact op_len (ty := o.type) h h2 (by simpa using ⟨e, hu⟩) hs
    · rename_i n e hu
      simp only [Option.some.injEq] at hc
      subst hc
      simp only [step_mv, st_mv, step_pick, st_pick, step_new, st_new, step_ld, st_ld, step_st, st_st, step_fa, st_fa, step_iaA, st_iaA, step_iaS, st_iaS, step_ixA, st_ixA, step_ixS, st_ixS, step_fld, st_fld, step_ext, st_ext, step_bin, st_bin, step_cmp, st_cmp, step_un, st_un, step_bld, st_bld, step_bsl, st_bsl, step_mks, st_mks, step_slS, st_slS, step_slV, st_slV, step_slA, st_slA, step_len, st_len, step_cap, st_cap, step_app, st_app, step_copy, st_copy, step_cvI, st_cvI, step_cvN, st_cvN, step_cvB, st_cvB, step_cvS, st_cvS, step_mkif, st_mkif, step_mkfn, st_mkfn, step_nilc, st_nilc, step_rng, st_rng, step_next, st_next, step_mm, st_mm, step_mkm, st_mkm, step_mlk, st_mlk, step_mup, st_mup, step_men, st_men, step_mst, st_mst, step_mln, st_mln, step_rgm, st_rgm, step_nxm, st_nxm, step_ent, st_ent, step_tas, st_tas, step_tai, st_tai, step_xl, st_xl, step_xa, st_xa, step_call, step_callv, step_inv, step_pan, step_dfr, step_rcv, Arg.ev, Option.some.injEq, Prod.mk.injEq] at hs
      obtain ⟨rfl, rfl⟩ := hs
      exact Good.of (v := .int .i64 n) h (run_value (by simp [Builtin.len_, run_underlying hu, goInt])) (by show VRel _ _ _ (.int .i64 n) _; simp only [VRel])
    · rename_i k e hu
      simp only [Option.bind_eq_bind, Option.bind_eq_some_iff, Option.some.injEq] at hc
      obtain ⟨ar, h2, rfl⟩ := hc
      exact op_mln (ty := o.type) h hu h2 hs
    · cases hc
  · -- cap
    rename_i y t
    split at hc
    · rename_i e hu
      simp only [Option.bind_eq_bind, Option.bind_eq_some_iff, Option.some.injEq] at hc
      obtain ⟨ar, h2, rfl⟩ := hc
      exact op_cap (ty := o.type) h hu h2 hs
    · cases hc
  · -- append
    rename_i y z t u
    split at hc
    · rename_i e e' hu hu'
      simp only [Option.bind_eq_bind, Option.bind_eq_some_iff] at hc
      obtain ⟨i, hi, j, hj, zv, hz, ar, h2, pr, h3, hc⟩ := hc
      cases hcond : (Nat.beq i.size j.size && !Nat.beq i.size 0 && Nat.beq zv.cells.size i.size)
      · rw [hcond] at hc; cases hc
      rw [hcond] at hc
      simp only [Bool.and_eq_true, Bool.not_eq_true'] at hcond
      simp only [cond_true, Option.some.injEq] at hc
      subst hc
      exact op_app h ⟨hu, .inl ⟨e', hu'⟩, hi, hz, Nat.eq_of_beq_eq_true hcond.2⟩ hcond.1.2 h2 h3 hs o.type
    · rename_i e hu hu'
      simp only [Option.bind_eq_bind, Option.bind_eq_some_iff] at hc
      obtain ⟨i, hi, zv, hz, ar, h2, pr, h3, hc⟩ := hc
      cases hcond : (Nat.beq i.size 1 && Nat.beq zv.cells.size 1) <;> rw [hcond] at hc
      · cases hc
      simp only [Bool.and_eq_true] at hcond
      have e1 := Nat.eq_of_beq_eq_true hcond.1
      have e2 := Nat.eq_of_beq_eq_true hcond.2
      simp only [cond_true, Option.some.injEq] at hc
      subst hc
      exact op_app h ⟨hu, .inr hu', hi, hz, by omega⟩ (by rw [e1]; rfl) h2 h3 hs o.type
    · cases hc
  · -- copy
    rename_i y z t u
    split at hc
    · rename_i e e' hu hu'
      simp only [Option.bind_eq_bind, Option.bind_eq_some_iff] at hc
      obtain ⟨i, hi, j, hj, ar, h2, pr, h3, hc⟩ := hc
      cases hcond : (Nat.beq i.size j.size) <;> rw [hcond] at hc
      · cases hc
      simp only [cond_true, Option.some.injEq] at hc
      subst hc
      exact op_copy (ty := o.type) h hu (by simp [szOf, hi]) h2 h3 hs
    · rename_i e hu hu'
      simp only [Option.bind_eq_bind, Option.bind_eq_some_iff] at hc
      obtain ⟨i, hi, ar, h2, pr, h3, hc⟩ := hc
      cases hcond : (Nat.beq i.size 1) <;> rw [hcond] at hc
      · cases hc
      have e1 := Nat.eq_of_beq_eq_true hcond
      simp only [cond_true, Option.some.injEq] at hc
      subst hc
      exact op_copy (ty := o.type) h hu (by simp [szOf, hi, e1]) h2 h3 hs
    · cases hc
  · -- min
    simp only [Option.bind_eq_bind, Option.bind_eq_some_iff, Option.some.injEq] at hc
    obtain ⟨ar, h2, pr, h3, rfl⟩ := hc
    exact op_mm (mx := false) (ts := ⟨ats⟩) (ty := o.type) h h2 h3 hs
  · -- max
    simp only [Option.bind_eq_bind, Option.bind_eq_some_iff, Option.some.injEq] at hc
    obtain ⟨ar, h2, pr, h3, rfl⟩ := hc
    exact op_mm (mx := true) (ts := ⟨ats⟩) (ty := o.type) h h2 h3 hs
  · cases hc
    simp only [step_rcv, reduceCtorEq] at hs
  · cases hc
theorem op_sound0 (h : Rel E M0 w0 N μ a w x) {o : Oper} {ao : AOp} (hc : cOp0 E.P o = some ao) {d : D} {x' : AS} (hs : step E.G ao x = some (d, x')) :
    gd E M0 w0 N μ w x a d x' w (execOp a.eval o) := by
  have hcase : ∀ op, o.op = op → gd E M0 w0 N μ w x a d x' w (execOp a.eval o) := by
    intro op ho
    have hc' := hc
    simp only [cOp0, ho] at hc
    cases op <;> (try simp only [reduceCtorEq] at hc)
    case move y =>
      simp only [Option.bind_eq_bind, Option.bind_eq_some_iff, Option.some.injEq] at hc
      obtain ⟨ar, h2, rfl⟩ := hc
      simp only [execOp, ho]; exact op_mv h h2 hs
    case assign y =>
      simp only [Option.bind_eq_bind, Option.bind_eq_some_iff, Option.some.injEq] at hc
      obtain ⟨ar, h2, rfl⟩ := hc
      simp only [execOp, ho]; exact op_mv h h2 hs
    case pick c p q =>
      simp only [Option.bind_eq_bind, Option.bind_eq_some_iff, Option.some.injEq] at hc
      obtain ⟨c', h1, p', h2, q', h3, rfl⟩ := hc
      simp only [execOp, ho]; exact op_pick h h1 h2 h3 hs
    case alloc t =>
      simp only [Option.bind_eq_bind, Option.bind_eq_some_iff, Option.some.injEq] at hc
      obtain ⟨zd, hz, rfl⟩ := hc
      simp only [zeroOf, Option.bind_eq_bind, Option.bind_eq_some_iff] at hz
      obtain ⟨i, hi, v, hv, hz⟩ := hz
      simp only [execOp, ho]
      refine op_new (v := v) (e := t) h (by simp only [Arg.ev]; exact ofV_rel _ _ _ hz) hs ?_
      simp [Instr.alloc, zeroValue, run_typeInfo' hi, hv, newVar, newRow]
    case box t y =>
      simp only [Option.bind_eq_bind, Option.bind_eq_some_iff, Option.some.injEq] at hc
      obtain ⟨ar, h2, rfl⟩ := hc
      simp only [execOp, ho]
      refine op_new (v := a.eval y) (e := t) h (arg_rel h h2) hs ?_
      simp [Instr.box, newVar, newRow]
    case build t ps =>
      simp only [Option.bind_eq_bind, Option.bind_eq_some_iff] at hc
      obtain ⟨zd, hz, cells, hcl, hc⟩ := hc
      simp only [execOp, ho]
      split at hc
      · rename_i fs hu
        simp only [Option.bind_eq_some_iff] at hc
        obtain ⟨l, hl, hc⟩ := hc
        cases hall : (fs.all fun f => (E.P.info? f.type).isSome) <;> rw [hall] at hc
        · cases hc
        simp only [cond_true, Option.some.injEq] at hc
        subst hc
        exact op_bld_struct h hz hcl hu hl hall hs
      · rename_i n e hu
        simp only [Option.bind_eq_some_iff, Option.some.injEq] at hc
        obtain ⟨s, hsz, l, hl, rfl⟩ := hc
        exact op_bld_array h hz hcl hu hsz hl hs
      · cases hc
    case buildSlice t len ps =>
      simp only [execOp, ho]
      split at hc
      · rename_i e hu
        simp only [Option.bind_eq_bind, Option.bind_eq_some_iff] at hc
        obtain ⟨s, hsz, zd, hz, l, hl, zc, hzc, hc⟩ := hc
        cases hcond : (Nat.ble (len * s) 16777216 && Nat.beq zc.length s) <;> rw [hcond] at hc
        · cases hc
        simp only [Bool.and_eq_true] at hcond
        simp only [cond_true, Option.some.injEq] at hc
        subst hc
        exact op_bsl h hu hsz hz hzc hcond.1 hcond.2 hl hs
      · cases hc
    case load t y =>
      simp only [Option.bind_eq_bind, Option.bind_eq_some_iff, Option.some.injEq] at hc
      obtain ⟨sz, h1, ar, h2, rfl⟩ := hc
      simp only [execOp, ho]; exact op_ld h h1 h2 hs
    case store t y v =>
      simp only [Option.bind_eq_bind, Option.bind_eq_some_iff, Option.some.injEq] at hc
      obtain ⟨n, h1, ar, h2, pr, h3, rfl⟩ := hc
      simp only [execOp, ho]; exact op_st h h1 h2 h3 hs
    case nilCheck y =>
      simp only [Option.bind_eq_bind, Option.bind_eq_some_iff, Option.some.injEq] at hc
      obtain ⟨ar, h2, rfl⟩ := hc
      exact op_nilc h ho h2 hs
    case binOp op t y z t' =>
      simp only [execOp, ho]
      cases hn : isNumT E.P t <;> rw [hn] at hc
      · simp only [cond_false] at hc
        cases op <;> simp only [reduceCtorEq] at hc
        · simp only [Option.bind_eq_bind, Option.bind_eq_some_iff, Option.some.injEq] at hc
          obtain ⟨k, hk, ar, h2, pr, h3, rfl⟩ := hc
          exact op_cmp (neg := false) h hk h2 h3 hs
        · simp only [Option.bind_eq_bind, Option.bind_eq_some_iff, Option.some.injEq] at hc
          obtain ⟨k, hk, ar, h2, pr, h3, rfl⟩ := hc
          exact op_cmp (neg := true) h hk h2 h3 hs
      · simp only [cond_true, Option.bind_eq_bind, Option.bind_eq_some_iff, Option.some.injEq] at hc
        obtain ⟨ar, h2, pr, h3, rfl⟩ := hc
        exact op_bin h h2 h3 hs
    case unOp op t y =>
      simp only [Option.bind_eq_bind, Option.bind_eq_some_iff, Option.some.injEq] at hc
      obtain ⟨ar, h2, rfl⟩ := hc
      simp only [execOp, ho]; exact op_un h h2 hs
    case convert s t y =>
      simp only [execOp, ho]
      split at hc
      · rename_i k k' hu hd
        simp only [Option.bind_eq_bind, Option.bind_eq_some_iff, Option.some.injEq] at hc
        obtain ⟨ar, h2, rfl⟩ := hc
        exact op_cvI h hu hd h2 hs
      · rename_i k hu hd
        simp only [Option.bind_eq_bind, Option.bind_eq_some_iff, Option.some.injEq] at hc
        obtain ⟨ar, h2, rfl⟩ := hc
        exact op_cvN h hu hd (.inl ⟨k, rfl⟩) h2 hs
      · rename_i hu hd
        simp only [Option.bind_eq_bind, Option.bind_eq_some_iff, Option.some.injEq] at hc
        obtain ⟨ar, h2, rfl⟩ := hc
        exact op_cvN h hu hd (.inr rfl) h2 hs
      · rename_i e hu hd
        split at hc
        · rename_i he
          cases hcond : (E.P.cellsOf e == 1) <;> rw [hcond] at hc
          · cases hc
          simp only [cond_true, Option.bind_eq_bind, Option.bind_eq_some_iff, Option.some.injEq] at hc
          obtain ⟨ar, h2, rfl⟩ := hc
          exact op_cvB h hu hd he h2 hs
        · cases hc
      · rename_i e hu hd
        split at hc
        · rename_i he
          simp only [Option.bind_eq_bind, Option.bind_eq_some_iff, Option.some.injEq] at hc
          obtain ⟨ar, h2, rfl⟩ := hc
          exact op_cvS h hu hd he h2 hs
        · cases hc
      · cases hc
    case makeInterface t y =>
      simp only [execOp, ho]
      split at hc
      · cases hc
      · rename_i ds hn hu
        simp only [Option.bind_eq_bind, Option.bind_eq_some_iff, Option.some.injEq] at hc
        obtain ⟨ar, h2, rfl⟩ := hc
        exact op_mkif h hu (fun ms e => hn ms e) h2 hs
      · cases hc
    case makeFunc f p q =>
      simp only [Option.bind_eq_bind, Option.bind_eq_some_iff, Option.some.injEq] at hc
      obtain ⟨p', h2, q', h3, rfl⟩ := hc
      simp only [execOp, ho]; exact op_mkfn h h2 h3 hs
    case makeSlice t l c =>
      simp only [execOp, ho]
      split at hc
      · rename_i e hu
        simp only [Option.bind_eq_bind, Option.bind_eq_some_iff] at hc
        obtain ⟨i, hi, zd, hz, zc, hzc, lr, h2, cr, h3, hc⟩ := hc
        cases hcond : (Nat.beq zc.length i.size) <;> rw [hcond] at hc
        · cases hc
        simp only [cond_true, Option.some.injEq] at hc
        subst hc
        exact op_mks h hu hi hz hzc hcond h2 h3 hs
      · cases hc
    case slice t y l hi m =>
      simp only [execOp, ho]
      split at hc
      · rename_i hu
        cases m with
        | none =>
          simp only [Option.bind_eq_bind, Option.bind_eq_some_iff, Option.some.injEq] at hc
          obtain ⟨ar, h2, l', hl, h', hh, rfl⟩ := hc
          exact op_slS h hu h2 hl hh hs
        | some m => cases hc
      · rename_i e hu
        simp only [Option.bind_eq_bind, Option.bind_eq_some_iff] at hc
        obtain ⟨s, hsz, hc⟩ := hc
        split at hc
        · cases hc
        · rename_i hno
          simp only [Option.bind_eq_some_iff, Option.some.injEq] at hc
          obtain ⟨ar, h2, l', hl, h', hh, m', hm, rfl⟩ := hc
          refine op_slV h hu hsz h2 hl hh hm ?_ hs
          rintro ⟨rfl, hm'⟩
          have e1 := cArgO_none hh
          cases m with
          | none => simp [cArgO] at hm; exact hm' hm.symm
          | some m => exact hno m e1 rfl
      · rename_i n e hu
        simp only [Option.bind_eq_bind, Option.bind_eq_some_iff] at hc
        obtain ⟨s, hsz, hc⟩ := hc
        split at hc
        · cases hc
        · rename_i hno
          simp only [Option.bind_eq_some_iff, Option.some.injEq] at hc
          obtain ⟨ar, h2, l', hl, h', hh, m', hm, rfl⟩ := hc
          refine op_slA h hu hsz h2 hl hh hm ?_ hs
          rintro ⟨rfl, hm'⟩
          have e1 := cArgO_none hh
          cases m with
          | none => simp [cArgO] at hm; exact hm' hm.symm
          | some m => exact hno m e1 rfl
      · cases hc
    case fieldAddr t y i =>
      simp only [execOp, ho]
      split at hc
      · rename_i fs hu
        simp only [Option.bind_eq_bind, Option.bind_eq_some_iff] at hc
        obtain ⟨f, hf, s, hsz, ar, h2, hc⟩ := hc
        cases hcond : Nat.beq s 0 <;> rw [hcond] at hc
        · simp only [cond_false, Option.some.injEq] at hc
          subst hc
          exact op_fa h hu hf hsz hcond h2 hs
        · cases hc
      · cases hc
    case field t y i =>
      simp only [execOp, ho]
      split at hc
      · rename_i fs hu
        simp only [Option.bind_eq_bind, Option.bind_eq_some_iff, Option.some.injEq] at hc
        obtain ⟨f, hf, sz, hsz, ar, h2, rfl⟩ := hc
        exact op_fld h hu hf hsz h2 hs
      · cases hc
    case indexAddr t y i =>
      simp only [execOp, ho]
      split at hc
      · rename_i n e hu
        simp only [Option.bind_eq_bind, Option.bind_eq_some_iff, Option.some.injEq] at hc
        obtain ⟨s, hsz, ar, h2, pr, h3, rfl⟩ := hc
        exact op_iaA h hu hsz h2 h3 hs
      · rename_i e hu
        simp only [Option.bind_eq_bind, Option.bind_eq_some_iff, Option.some.injEq] at hc
        obtain ⟨s, hsz, ar, h2, pr, h3, rfl⟩ := hc
        exact op_iaS h hu hsz h2 h3 hs
      · cases hc
    case index t y i =>
      simp only [execOp, ho]
      split at hc
      · rename_i n e hu
        simp only [Option.bind_eq_bind, Option.bind_eq_some_iff, Option.some.injEq] at hc
        obtain ⟨s, hsz, bb, hag, ar, h2, pr, h3, rfl⟩ := hc
        exact op_ixA h hu hsz hag h2 h3 hs
      · rename_i hu
        simp only [Option.bind_eq_bind, Option.bind_eq_some_iff, Option.some.injEq] at hc
        obtain ⟨ar, h2, pr, h3, rfl⟩ := hc
        exact op_ixS h hu h2 h3 hs
      · cases hc
    case range t y =>
      simp only [execOp, ho]
      split at hc
      · rename_i hu
        simp only [Option.bind_eq_bind, Option.bind_eq_some_iff, Option.some.injEq] at hc
        obtain ⟨ar, h2, rfl⟩ := hc
        exact op_rng h hu h2 hs
      · rename_i k e hu
        simp only [Option.bind_eq_bind, Option.bind_eq_some_iff, Option.some.injEq] at hc
        obtain ⟨ar, h2, rfl⟩ := hc
        exact op_rgm h hu h2 hs
      · cases hc
    case next y s =>
      simp only [execOp, ho]
      cases s
      · simp only [cond_false, Option.bind_eq_bind, Option.bind_eq_some_iff, Option.some.injEq] at hc
        obtain ⟨ar, h2, rfl⟩ := hc
        exact op_nxm h h2 hs
      · simp only [cond_true, Option.bind_eq_bind, Option.bind_eq_some_iff, Option.some.injEq] at hc
        obtain ⟨ar, h2, rfl⟩ := hc
        exact op_next h h2 hs
    case extract y i =>
      simp only [Option.bind_eq_bind, Option.bind_eq_some_iff, Option.some.injEq] at hc
      obtain ⟨ar, h2, rfl⟩ := hc
      simp only [execOp, ho]; exact op_ext h h2 hs
    case call c =>
      cases hcal : c.callee with
      | builtin b => exact op_builtin h ho hcal hc' hs
      | value f =>
        rw [hcal] at hc
        cases f with
        | func f =>
          simp only [Option.bind_eq_bind, Option.bind_eq_some_iff] at hc
          obtain ⟨fn, hfn, as, _, hc⟩ := hc
          cases hcond : (fn.name == "runtime.NumGoroutine" || fn.body.isNone) <;> rw [hcond] at hc
          · simp only [cond_false, Option.some.injEq] at hc
            subst hc
            simp [step_mv, st_mv, step_pick, st_pick, step_new, st_new, step_ld, st_ld, step_st, st_st, step_fa, st_fa, step_iaA, st_iaA, step_iaS, st_iaS, step_ixA, st_ixA, step_ixS, st_ixS, step_fld, st_fld, step_ext, st_ext, step_bin, st_bin, step_cmp, st_cmp, step_un, st_un, step_bld, st_bld, step_bsl, st_bsl, step_mks, st_mks, step_slS, st_slS, step_slV, st_slV, step_slA, st_slA, step_len, st_len, step_cap, st_cap, step_app, st_app, step_copy, st_copy, step_cvI, st_cvI, step_cvN, st_cvN, step_cvB, st_cvB, step_cvS, st_cvS, step_mkif, st_mkif, step_mkfn, st_mkfn, step_nilc, st_nilc, step_rng, st_rng, step_next, st_next, step_mm, st_mm, step_mkm, st_mkm, step_mlk, st_mlk, step_mup, st_mup, step_men, st_men, step_mst, st_mst, step_mln, st_mln, step_rgm, st_rgm, step_nxm, st_nxm, step_ent, st_ent, step_tas, st_tas, step_tai, st_tai, step_call, step_callv, step_inv, step_pan, step_dfr, step_rcv, step_xl, st_xl, step_xa, st_xa] at hs
          · cases hc
        | _ =>
          simp only [Option.bind_eq_bind, Option.bind_eq_some_iff, Option.some.injEq] at hc
          obtain ⟨ar, _, as, _, rfl⟩ := hc
          simp [step_mv, st_mv, step_pick, st_pick, step_new, st_new, step_ld, st_ld, step_st, st_st, step_fa, st_fa, step_iaA, st_iaA, step_iaS, st_iaS, step_ixA, st_ixA, step_ixS, st_ixS, step_fld, st_fld, step_ext, st_ext, step_bin, st_bin, step_cmp, st_cmp, step_un, st_un, step_bld, st_bld, step_bsl, st_bsl, step_mks, st_mks, step_slS, st_slS, step_slV, st_slV, step_slA, st_slA, step_len, st_len, step_cap, st_cap, step_app, st_app, step_copy, st_copy, step_cvI, st_cvI, step_cvN, st_cvN, step_cvB, st_cvB, step_cvS, st_cvS, step_mkif, st_mkif, step_mkfn, st_mkfn, step_nilc, st_nilc, step_rng, st_rng, step_next, st_next, step_mm, st_mm, step_mkm, st_mkm, step_mlk, st_mlk, step_mup, st_mup, step_men, st_men, step_mst, st_mst, step_mln, st_mln, step_rgm, st_rgm, step_nxm, st_nxm, step_ent, st_ent, step_tas, st_tas, step_tai, st_tai, step_call, step_callv, step_inv, step_pan, step_dfr, step_rcv, step_xl, st_xl, step_xa, st_xa] at hs
      | invoke r m =>
        rw [hcal] at hc
        simp only [Option.bind_eq_bind, Option.bind_eq_some_iff, Option.some.injEq] at hc
        obtain ⟨ar, _, as, _, rfl⟩ := hc
        simp only [step_inv, reduceCtorEq] at hs
    case panic y =>
      simp only [Option.bind_eq_bind, Option.bind_eq_some_iff, Option.some.injEq] at hc
      obtain ⟨ar, _, rfl⟩ := hc
      simp only [step_pan, reduceCtorEq] at hs
    case defer c =>
      split at hc
      · simp only [Option.bind_eq_bind, Option.bind_eq_some_iff, Option.some.injEq] at hc
        obtain ⟨ar, _, as, _, rfl⟩ := hc
        simp only [step_dfr, reduceCtorEq] at hs
      · cases hc
    case makeMap t r =>
      cases r with
      | none =>
        simp only [Option.some.injEq] at hc
        subst hc
        simp only [execOp, ho]
        exact op_mkm h hs
      | some r => simp only [reduceCtorEq] at hc
    case lookup t y i ok =>
      split at hc
      · rename_i k e hu
        simp only [Option.bind_eq_bind, Option.bind_eq_some_iff, Option.some.injEq] at hc
        obtain ⟨z, hz, kt, hk, ar, h2, pr, h3, rfl⟩ := hc
        simp only [execOp, ho]
        exact op_mlk h hu hz hk h2 h3 hs
      · cases hc
    case mapUpdate t y i v =>
      split at hc
      · rename_i k e hu
        simp only [Option.bind_eq_bind, Option.bind_eq_some_iff, Option.some.injEq] at hc
        obtain ⟨kt, hk, ar, h2, pr, h3, qr, h4, rfl⟩ := hc
        simp only [execOp, ho]
        exact op_mup h hu hk h2 h3 h4 hs
      · cases hc
    case insert t y i v =>
      split at hc
      · rename_i k e hu
        simp only [Option.bind_eq_bind, Option.bind_eq_some_iff, Option.some.injEq] at hc
        obtain ⟨kt, hk, ar, h2, pr, h3, qr, h4, rfl⟩ := hc
        simp only [execOp, ho]
        exact op_mup h hu hk h2 h3 h4 hs
      · cases hc
    case entry y =>
      simp only [Option.bind_eq_bind, Option.bind_eq_some_iff, Option.some.injEq] at hc
      obtain ⟨ar, h2, rfl⟩ := hc
      simp only [execOp, ho]
      exact op_ent h h2 hs
    case typeAssert y s t ok =>
      split at hc
      · cases hc
      · rename_i td hni hu
        simp only [Option.bind_eq_bind, Option.bind_eq_some_iff, Option.some.injEq] at hc
        obtain ⟨z, hz, ar, h2, rfl⟩ := hc
        simp only [execOp, ho]
        exact op_tas h hu (fun ms e => hni ms e) hz h2 hs
      · cases hc
  exact hcase o.op rfl
theorem op_sound (h : Rel E M0 w0 N μ a w x) {o : Oper} {ao : AOp} (hc : cOp E.P o = some ao) {d : D} {x' : AS} (hs : step E.G ao x = some (d, x')) :
    gd E M0 w0 N μ w x a d x' w (execOp a.eval o) := by
  unfold cOp at hc
  split at hc
  · rename_i op he
    cases hc
    exact ext_sound h he hs
  · exact op_sound0 h hc hs
end
end Zv
