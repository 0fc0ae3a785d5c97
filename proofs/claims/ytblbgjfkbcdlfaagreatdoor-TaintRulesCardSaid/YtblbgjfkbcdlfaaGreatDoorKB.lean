/- Laws of the relation between abstract values and the model's: how it stands as memory grows, as names go, as cells are read. Conditions: none. -/
import Derived.Test.YtblbgjfkbcdlfaaGreatDoorKA
import Derived.Laws.Entries
import Derived.Laws.Cells
import Derived.Laws.Strings
import Derived.Laws.StructEq
import Derived.BigFrame
set_option linter.unusedSimpArgs false
set_option linter.unusedVariables false
namespace Iv
open Go

/-- Memory has grown: what may be read stays as it was. -/
structure Ext (M : Nat → Prop) (w : World) (M' : Nat → Prop) (w' : World) : Prop where
  size : w.heap.size ≤ w'.heap.size
  same : ∀ b, b < w.heap.size → ¬ M b → w'.heap[b]? = w.heap[b]?
  less : ∀ b, b < w.heap.size → M' b → M b

theorem Ext.refl (M : Nat → Prop) (w : World) : Ext M w M w := ⟨Nat.le_refl _, fun _ _ _ => rfl, fun _ _ h => h⟩

theorem cell_of_heap {w w' : World} {b : Nat} (h : w'.heap[b]? = w.heap[b]?) (o : Nat) : w'.cell? ⟨b, o, none⟩ = w.cell? ⟨b, o, none⟩ := by
  simp only [World.cell?, h]

def muLe (μ μ' : Mu) : Prop := ∀ nm l, μ nm = some l → μ' nm = some l

theorem muLe.refl (μ : Mu) : muLe μ μ := fun _ _ h => h
theorem mu0_le (μ : Mu) : muLe mu0 μ := fun _ _ h => by simp [mu0] at h

section
variable {M M' : Nat → Prop} {w w' : World}

mutual
theorem VRel.mono (hx : Ext M w M' w') : ∀ {μ μ' : Mu} (d : D) (v : Value), muLe μ μ' → VRel M w μ d v → VRel M' w' μ' d v
  | _, _, .un, _, _, _ => by simp only [VRel]
  | _, _, .bool _, _, _, h => by simpa only [VRel] using h
  | _, _, .int _ _, _, _, h => by simpa only [VRel] using h
  | _, _, .str _, _, _, h => by simpa only [VRel] using h
  | _, _, .agg cs, _, hm, h => by
    simp only [VRel] at h ⊢
    obtain ⟨vs, rfl, h⟩ := h
    exact ⟨vs, rfl, VRels.mono hx cs _ hm h⟩
  | _, _, .tup cs, _, hm, h => by
    simp only [VRel] at h ⊢
    obtain ⟨vs, rfl, h⟩ := h
    exact ⟨vs, rfl, VRels.mono hx cs _ hm h⟩
  | _, _, .nils, _, _, h => by simpa only [VRel] using h
  | _, _, .sl ex len cs, _, _, h => by
    simp only [VRel] at h ⊢
    obtain ⟨a, cap, rfl, hl, he, h⟩ := h
    refine ⟨a, cap, rfl, hl, he, h.imp id ?_⟩
    rintro ⟨b, o, rfl, hb, hlt, hc⟩
    exact ⟨b, o, rfl, fun hn => hb (hx.less b hlt hn), Nat.lt_of_lt_of_le hlt hx.size, CRel.mono hx b hb hlt cs o hc⟩
  | _, _, .ms nm off sz len cap, _, hm, h => by
    simp only [VRel] at h ⊢
    obtain ⟨l, b, h1, h⟩ := h
    exact ⟨l, b, hm _ _ h1, h⟩
  | _, _, .gs nm off sz len, _, hm, h => by
    simp only [VRel] at h ⊢
    obtain ⟨l, b, h1, h⟩ := h
    exact ⟨l, b, hm _ _ h1, h⟩
  | _, _, .ptr nm off, _, hm, h => by
    simp only [VRel] at h ⊢
    obtain ⟨l, b, h1, h⟩ := h
    exact ⟨l, b, hm _ _ h1, h⟩
  | _, _, .iptr cs off, _, _, h => by
    simp only [VRel] at h ⊢
    obtain ⟨b, o, rfl, hb, hlt, hc⟩ := h
    exact ⟨b, o, rfl, fun hn => hb (hx.less b hlt hn), Nat.lt_of_lt_of_le hlt hx.size, CRel.mono hx b hb hlt cs o hc⟩
  | _, _, .nilp, _, _, h => by simpa only [VRel] using h
  | _, _, .iface t d, _, hm, h => by
    simp only [VRel] at h ⊢
    obtain ⟨x, rfl, h⟩ := h
    exact ⟨x, rfl, VRel.mono hx d x hm h⟩
  | _, _, .nilif, _, _, h => by simpa only [VRel] using h
  | _, _, .fn f a b, _, hm, h => by
    simp only [VRel] at h ⊢
    obtain ⟨va, vb, rfl, h1, h2⟩ := h
    exact ⟨va, vb, rfl, VRels.mono hx a _ hm h1, VRels.mono hx b _ hm h2⟩
  | _, _, .nilfn, _, _, h => by simpa only [VRel] using h
  | _, _, .nilm, _, _, h => by simpa only [VRel] using h
  | _, _, .it nm, _, hm, h => by
    simp only [VRel] at h ⊢
    obtain ⟨l, b, h1, h⟩ := h
    exact ⟨l, b, hm _ _ h1, h⟩
theorem VRels.mono (hx : Ext M w M' w') : ∀ {μ μ' : Mu} (ds : List D) (vs : List Value), muLe μ μ' → VRels M w μ ds vs → VRels M' w' μ' ds vs
  | _, _, [], _, _, h => by simpa only [VRels] using h
  | _, _, d :: ds, _, hm, h => by
    simp only [VRels] at h ⊢
    obtain ⟨v, r, rfl, h1, h2⟩ := h
    exact ⟨v, r, rfl, VRel.mono hx d v hm h1, VRels.mono hx ds r hm h2⟩
theorem CRel.mono (hx : Ext M w M' w') (b : Nat) (hb : ¬ M b) (hlt : b < w.heap.size) : ∀ (ds : List D) (o : Nat), CRel M w b o ds → CRel M' w' b o ds
  | [], _, _ => by simp only [CRel]
  | d :: ds, o, h => by
    simp only [CRel] at h ⊢
    obtain ⟨⟨v, hv, h1⟩, h2⟩ := h
    exact ⟨⟨v, by rw [cell_of_heap (hx.same b hlt hb)]; exact hv, VRel.mono hx d v (muLe.refl _) h1⟩, CRel.mono hx b hb hlt ds (o + 1) h2⟩
end
end

section
variable {M : Nat → Prop} {w : World}

/-- A name that goes: what does not refer to it stays. -/
def muBut (nm : Nat) (μ μ' : Mu) : Prop := ∀ n, n ≠ nm → μ' n = μ n

theorem beq_false_ne {n m : Nat} (h : Nat.beq n m = false) : n ≠ m := fun he => by subst he; simp at h

mutual
theorem VRel.kill (nm : Nat) : ∀ {μ μ' : Mu} (d : D) (v : Value), muBut nm μ μ' → VRel M w μ d v → VRel M w μ' (D.kill nm d) v
  | _, _, .un, _, _, _ => by simp only [D.kill, VRel]
  | _, _, .bool _, _, _, h => by simpa only [D.kill, VRel] using h
  | _, _, .int _ _, _, _, h => by simpa only [D.kill, VRel] using h
  | _, _, .str _, _, _, h => by simpa only [D.kill, VRel] using h
  | _, _, .agg cs, _, hm, h => by
    simp only [D.kill, VRel] at h ⊢
    obtain ⟨vs, rfl, h⟩ := h
    exact ⟨vs, rfl, VRels.kill nm cs _ hm h⟩
  | _, _, .tup cs, _, hm, h => by
    simp only [D.kill, VRel] at h ⊢
    obtain ⟨vs, rfl, h⟩ := h
    exact ⟨vs, rfl, VRels.kill nm cs _ hm h⟩
  | _, _, .nils, _, _, h => by simpa only [D.kill, VRel] using h
  | _, _, .sl ex len cs, _, _, h => by simpa only [D.kill, VRel] using h
  | _, _, .ms n off sz len cap, _, hm, h => by
    simp only [D.kill]
    cases hb : Nat.beq n nm
    · simp only [cond_false, VRel] at h ⊢
      rw [hm n (beq_false_ne hb)]; exact h
    · simp only [cond_true, VRel]
  | _, _, .gs n off sz len, _, hm, h => by
    simp only [D.kill]
    cases hb : Nat.beq n nm
    · simp only [cond_false, VRel] at h ⊢
      rw [hm n (beq_false_ne hb)]; exact h
    · simp only [cond_true, VRel]
  | _, _, .ptr n off, _, hm, h => by
    simp only [D.kill]
    cases hb : Nat.beq n nm
    · simp only [cond_false, VRel] at h ⊢
      rw [hm n (beq_false_ne hb)]; exact h
    · simp only [cond_true, VRel]
  | _, _, .iptr cs off, _, _, h => by simpa only [D.kill, VRel] using h
  | _, _, .nilp, _, _, h => by simpa only [D.kill, VRel] using h
  | _, _, .iface t d, _, hm, h => by
    simp only [D.kill, VRel] at h ⊢
    obtain ⟨x, rfl, h⟩ := h
    exact ⟨x, rfl, VRel.kill nm d x hm h⟩
  | _, _, .nilif, _, _, h => by simpa only [D.kill, VRel] using h
  | _, _, .fn f a b, _, hm, h => by
    simp only [D.kill, VRel] at h ⊢
    obtain ⟨va, vb, rfl, h1, h2⟩ := h
    exact ⟨va, vb, rfl, VRels.kill nm a _ hm h1, VRels.kill nm b _ hm h2⟩
  | _, _, .nilfn, _, _, h => by simpa only [D.kill, VRel] using h
  | _, _, .nilm, _, _, h => by simpa only [D.kill, VRel] using h
  | _, _, .it n, _, hm, h => by
    simp only [D.kill]
    cases hb : Nat.beq n nm
    · simp only [cond_false, VRel] at h ⊢
      rw [hm n (beq_false_ne hb)]; exact h
    · simp only [cond_true, VRel]
theorem VRels.kill (nm : Nat) : ∀ {μ μ' : Mu} (ds : List D) (vs : List Value), muBut nm μ μ' → VRels M w μ ds vs → VRels M w μ' (D.kills nm ds) vs
  | _, _, [], _, _, h => by simpa only [D.kills, VRels] using h
  | _, _, d :: ds, _, hm, h => by
    simp only [D.kills, VRels] at h ⊢
    obtain ⟨v, r, rfl, h1, h2⟩ := h
    exact ⟨v, r, rfl, VRel.kill nm d v hm h1, VRels.kill nm ds r hm h2⟩
end

mutual
/-- What reaches nothing of our own needs no names. -/
theorem VRel.pure : ∀ {μ μ' : Mu} (d : D) (v : Value), d.pure = true → VRel M w μ d v → VRel M w μ' d v
  | _, _, .un, _, _, _ => by simp only [VRel]
  | _, _, .bool _, _, _, h => by simpa only [VRel] using h
  | _, _, .int _ _, _, _, h => by simpa only [VRel] using h
  | _, _, .str _, _, _, h => by simpa only [VRel] using h
  | _, _, .agg cs, _, hp, h => by
    simp only [D.pure] at hp
    simp only [VRel] at h ⊢
    obtain ⟨vs, rfl, h⟩ := h
    exact ⟨vs, rfl, VRels.pure cs _ hp h⟩
  | _, _, .tup cs, _, hp, h => by
    simp only [D.pure] at hp
    simp only [VRel] at h ⊢
    obtain ⟨vs, rfl, h⟩ := h
    exact ⟨vs, rfl, VRels.pure cs _ hp h⟩
  | _, _, .nils, _, _, h => by simpa only [VRel] using h
  | _, _, .sl ex len cs, _, _, h => by simpa only [VRel] using h
  | _, _, .ms .., _, hp, _ => by simp [D.pure] at hp
  | _, _, .gs .., _, hp, _ => by simp [D.pure] at hp
  | _, _, .ptr .., _, hp, _ => by simp [D.pure] at hp
  | _, _, .iptr cs off, _, _, h => by simpa only [VRel] using h
  | _, _, .nilp, _, _, h => by simpa only [VRel] using h
  | _, _, .iface t d, _, hp, h => by
    simp only [D.pure] at hp
    simp only [VRel] at h ⊢
    obtain ⟨x, rfl, h⟩ := h
    exact ⟨x, rfl, VRel.pure d x hp h⟩
  | _, _, .nilif, _, _, h => by simpa only [VRel] using h
  | _, _, .fn f a b, _, hp, h => by
    simp only [D.pure, Bool.and_eq_true] at hp
    simp only [VRel] at h ⊢
    obtain ⟨va, vb, rfl, h1, h2⟩ := h
    exact ⟨va, vb, rfl, VRels.pure a _ hp.1 h1, VRels.pure b _ hp.2 h2⟩
  | _, _, .nilfn, _, _, h => by simpa only [VRel] using h
  | _, _, .nilm, _, _, h => by simpa only [VRel] using h
  | _, _, .it .., _, hp, _ => by simp [D.pure] at hp
theorem VRels.pure : ∀ {μ μ' : Mu} (ds : List D) (vs : List Value), D.pures ds = true → VRels M w μ ds vs → VRels M w μ' ds vs
  | _, _, [], _, _, h => by simpa only [VRels] using h
  | _, _, d :: ds, _, hp, h => by
    simp only [D.pures, Bool.and_eq_true] at hp
    simp only [VRels] at h ⊢
    obtain ⟨v, r, rfl, h1, h2⟩ := h
    exact ⟨v, r, rfl, VRel.pure d v hp.1 h1, VRels.pure ds r hp.2 h2⟩
end
end

mutual
/-- Values that read no memory stand in any memory. -/
theorem VRel.flat {M M' : Nat → Prop} {w w' : World} : ∀ {μ μ' : Mu} (d : D) (v : Value), d.flat = true → VRel M w μ d v → VRel M' w' μ' d v
  | _, _, .un, _, _, _ => by simp only [VRel]
  | _, _, .bool _, _, _, h => by simpa only [VRel] using h
  | _, _, .int _ _, _, _, h => by simpa only [VRel] using h
  | _, _, .str _, _, _, h => by simpa only [VRel] using h
  | _, _, .agg cs, _, hp, h => by
    simp only [D.flat] at hp
    simp only [VRel] at h ⊢
    obtain ⟨vs, rfl, h⟩ := h
    exact ⟨vs, rfl, VRels.flat cs _ hp h⟩
  | _, _, .tup cs, _, hp, h => by
    simp only [D.flat] at hp
    simp only [VRel] at h ⊢
    obtain ⟨vs, rfl, h⟩ := h
    exact ⟨vs, rfl, VRels.flat cs _ hp h⟩
  | _, _, .nils, _, _, h => by simpa only [VRel] using h
  | _, _, .sl .., _, hp, _ => by simp [D.flat] at hp
  | _, _, .ms .., _, hp, _ => by simp [D.flat] at hp
  | _, _, .gs .., _, hp, _ => by simp [D.flat] at hp
  | _, _, .ptr .., _, hp, _ => by simp [D.flat] at hp
  | _, _, .iptr .., _, hp, _ => by simp [D.flat] at hp
  | _, _, .nilp, _, _, h => by simpa only [VRel] using h
  | _, _, .iface t d, _, hp, h => by
    simp only [D.flat] at hp
    simp only [VRel] at h ⊢
    obtain ⟨x, rfl, h⟩ := h
    exact ⟨x, rfl, VRel.flat d x hp h⟩
  | _, _, .nilif, _, _, h => by simpa only [VRel] using h
  | _, _, .fn .., _, hp, _ => by simp [D.flat] at hp
  | _, _, .nilfn, _, _, h => by simpa only [VRel] using h
  | _, _, .nilm, _, _, h => by simpa only [VRel] using h
  | _, _, .it .., _, hp, _ => by simp [D.flat] at hp
theorem VRels.flat {M M' : Nat → Prop} {w w' : World} : ∀ {μ μ' : Mu} (ds : List D) (vs : List Value), D.flats ds = true → VRels M w μ ds vs → VRels M' w' μ' ds vs
  | _, _, [], _, _, h => by simpa only [VRels] using h
  | _, _, d :: ds, _, hp, h => by
    simp only [D.flats, Bool.and_eq_true] at hp
    simp only [VRels] at h ⊢
    obtain ⟨v, r, rfl, h1, h2⟩ := h
    exact ⟨v, r, rfl, VRel.flat d v hp.1 h1, VRels.flat ds r hp.2 h2⟩
end

section lists
variable {M : Nat → Prop} {w : World} {μ : Mu}

theorem VRels.length : ∀ {ds : List D} {vs : List Value}, VRels M w μ ds vs → vs.length = ds.length
  | [], _, h => by simp only [VRels] at h; subst h; rfl
  | d :: ds, _, h => by
    simp only [VRels] at h
    obtain ⟨v, r, rfl, _, h2⟩ := h
    simp [VRels.length h2]

theorem VRels.get : ∀ {ds : List D} {vs : List Value} (i : Nat) (d : D), VRels M w μ ds vs → ds[i]? = some d → ∃ v, vs[i]? = some v ∧ VRel M w μ d v
  | [], _, i, d, h, hi => by simp at hi
  | d :: ds, _, 0, e, h, hi => by
    simp only [VRels] at h
    obtain ⟨v, r, rfl, h1, h2⟩ := h
    simp at hi; subst hi
    exact ⟨v, by simp, h1⟩
  | d :: ds, _, i + 1, e, h, hi => by
    simp only [VRels] at h
    obtain ⟨v, r, rfl, h1, h2⟩ := h
    simp at hi
    obtain ⟨v', hv, hr⟩ := VRels.get i e h2 hi
    exact ⟨v', by simpa using hv, hr⟩

theorem VRels.cons {d : D} {ds : List D} {v : Value} {vs : List Value} (h : VRel M w μ d v) (h' : VRels M w μ ds vs) : VRels M w μ (d :: ds) (v :: vs) := by
  simp only [VRels]; exact ⟨v, vs, rfl, h, h'⟩

theorem VRels.nil : VRels M w μ [] [] := by simp only [VRels]

theorem VRels.mk : ∀ {ds : List D} {vs : List Value}, vs.length = ds.length → (∀ (i : Nat) (d : D) (v : Value), ds[i]? = some d → vs[i]? = some v → VRel M w μ d v) → VRels M w μ ds vs
  | [], vs, hl, _ => by
    have : vs = [] := List.eq_nil_of_length_eq_zero (by simpa using hl)
    subst this; exact VRels.nil
  | d :: ds, [], hl, _ => by simp at hl
  | d :: ds, v :: vs, hl, h => by
    refine VRels.cons (h 0 d v (by simp) (by simp)) (VRels.mk (by simpa using hl) ?_)
    intro i d' v' h1 h2
    exact h (i + 1) d' v' (by simpa using h1) (by simpa using h2)

theorem VRels.at {ds : List D} {vs : List Value} {i : Nat} {d : D} {v : Value} (h : VRels M w μ ds vs) (h1 : ds[i]? = some d) (h2 : vs[i]? = some v) : VRel M w μ d v := by
  obtain ⟨v', hv, hr⟩ := VRels.get i d h h1
  rw [h2] at hv; cases hv; exact hr

theorem VRels.append {ds es : List D} {vs us : List Value} (h : VRels M w μ ds vs) (h' : VRels M w μ es us) : VRels M w μ (ds ++ es) (vs ++ us) := by
  induction ds generalizing vs with
  | nil => simp only [VRels] at h; subst h; simpa using h'
  | cons d ds ih =>
    simp only [VRels] at h
    obtain ⟨v, r, rfl, h1, h2⟩ := h
    exact VRels.cons h1 (ih h2)

theorem VRels.drop (n : Nat) {ds : List D} {vs : List Value} (h : VRels M w μ ds vs) : VRels M w μ (ds.drop n) (vs.drop n) := by
  refine VRels.mk (by simp [h.length]) fun i d v h1 h2 => ?_
  simp at h1 h2
  exact h.at h1 h2

theorem VRels.take (n : Nat) {ds : List D} {vs : List Value} (h : VRels M w μ ds vs) : VRels M w μ (ds.take n) (vs.take n) := by
  refine VRels.mk (by simp [h.length]) fun i d v h1 h2 => ?_
  rw [List.getElem?_take] at h1 h2
  split at h1
  · rename_i hi
    rw [if_pos hi] at h2
    exact h.at h1 h2
  · simp at h1

theorem CRel.get : ∀ {b o : Nat} {ds : List D} (i : Nat) (d : D), CRel M w b o ds → ds[i]? = some d → ∃ v, w.cell? ⟨b, o + i, none⟩ = some v ∧ VRel M w mu0 d v
  | _, _, [], i, d, _, hi => by simp at hi
  | b, o, d :: ds, 0, e, h, hi => by
    simp only [CRel] at h
    simp at hi; subst hi
    simpa using h.1
  | b, o, d :: ds, i + 1, e, h, hi => by
    simp only [CRel] at h
    simp at hi
    obtain ⟨v, hv, hr⟩ := CRel.get i e h.2 hi
    exact ⟨v, by rw [← hv]; congr 2; omega, hr⟩

theorem CRel.mk : ∀ {b o : Nat} {ds : List D}, (∀ (i : Nat) (d : D), ds[i]? = some d → ∃ v, w.cell? ⟨b, o + i, none⟩ = some v ∧ VRel M w mu0 d v) → CRel M w b o ds
  | _, _, [], _ => by simp only [CRel]
  | b, o, d :: ds, h => by
    simp only [CRel]
    refine ⟨by simpa using h 0 d (by simp), CRel.mk fun i e hi => ?_⟩
    obtain ⟨v, hv, hr⟩ := h (i + 1) e (by simpa using hi)
    exact ⟨v, by rw [← hv]; congr 2; omega, hr⟩

theorem CRel.drop {b o : Nat} {ds : List D} (n : Nat) (h : CRel M w b o ds) : CRel M w b (o + n) (ds.drop n) :=
  CRel.mk fun i d hi => by
    simp at hi
    obtain ⟨v, hv, hr⟩ := CRel.get _ _ h hi
    exact ⟨v, by rw [← hv]; congr 2; omega, hr⟩

theorem CRel.take {b o : Nat} {ds : List D} (n : Nat) (h : CRel M w b o ds) : CRel M w b o (ds.take n) :=
  CRel.mk fun i d hi => by
    rw [List.getElem?_take] at hi
    split at hi
    · exact CRel.get _ _ h hi
    · simp at hi
end lists

section places
theorem tget_cons (k : Nat) (v : D) (r : Tm) (n : Nat) : tget ((k, v) :: r) n = if n = k then v else tget r n := by
  simp only [tget]
  by_cases h : n = k
  · subst h; simp
  · have : Nat.beq n k = false := by
      cases hb : Nat.beq n k
      · rfl
      · exact absurd (Nat.eq_of_beq_eq_true hb) h
    simp [this, h]

theorem sget_cons (k : Nat) (v : Blk) (r : St) (n : Nat) : sget ((k, v) :: r) n = if n = k then some v else sget r n := by
  simp only [sget]
  by_cases h : n = k
  · subst h; simp
  · have : Nat.beq n k = false := by
      cases hb : Nat.beq n k
      · rfl
      · exact absurd (Nat.eq_of_beq_eq_true hb) h
    simp [this, h]

theorem beq_ne {n k : Nat} (h : n ≠ k) : Nat.beq n k = false := by
  cases hb : Nat.beq n k
  · rfl
  · exact absurd (Nat.eq_of_beq_eq_true hb) h

theorem sget_sset (s : St) (n m : Nat) (b : Blk) : sget (sset s n b) m = if m = n then (if (sget s n).isSome then some b else none) else sget s m := by
  induction s with
  | nil => simp [sset, sget]
  | cons p r ih =>
    obtain ⟨k, v⟩ := p
    simp only [sset]
    by_cases h : n = k
    · subst h
      simp only [Nat.beq_refl, cond_true, sget_cons]
      by_cases hm : m = n
      · simp [hm]
      · simp [hm]
    · simp only [beq_ne h, cond_false, sget_cons, ih]
      by_cases hm : m = n
      · subst hm; simp [h]
      · simp [hm]

theorem sget_sdel (s : St) (n m : Nat) : sget (sdel s n) m = if m = n then none else sget s m := by
  induction s with
  | nil => simp [sdel, sget]
  | cons p r ih =>
    obtain ⟨k, v⟩ := p
    simp only [sdel]
    by_cases h : n = k
    · subst h
      simp only [Nat.beq_refl, cond_true, ih, sget_cons]
      by_cases hm : m = n <;> simp [hm]
    · simp only [beq_ne h, cond_false, sget_cons, ih]
      by_cases hm : m = n
      · subst hm; simp [h]
      · simp [hm]

theorem sget_skill (s : St) (nm m : Nat) : sget (skill nm s) m = (sget s m).map (Blk.kill nm) := by
  induction s with
  | nil => rfl
  | cons p r ih =>
    obtain ⟨k, v⟩ := p
    simp only [skill, sget_cons, ih]
    split <;> rfl

theorem tget_tkill (t : Tm) (nm n : Nat) : tget (tkill nm t) n = D.kill nm (tget t n) := by
  induction t with
  | nil => simp [tkill, tget, D.kill]
  | cons p r ih =>
    obtain ⟨k, v⟩ := p
    simp only [tkill, tget_cons, ih]
    split <;> rfl

theorem tget_restrict (l : List Nat) (t : Tm) (n : Nat) : tget (restrict l t) n = tget t n ∨ tget (restrict l t) n = .un := by
  induction l with
  | nil => exact .inr rfl
  | cons k r ih =>
    simp only [restrict, List.map_cons, tget_cons]
    split
    · rename_i h; subst h; exact .inl rfl
    · simpa [restrict] using ih
end places

end Iv
/- The relation between a state of the model inside a call and an abstract one, and how it stands as blocks come, go and are written. Conditions: none. -/
set_option linter.unusedSimpArgs false
set_option linter.unusedVariables false
namespace Iv
open Go

def Thaw (n : Nat) (fz : Nat × Nat) : Prop := ∀ o, o < n → ¬ (fz.1 ≤ o ∧ o < fz.2)

def BRel (M : Nat → Prop) (w : World) (μ : Mu) (nm : Nat) : Blk → Prop
  | .fix cs => ∃ loc b vs e fz, μ nm = some loc ∧ loc.blk = some b ∧ loc.cap = cs.length ∧ M b ∧ w.heap[b]? = some (.cells vs e fz) ∧ Thaw vs.size fz ∧ VRels M w μ cs vs.toList
  | .grow cs => ∃ loc, μ nm = some loc ∧ ((loc.blk = none ∧ cs = [] ∧ loc.cap = 0) ∨
      ∃ b vs e fz, loc.blk = some b ∧ M b ∧ w.heap[b]? = some (.cells vs e fz) ∧ Thaw vs.size fz ∧ vs.size = loc.cap ∧ cs.length ≤ loc.cap ∧ VRels M w μ cs (vs.toList.take cs.length))
  | .iter s pos => ∃ loc b, μ nm = some loc ∧ loc.blk = some b ∧ M b ∧ w.heap[b]? = some (.stringIter ⟨s.toArray⟩ pos)

structure Rel (E : Env) (M0 : Nat → Prop) (w0 : World) (N : Nat) (μ : Mu) (M : Nat → Prop) (a : Act) (w : World) (x : AS) : Prop where
  size : w0.heap.size ≤ w.heap.size
  old : ∀ b, b < w0.heap.size → w.heap[b]? = w0.heap[b]?
  mold : ∀ b, b < w0.heap.size → (M b ↔ M0 b)
  mlt : ∀ b, M b → b < w.heap.size
  m0lt : ∀ b, M0 b → b < w0.heap.size
  defers : a.defers = []
  n : N ≤ a.tmps.size
  tm : ∀ n, VRel M w μ (tget x.t n) (a.tmps.getD n undef)
  st : ∀ nm blk, sget x.s nm = some blk → BRel M w μ nm blk
  dom : ∀ nm l, μ nm = some l → shas x.s nm = true
  own : ∀ nm l b, μ nm = some l → l.blk = some b → w0.heap.size ≤ b
  inj : ∀ n m l l' b, μ n = some l → μ m = some l' → l.blk = some b → l'.blk = some b → n = m
  glob : GRel E M0 w0
  env : Env0 w0 w

theorem shas_iff {s : St} {n : Nat} : shas s n = true ↔ ∃ b, sget s n = some b := by
  simp [shas, Option.isSome_iff_exists]

theorem shas_false {s : St} {n : Nat} : shas s n = false ↔ sget s n = none := by
  simp [shas]

theorem BRel.mono {M M' : Nat → Prop} {w w' : World} {μ μ' : Mu} {nm : Nat} {blk : Blk} (hx : Ext M w M' w') (hm : muLe μ μ')
    (hb : ∀ l b, μ nm = some l → l.blk = some b → w'.heap[b]? = w.heap[b]? ∧ (M b → M' b)) (h : BRel M w μ nm blk) : BRel M' w' μ' nm blk := by
  cases blk with
  | fix cs =>
    obtain ⟨l, b, vs, e, fz, h1, h2, h3, h4, h5, h6, h7⟩ := h
    exact ⟨l, b, vs, e, fz, hm _ _ h1, h2, h3, (hb l b h1 h2).2 h4, by rw [(hb l b h1 h2).1]; exact h5, h6, VRels.mono hx _ _ hm h7⟩
  | grow cs =>
    obtain ⟨l, h1, h⟩ := h
    refine ⟨l, hm _ _ h1, h.imp id ?_⟩
    rintro ⟨b, vs, e, fz, h2, h4, h5, h6, h7, h8, h9⟩
    exact ⟨b, vs, e, fz, h2, (hb l b h1 h2).2 h4, by rw [(hb l b h1 h2).1]; exact h5, h6, h7, h8, VRels.mono hx _ _ hm h9⟩
  | iter s pos =>
    obtain ⟨l, b, h1, h2, h4, h5⟩ := h
    exact ⟨l, b, hm _ _ h1, h2, (hb l b h1 h2).2 h4, by rw [(hb l b h1 h2).1]; exact h5⟩

section
variable {E : Env} {M0 : Nat → Prop} {w0 : World} {N : Nat} {μ : Mu} {M : Nat → Prop} {a : Act} {w : World} {x : AS}

/-- Only what is looked up counts. -/
theorem Rel.congr (h : Rel E M0 w0 N μ M a w x) {x' : AS} (ht : ∀ n, tget x'.t n = tget x.t n ∨ tget x'.t n = .un) (hs : ∀ n, sget x'.s n = sget x.s n) : Rel E M0 w0 N μ M a w x' :=
  { h with
    tm := fun n => by
      rcases ht n with e | e
      · rw [e]; exact h.tm n
      · rw [e]; simp only [VRel]
    st := fun nm blk hb => h.st nm blk (by rw [← hs]; exact hb)
    dom := fun nm l hl => by
      have := h.dom nm l hl
      simpa [shas, hs] using this }

/-- The same memory under another name. -/
theorem Rel.world (h : Rel E M0 w0 N μ M a w x) {w' : World} (hw : w'.heap = w.heap) (he : Env0 w w' := by exact ⟨rfl, rfl⟩) : Rel E M0 w0 N μ M a w' x := by
  have hx : Ext M w M w' := ⟨by rw [hw]; exact Nat.le_refl _, fun b _ _ => by rw [hw], fun b _ hm => hm⟩
  exact { h with
    size := by rw [hw]; exact h.size
    old := fun b hb => by rw [hw]; exact h.old b hb
    env := ⟨he.1.trans h.env.1, he.2.trans h.env.2⟩
    mlt := fun b hb => by rw [hw]; exact h.mlt b hb
    tm := fun n => VRel.mono hx _ _ (muLe.refl _) (h.tm n)
    st := fun nm blk hb => BRel.mono hx (muLe.refl _) (fun l b _ _ => ⟨by rw [hw], id⟩) (h.st nm blk hb) }

theorem getD_put {a : Act} {d : Nat} {v : Value} (hd : d < a.tmps.size) (n : Nat) :
    (a.put (some d) v).tmps.getD n undef = if n = d then v else a.tmps.getD n undef := by
  simp only [Act.put]
  by_cases h : n = d
  · subst h
    simp [Array.getD_eq_getD_getElem?, hd]
  · simp only [Array.getD_eq_getD_getElem?, if_neg h]
    rw [Array.getElem?_setIfInBounds_ne (fun e => h e.symm)]

theorem Rel.put (h : Rel E M0 w0 N μ M a w x) {dst : Option Nat} {d : D} {v : Value} (hd : (match dst with | some k => Nat.blt k N | none => true) = true)
    (hv : VRel M w μ d v) : Rel E M0 w0 N μ M (a.put dst v) w (x.put dst d) := by
  cases dst with
  | none => exact h
  | some k =>
    have hk : k < a.tmps.size := Nat.lt_of_lt_of_le (by simpa [Nat.blt_eq] using hd) h.n
    exact { h with
      defers := h.defers
      n := by simpa [Act.put] using h.n
      tm := fun n => by
        rw [getD_put hk]
        simp only [AS.put, tget_cons]
        by_cases hn : n = k
        · rw [if_pos hn, if_pos hn]; exact hv
        · rw [if_neg hn, if_neg hn]; exact h.tm n }

def muSet (μ : Mu) (nm : Nat) (l : Option Loc) : Mu := fun n => if n = nm then l else μ n

theorem muSet_but (μ : Mu) (nm : Nat) (l : Option Loc) : muBut nm μ (muSet μ nm l) := fun n hn => by simp [muSet, hn]

theorem BRel.kill {nm k : Nat} {l : Option Loc} {blk : Blk} (hk : k ≠ nm) (h : BRel M w μ k blk) : BRel M w (muSet μ nm l) k (Blk.kill nm blk) := by
  have hm := muSet_but μ nm l
  have hkill : ∀ (ds : List D), (D.kills nm ds).length = ds.length := by
    intro ds; induction ds with
    | nil => rfl
    | cons d ds ih => simp [D.kills, ih]
  cases blk with
  | fix cs =>
    obtain ⟨l, b, vs, e, fz, h1, h2, h3, h4, h5, h6, h7⟩ := h
    exact ⟨l, b, vs, e, fz, by rw [hm k hk]; exact h1, h2, by rw [hkill]; exact h3, h4, h5, h6, VRels.kill nm _ _ hm h7⟩
  | grow cs =>
    obtain ⟨l, h1, h⟩ := h
    refine ⟨l, by rw [hm k hk]; exact h1, h.imp ?_ ?_⟩
    · rintro ⟨h2, rfl, h3⟩; exact ⟨h2, rfl, h3⟩
    · rintro ⟨b, vs, e, fz, h2, h4, h5, h6, h7, h8, h9⟩
      exact ⟨b, vs, e, fz, h2, h4, h5, h6, h7, by rw [hkill]; exact h8, by rw [hkill]; exact VRels.kill nm _ _ hm h9⟩
  | iter s pos =>
    obtain ⟨l, b, h1, h2, h4, h5⟩ := h
    exact ⟨l, b, by rw [hm k hk]; exact h1, h2, h4, h5⟩

theorem Rel.forget (h : Rel E M0 w0 N μ M a w x) (nm : Nat) {x' : AS} (ht : ∀ n, tget x'.t n = D.kill nm (tget x.t n))
    (hs : ∀ n, sget x'.s n = if n = nm then none else (sget x.s n).map (Blk.kill nm)) : Rel E M0 w0 N (muSet μ nm none) M a w x' :=
  { h with
    tm := fun n => by rw [ht]; exact VRel.kill nm _ _ (muSet_but μ nm none) (h.tm n)
    st := fun k blk hb => by
      rw [hs] at hb
      by_cases hk : k = nm
      · rw [if_pos hk] at hb; cases hb
      · rw [if_neg hk] at hb
        cases hg : sget x.s k with
        | none => rw [hg] at hb; cases hb
        | some b0 =>
          rw [hg] at hb; cases hb
          exact BRel.kill hk (h.st k b0 hg)
    dom := fun k l hl => by
      by_cases hk : k = nm
      · simp [muSet, hk] at hl
      · simp only [muSet, if_neg hk] at hl
        obtain ⟨b, hb⟩ := shas_iff.1 (h.dom k l hl)
        exact shas_iff.2 ⟨_, by rw [hs, if_neg hk, hb]; rfl⟩
    own := fun k l b hl hb => by
      by_cases hk : k = nm
      · simp [muSet, hk] at hl
      · simp only [muSet, if_neg hk] at hl
        exact h.own k l b hl hb
    inj := fun n m l l' b h1 h2 h3 h4 => by
      by_cases hn : n = nm
      · simp [muSet, hn] at h1
      · by_cases hm : m = nm
        · simp [muSet, hm] at h2
        · simp only [muSet, if_neg hn] at h1
          simp only [muSet, if_neg hm] at h2
          exact h.inj n m l l' b h1 h2 h3 h4 }

theorem Rel.drop (h : Rel E M0 w0 N μ M a w x) (nm : Nat) : ∃ μ', Rel E M0 w0 N μ' M a w (x.drop nm) := by
  unfold AS.drop
  cases hs : shas x.s nm
  · exact ⟨μ, h⟩
  · refine ⟨_, h.forget nm (fun n => tget_tkill _ _ _) (fun n => ?_)⟩
    rw [cond_true, sget_skill, sget_sdel]
    split <;> rfl

theorem Rel.drops (l : List Nat) : ∀ {μ : Mu} {x : AS}, Rel E M0 w0 N μ M a w x → ∃ μ', Rel E M0 w0 N μ' M a w (AS.drops l x) := by
  induction l with
  | nil => exact fun h => ⟨_, h⟩
  | cons n r ih => exact fun h => let ⟨_, h'⟩ := h.drop n; ih h'

theorem Rel.dropBut (ls : List Nat) (l : List Nat) : ∀ {μ : Mu} {x : AS}, Rel E M0 w0 N μ M a w x → ∃ μ', Rel E M0 w0 N μ' M a w (dropBut ls l x) := by
  induction l with
  | nil => exact fun h => ⟨_, h⟩
  | cons n r ih =>
    intro μ x h
    simp only [Iv.dropBut]
    cases ls.any (Nat.beq n)
    · obtain ⟨_, h'⟩ := h.drop n; exact ih h'
    · exact ih h

/-- A block under a name that was free. -/
theorem Rel.install (h : Rel E M0 w0 N μ M a w x) (nm : Nat) (hn : shas x.s nm = false) (blk : Blk) (loc : Loc) {w' : World} {M' : Nat → Prop} {x' : AS}
    (hx : Ext M w M' w') (hold : ∀ b, b < w0.heap.size → w'.heap[b]? = w.heap[b]?) (hmo : ∀ b, b < w0.heap.size → (M' b ↔ M b)) (hml : ∀ b, M' b → b < w'.heap.size)
    (hown : ∀ m l b, μ m = some l → l.blk = some b → w'.heap[b]? = w.heap[b]? ∧ (M b → M' b) ∧ loc.blk ≠ some b)
    (hb : ∀ b, loc.blk = some b → w0.heap.size ≤ b) (ht : ∀ n, tget x'.t n = tget x.t n) (hs : ∀ n, sget x'.s n = if n = nm then some blk else sget x.s n)
    (hB : BRel M' w' (muSet μ nm (some loc)) nm blk) (he : Env0 w w' := by exact ⟨rfl, rfl⟩) : Rel E M0 w0 N (muSet μ nm (some loc)) M' a w' x' := by
  have hfree : μ nm = none := by
    cases hl : μ nm with
    | none => rfl
    | some l => have := h.dom nm l hl; rw [hn] at this; cases this
  have hle : muLe μ (muSet μ nm (some loc)) := fun n l hl => by
    by_cases hnn : n = nm
    · subst hnn; rw [hfree] at hl; cases hl
    · simpa [muSet, hnn] using hl
  exact {
    size := Nat.le_trans h.size hx.size
    old := fun b hb => by rw [hold b hb]; exact h.old b hb
    env := ⟨he.1.trans h.env.1, he.2.trans h.env.2⟩
    mold := fun b hb => (hmo b hb).trans (h.mold b hb)
    mlt := hml
    m0lt := h.m0lt
    defers := h.defers
    n := h.n
    tm := fun n => by rw [ht]; exact VRel.mono hx _ _ hle (h.tm n)
    st := fun k b hk => by
      rw [hs] at hk
      by_cases hkn : k = nm
      · rw [if_pos hkn] at hk; cases hk; rw [hkn]; exact hB
      · rw [if_neg hkn] at hk
        exact BRel.mono hx hle (fun l b hl hlb => ⟨(hown k l b hl hlb).1, (hown k l b hl hlb).2.1⟩) (h.st k b hk)
    dom := fun k l hl => by
      by_cases hkn : k = nm
      · exact shas_iff.2 ⟨blk, by rw [hs, if_pos hkn]⟩
      · simp only [muSet, if_neg hkn] at hl
        obtain ⟨b, hb⟩ := shas_iff.1 (h.dom k l hl)
        exact shas_iff.2 ⟨b, by rw [hs, if_neg hkn]; exact hb⟩
    own := fun k l b hl hlb => by
      by_cases hkn : k = nm
      · simp only [muSet, if_pos hkn] at hl; cases hl; exact hb b hlb
      · simp only [muSet, if_neg hkn] at hl; exact h.own k l b hl hlb
    inj := fun n m l l' b h1 h2 h3 h4 => by
      by_cases hn1 : n = nm
      · by_cases hm1 : m = nm
        · rw [hn1, hm1]
        · simp only [muSet, if_pos hn1] at h1
          simp only [muSet, if_neg hm1] at h2
          cases h1
          exact absurd h3 (hown m l' b h2 h4).2.2
      · by_cases hm1 : m = nm
        · simp only [muSet, if_neg hn1] at h1
          simp only [muSet, if_pos hm1] at h2
          cases h2
          exact absurd h4 (hown n l b h1 h3).2.2
        · simp only [muSet, if_neg hn1] at h1
          simp only [muSet, if_neg hm1] at h2
          exact h.inj n m l l' b h1 h2 h3 h4
    glob := h.glob }

def mPlus (M : Nat → Prop) (b : Nat) : Nat → Prop := fun k => M k ∨ k = b

/-- A new object in memory, under a name that was free. -/
theorem Rel.fresh (h : Rel E M0 w0 N μ M a w x) (nm : Nat) (hn : shas x.s nm = false) (blk : Blk) (o : Obj) (cap : Nat) {w' : World} {x' : AS}
    (hw : w'.heap = w.heap.push o) (ht : ∀ n, tget x'.t n = tget x.t n) (hs : ∀ n, sget x'.s n = if n = nm then some blk else sget x.s n)
    (hB : Ext M w (mPlus M w.heap.size) w' → BRel (mPlus M w.heap.size) w' (muSet μ nm (some ⟨some w.heap.size, cap⟩)) nm blk) (he : Env0 w w' := by exact ⟨rfl, rfl⟩) :
    Ext M w (mPlus M w.heap.size) w' ∧ Rel E M0 w0 N (muSet μ nm (some ⟨some w.heap.size, cap⟩)) (mPlus M w.heap.size) a w' x' := by
  have hget : ∀ b, b < w.heap.size → w'.heap[b]? = w.heap[b]? := fun b hb => by
    rw [hw, Array.getElem?_push_lt hb, Array.getElem?_eq_getElem hb]
  have hsz : w'.heap.size = w.heap.size + 1 := by rw [hw]; simp
  have hx : Ext M w (mPlus M w.heap.size) w' := ⟨by omega, fun b hb _ => hget b hb, fun b hb hm => hm.resolve_right (by omega)⟩
  have hown : ∀ m l b, μ m = some l → l.blk = some b → b < w.heap.size := fun m l b hl hlb => by
    obtain ⟨bk, hbk⟩ := shas_iff.1 (h.dom m l hl)
    have := h.st m bk hbk
    cases bk with
    | fix cs =>
      obtain ⟨l', b', vs, e, fz, h1, h2, h3, h4, h5, h6, h7⟩ := this
      rw [hl] at h1; cases h1; rw [hlb] at h2; cases h2
      exact h.mlt _ h4
    | grow cs =>
      obtain ⟨l', h1, hh⟩ := this
      rw [hl] at h1; cases h1
      rcases hh with ⟨h2, _⟩ | ⟨b', vs, e, fz, h2, h4, _⟩
      · rw [hlb] at h2; cases h2
      · rw [hlb] at h2; cases h2; exact h.mlt _ h4
    | iter s pos =>
      obtain ⟨l', b', h1, h2, h4, h5⟩ := this
      rw [hl] at h1; cases h1; rw [hlb] at h2; cases h2
      exact h.mlt _ h4
  refine ⟨hx, h.install nm hn blk ⟨some w.heap.size, cap⟩ hx (fun b hb => hget b (Nat.lt_of_lt_of_le hb h.size))
    (fun b hb => ⟨fun hm => hm.resolve_right (by have := h.size; omega), .inl⟩) (fun b hm => by
      rcases hm with hm | hm
      · have := h.mlt b hm; omega
      · omega)
    (fun m l b hl hlb => ⟨hget b (hown m l b hl hlb), .inl, fun e => by have := hown m l b hl hlb; cases e; omega⟩)
    (fun b hb => by cases hb; exact h.size) ht hs (hB hx) he⟩

/-- A block of our own is written. -/
theorem Rel.write (h : Rel E M0 w0 N μ M a w x) (nm : Nat) (blk : Blk) (l : Loc) (b : Nat) {w' : World} {x' : AS} (hl : μ nm = some l) (hlb : l.blk = some b) (hM : M b)
    (hsz : w'.heap.size = w.heap.size) (hheap : ∀ k, k ≠ b → w'.heap[k]? = w.heap[k]?)
    (ht : ∀ n, tget x'.t n = tget x.t n) (hs : ∀ n, sget x'.s n = if n = nm then some blk else sget x.s n)
    (hB : Ext M w M w' → BRel M w' μ nm blk) (he : Env0 w w' := by exact ⟨rfl, rfl⟩) : Ext M w M w' ∧ Rel E M0 w0 N μ M a w' x' := by
  have hx : Ext M w M w' := ⟨by omega, fun k _ hk => hheap k fun e => hk (e ▸ hM), fun _ _ hm => hm⟩
  refine ⟨hx, { h with
    size := by have := h.size; omega
    old := fun k hk => by rw [hheap k fun e => by have := h.own nm l b hl hlb; omega]; exact h.old k hk
    env := ⟨he.1.trans h.env.1, he.2.trans h.env.2⟩
    mlt := fun k hk => by have := h.mlt k hk; omega
    tm := fun n => by rw [ht]; exact VRel.mono hx _ _ (muLe.refl _) (h.tm n)
    st := fun k bk hk => by
      rw [hs] at hk
      by_cases hkn : k = nm
      · rw [if_pos hkn] at hk; cases hk; rw [hkn]; exact hB hx
      · rw [if_neg hkn] at hk
        refine BRel.mono hx (muLe.refl _) (fun l' b' hl' hlb' => ⟨hheap b' fun e => ?_, id⟩) (h.st k bk hk)
        subst e
        exact hkn (h.inj k nm l' l b' hl' hl hlb' hlb)
    dom := fun k l' hl' => by
      by_cases hkn : k = nm
      · exact shas_iff.2 ⟨blk, by rw [hs, if_pos hkn]⟩
      · obtain ⟨b', hb'⟩ := shas_iff.1 (h.dom k l' hl')
        exact shas_iff.2 ⟨b', by rw [hs, if_neg hkn]; exact hb'⟩ }⟩

theorem Rel.globals (h : Rel E M0 w0 N μ M a w x) : GRel E M w := fun p hp => by
  obtain ⟨h1, h2, h3⟩ := h.glob p hp
  have hx : Ext M0 w0 M w := ⟨h.size, fun b hb _ => h.old b hb, fun b hb hm => (h.mold b hb).1 hm⟩
  exact ⟨fun hm => h1 ((h.mold _ h2).1 hm), Nat.lt_of_lt_of_le h2 h.size, CRel.mono hx p.1 h1 h2 p.2 0 h3⟩

theorem Rel.globals0 (h : Rel E M0 w0 N μ M a w x) : GRel E M0 w := fun p hp => by
  obtain ⟨h1, h2, h3⟩ := h.glob p hp
  have hx : Ext M0 w0 M0 w := ⟨h.size, fun b hb _ => h.old b hb, fun b hb hm => hm⟩
  exact ⟨h1, Nat.lt_of_lt_of_le h2 h.size, CRel.mono hx p.1 h1 h2 p.2 0 h3⟩

end

end Iv
/- The operations of the model do what the abstract ones say: values, loads, addresses, numbers. Conditions: none. -/
set_option linter.unusedSimpArgs false
set_option linter.unusedVariables false
namespace Iv
open Go

def Good (E : Env) (M0 : Nat → Prop) (w0 : World) (N : Nat) (a : Act) (d : D) (x' : AS) (r : Result Next) : Prop :=
  ∃ v w' μ' M', (r = .ok (.value v) w' ∨ (r = .ok .skip w' ∧ v = undef)) ∧ VRel M' w' μ' d v ∧ Rel E M0 w0 N μ' M' a w' x'

theorem mapM_rel {α β : Type} {f : α → Option β} : ∀ {l : List α} {r : List β}, l.mapM f = some r → r.length = l.length ∧ ∀ (i : Nat) (x : α) (y : β), l[i]? = some x → r[i]? = some y → f x = some y
  | [], r, h => by
    simp at h; subst h; exact ⟨rfl, fun i x y h1 _ => by simp at h1⟩
  | x :: l, r, h => by
    simp only [List.mapM_cons] at h
    cases hx : f x with
    | none => rw [hx] at h; cases h
    | some y =>
      rw [hx] at h
      cases hl : l.mapM f with
      | none => rw [hl] at h; cases h
      | some ys =>
        rw [hl] at h
        cases h
        obtain ⟨h1, h2⟩ := mapM_rel hl
        refine ⟨by simp [h1], fun i a b ha hb => ?_⟩
        cases i with
        | zero => simp at ha hb; subst ha; subst hb; exact hx
        | succ i => simp at ha hb; exact h2 i a b ha hb

section
variable {E : Env} {M0 : Nat → Prop} {w0 : World} {N : Nat} {μ : Mu} {M : Nat → Prop} {a : Act} {w : World} {x : AS}

theorem Good.of (h : Rel E M0 w0 N μ M a w x) {r : Result Next} {d : D} {v : Value} (hr : r = .ok (.value v) w) (hv : VRel M w μ d v) : Good E M0 w0 N a d x r :=
  ⟨v, w, μ, M, .inl hr, hv, h⟩

theorem ofV_rel : ∀ (n : Nat) (v : Value) (d : D), ofV n v = some d → VRel M w μ d v
  | 0, v, d, h => by simp [ofV] at h
  | n + 1, .bool b, d, h => by simp [ofV] at h; subst h; simp only [VRel]
  | n + 1, .int k m, d, h => by simp [ofV] at h; subst h; simp only [VRel]
  | n + 1, .string s, d, h => by
    simp [ofV] at h; subst h; simp only [VRel]
  | n + 1, .agg cs, d, h => by
    simp only [ofV, Option.map_eq_some_iff] at h
    obtain ⟨ds, h, rfl⟩ := h
    obtain ⟨h1, h2⟩ := mapM_rel h
    simp only [VRel]
    exact ⟨cs, rfl, VRels.mk (by simpa using h1.symm) fun i dd v hd hv => ofV_rel n v dd (h2 i v dd hv hd)⟩
  | n + 1, .tuple cs, d, h => by
    simp only [ofV, Option.map_eq_some_iff] at h
    obtain ⟨ds, h, rfl⟩ := h
    obtain ⟨h1, h2⟩ := mapM_rel h
    simp only [VRel]
    exact ⟨cs, rfl, VRels.mk (by simpa using h1.symm) fun i dd v hd hv => ofV_rel n v dd (h2 i v dd hv hd)⟩
  | n + 1, .slice none 0 0, d, h => by simp [ofV] at h; subst h; simp only [VRel]
  | n + 1, .slice none 0 (_ + 1), d, h => by simp [ofV] at h
  | n + 1, .slice none (_ + 1) _, d, h => by simp [ofV] at h
  | n + 1, .slice (some _) _ _, d, h => by simp [ofV] at h
  | n + 1, .pointer none, d, h => by simp [ofV] at h; subst h; simp only [VRel]
  | n + 1, .pointer (some _), d, h => by simp [ofV] at h
  | n + 1, .map none, d, h => by simp [ofV] at h; subst h; simp only [VRel]
  | n + 1, .map (some _), d, h => by simp [ofV] at h
  | n + 1, .nilIface, d, h => by simp [ofV] at h; subst h; simp only [VRel]
  | n + 1, .nilFunc, d, h => by simp [ofV] at h; subst h; simp only [VRel]
  | n + 1, .iface t v, d, h => by
    simp only [ofV, Option.map_eq_some_iff] at h
    obtain ⟨d', h, rfl⟩ := h
    simp only [VRel]
    exact ⟨v, rfl, ofV_rel n v d' h⟩
  | n + 1, .float .., d, h => by simp [ofV] at h
  | n + 1, .complex .., d, h => by simp [ofV] at h
  | n + 1, .chan _, d, h => by simp [ofV] at h
  | n + 1, .func .., d, h => by simp [ofV] at h

theorem arg_rel (h : Rel E M0 w0 N μ M a w x) {o : Operand} {ar : Arg} (hc : cArg o = some ar) : VRel M w μ (ar.ev E.G x.t) (a.eval o) := by
  cases o with
  | tmp t => simp [cArg] at hc; subst hc; exact h.tm t
  | const v =>
    simp only [cArg, Option.map_eq_some_iff] at hc
    obtain ⟨d, hd, rfl⟩ := hc
    exact ofV_rel 10 v d hd
  | global g =>
    simp [cArg] at hc; subst hc
    simp only [Arg.ev, Act.eval]
    cases hf : E.G.find? (fun p => Nat.beq p.1 g) with
    | none => simp only [VRel]
    | some p =>
      have hm := List.mem_of_find?_eq_some hf
      have he : p.1 = g := Nat.eq_of_beq_eq_true (by simpa using List.find?_some hf)
      obtain ⟨h1, h2, h3⟩ := h.globals p hm
      simp only [VRel]
      subst he
      exact ⟨p.1, 0, rfl, h1, h2, h3⟩
  | func f =>
    simp [cArg] at hc; subst hc
    simp only [Arg.ev, Act.eval, VRel]
    exact ⟨#[], #[], rfl, VRels.nil, VRels.nil⟩

theorem args_rel (h : Rel E M0 w0 N μ M a w x) {l : List Operand} {as : List Arg} (hc : l.mapM cArg = some as) :
    VRels M w μ (as.map (·.ev E.G x.t)) (l.map a.eval) := by
  obtain ⟨h1, h2⟩ := mapM_rel hc
  refine VRels.mk (by simp [h1]) fun i d v hd hv => ?_
  simp only [List.getElem?_map, Option.map_eq_some_iff] at hd hv
  obtain ⟨ar, har, rfl⟩ := hd
  obtain ⟨o, ho, rfl⟩ := hv
  exact arg_rel h (h2 i o ar ho har)

/-- The cells of a value. -/
theorem cells_rel {d : D} {cs : List D} {v : Value} (hc : d.cells? = some cs) (hv : VRel M w μ d v) : VRels M w μ cs v.cells.toList := by
  cases d <;> simp only [D.cells?, Option.some.injEq, reduceCtorEq] at hc
  case agg l => subst hc; simp only [VRel] at hv; obtain ⟨vs, rfl, h⟩ := hv; exact h
  all_goals
    subst hc
    refine VRels.mk ?_ ?_
  all_goals have hv' := hv
  all_goals simp only [VRel] at hv'
  all_goals first
    | subst hv'
    | (obtain ⟨_, rfl, _⟩ := hv')
    | (obtain ⟨_, _, rfl, _⟩ := hv')
    | (obtain ⟨_, _, _, rfl, _⟩ := hv')
    | (obtain ⟨_, _, _, _, rfl⟩ := hv')
    | (obtain ⟨_, _, _, _, rfl, _⟩ := hv')
  all_goals first
    | rfl
    | (intro i d' v' hd hv'
       cases i with
       | zero => simp [Value.cells] at hd hv'; subst hd; subst hv'; exact hv
       | succ i => simp at hd)

/-! Control of pointers: what a pointer sees. -/
theorem blk_cells (h : Rel E M0 w0 N μ M a w x) {nm : Nat} {blk : Blk} {cs : List D} (hs : sget x.s nm = some blk) (hb : blkCells blk = some cs) :
    ∃ l, μ nm = some l ∧ (l.blk = none → cs = []) ∧ ∀ b, l.blk = some b → M b ∧ b < w.heap.size ∧ ∃ vs e fz, w.heap[b]? = some (.cells vs e fz) ∧ Thaw vs.size fz ∧ cs.length ≤ vs.size ∧ vs.size = l.cap ∧
      VRels M w μ cs (vs.toList.take cs.length) := by
  have hB := h.st nm blk hs
  cases blk with
  | fix c =>
    simp [blkCells] at hb; subst hb
    obtain ⟨l, b, vs, e, fz, h1, h2, h3, h4, h5, h6, h7⟩ := hB
    refine ⟨l, h1, fun hn => (by rw [hn] at h2; cases h2), fun b' hb' => ?_⟩
    rw [h2] at hb'; cases hb'
    have hl := h7.length
    simp at hl
    refine ⟨h4, h.mlt b h4, vs, e, fz, h5, h6, by omega, by omega, ?_⟩
    rw [List.take_of_length_le (by simp; omega)]
    exact h7
  | grow c =>
    simp [blkCells] at hb; subst hb
    obtain ⟨l, h1, hh⟩ := hB
    rcases hh with ⟨h2, h3, h4⟩ | ⟨b, vs, e, fz, h2, h4, h5, h6, h7, h8, h9⟩
    · exact ⟨l, h1, fun _ => h3, fun b hb => (by rw [h2] at hb; cases hb)⟩
    · refine ⟨l, h1, fun hn => (by rw [hn] at h2; cases h2), fun b' hb' => ?_⟩
      rw [h2] at hb'; cases hb'
      exact ⟨h4, h.mlt b h4, vs, e, fz, h5, h6, by omega, h7, h9⟩
  | iter s p => simp [blkCells] at hb

theorem cell_in {b o : Nat} {vs : Array Value} {e : TypeId} {fz : Nat × Nat} {v : Value} (hb : w.heap[b]? = some (.cells vs e fz)) (hv : vs.toList[o]? = some v) :
    w.cell? ⟨b, o, none⟩ = some v := by
  simp only [World.cell?, hb]
  simpa using hv

theorem seen_rel (h : Rel E M0 w0 N μ M a w x) {d : D} {cs : List D} {off : Nat} {v : Value} (hs : seen x.s d = some (cs, off)) (hv : VRel M w μ d v) :
    ∃ b o, v = .pointer (some ⟨b, o + off, none⟩) ∧ ∀ (i : Nat) (e : D), cs[i]? = some e → ∃ v', w.cell? ⟨b, o + i, none⟩ = some v' ∧ VRel M w μ e v' := by
  cases d <;> simp only [seen, reduceCtorEq] at hs
  case ptr nm o =>
    cases hg : sget x.s nm with
    | none => rw [hg] at hs; cases hs
    | some blk =>
      rw [hg] at hs
      cases hb : blkCells blk with
      | none => simp [hb] at hs
      | some c =>
        simp [hb] at hs
        obtain ⟨rfl, rfl⟩ := hs
        obtain ⟨l, h1, h2, h3⟩ := blk_cells h hg hb
        simp only [VRel] at hv
        obtain ⟨l', b, h4, h5, rfl⟩ := hv
        rw [h1] at h4; cases h4
        obtain ⟨hM, hlt, vs, e, fz, h6, h7, h8, h9, h10⟩ := h3 b h5
        refine ⟨b, 0, by simp, fun i e' hi => ?_⟩
        obtain ⟨v', hv', hr⟩ := VRels.get i e' h10 hi
        rw [List.getElem?_take] at hv'
        split at hv'
        · exact ⟨v', by simpa using cell_in h6 hv', hr⟩
        · cases hv'
  case iptr c o =>
    simp at hs
    obtain ⟨rfl, rfl⟩ := hs
    simp only [VRel] at hv
    obtain ⟨b, o, rfl, hb, hlt, hc⟩ := hv
    refine ⟨b, o, rfl, fun i e hi => ?_⟩
    obtain ⟨v', hv', hr⟩ := CRel.get i e hc hi
    exact ⟨v', hv', VRel.mono (Ext.refl M w) e v' (mu0_le μ) hr⟩

theorem run_isAgg {P : Program} {t : TypeId} {b : Bool} (h : isAggT P t = some b) (w : World) : (isAgg t).run P w = .ok b w := by
  unfold isAggT at h
  cases hu : P.underlying t with
  | none => rw [hu] at h; cases h
  | some d =>
    rw [hu] at h
    simp only [isAgg, Sem.run_bind, run_underlying hu, Result.andThen_ok]
    cases d <;> simp at h <;> subst h <;> rfl

theorem run_typeInfo' {P : Program} {t : TypeId} {i : TypeInfo} (h : P.info? t = some i) (w : World) : (typeInfo t).run P w = .ok i w := by
  simp [typeInfo, h]

theorem run_sizeOf' {P : Program} {t : TypeId} {n : Nat} (h : szOf P t = some n) (w : World) : (Go.sizeOf t).run P w = .ok n w := by
  simp only [szOf, Option.map_eq_some_iff] at h
  obtain ⟨i, hi, rfl⟩ := h
  simp [Go.sizeOf, run_typeInfo' hi]

theorem cSz_some {P : Program} {t : TypeId} {r : Option Nat} (h : cSz P t = some r) : ∃ i b, P.info? t = some i ∧ isAggT P t = some b ∧ r = bif b then some i.size else none := by
  simp only [cSz, Option.bind_eq_bind, Option.bind_eq_some_iff, Option.some.injEq] at h
  obtain ⟨i, h1, b, h2, rfl⟩ := h
  exact ⟨i, b, h1, h2, rfl⟩

theorem run_loadVar_rel {P : Program} {b o off : Nat} {cs : List D} {t : TypeId} {sz : Option Nat} {d : D} (hs : cSz P t = some sz) (ht : takeAt cs off sz = some d)
    (hc : ∀ (i : Nat) (e : D), cs[i]? = some e → ∃ v', w.cell? ⟨b, o + i, none⟩ = some v' ∧ VRel M w μ e v') :
    ∃ v, (loadVar t ⟨b, o + off, none⟩).run P w = .ok v w ∧ VRel M w μ d v := by
  obtain ⟨i, bb, h1, h2, rfl⟩ := cSz_some hs
  simp only [loadVar, Sem.run_bind, run_isAgg h2, Result.andThen_ok]
  cases bb with
  | false =>
    simp only [cond_false, takeAt] at ht
    obtain ⟨v, hv, hr⟩ := hc off d ht
    refine ⟨v, ?_, hr⟩
    simp [run_load, hv]
  | true =>
    simp only [cond_true, takeAt] at ht
    cases hle : Nat.ble (off + i.size) cs.length with
    | false => rw [hle] at ht; cases ht
    | true =>
      rw [hle] at ht
      simp at ht; subst ht
      have hle' := Nat.le_of_ble_eq_true hle
      have hall : ∀ j, j < i.size → ∃ v', w.cell? ⟨b, o + off + j, none⟩ = some v' ∧ ∀ e, cs[off + j]? = some e → VRel M w μ e v' := by
        intro j hj
        obtain ⟨v', hv', hr⟩ := hc (off + j) cs[off + j] (List.getElem?_eq_getElem (by omega))
        refine ⟨v', by rw [← hv']; congr 2; omega, fun e he => ?_⟩
        rw [List.getElem?_eq_getElem (by omega)] at he; cases he; exact hr
      let f : Nat → Value := fun j => (w.cell? ⟨b, o + off + j, none⟩).getD undef
      have hrun := run_loadCells (P := P) w ⟨b, o + off, none⟩ i.size f (fun j hj => by
        obtain ⟨v', hv', _⟩ := hall j hj
        rw [Addr.add_lit, hv']; simp [f, hv'])
      refine ⟨.agg ((List.range i.size).map f).toArray, ?_, ?_⟩
      · simp only [if_true, Sem.run_bind, run_sizeOf' (show szOf P t = some i.size by simp [szOf, h1]), Result.andThen_ok, hrun, Sem.run_pure]
      · simp only [VRel]
        refine ⟨_, rfl, VRels.mk (by simp; omega) fun j e v he hv => ?_⟩
        simp only [List.getElem?_map, Option.map_eq_some_iff] at hv
        obtain ⟨k, hk, rfl⟩ := hv
        have hk' : k = j ∧ j < i.size := by
          rw [List.getElem?_eq_some_iff] at hk
          obtain ⟨h3, h4⟩ := hk
          simp at h3 h4
          exact ⟨h4.symm, h3⟩
        obtain ⟨rfl, hj⟩ := hk'
        obtain ⟨v', hv', hr⟩ := hall k hj
        have : f k = v' := by simp [f, hv']
        rw [this]
        refine hr e ?_
        rw [List.getElem?_take, if_pos hj] at he
        simpa using he
end

end Iv
/- The operations of the model do what the abstract ones say: those that write nothing. Conditions: none. -/
set_option linter.unusedSimpArgs false
set_option linter.unusedVariables false
namespace Iv
open Go

section
variable {E : Env} {M0 : Nat → Prop} {w0 : World} {N : Nat} {μ : Mu} {M : Nat → Prop} {a : Act} {w : World} {x : AS}

abbrev gd (E : Env) (M0 : Nat → Prop) (w0 : World) (N : Nat) (a : Act) (d : D) (x' : AS) (w : World) (s : Sem Next) : Prop := Good E M0 w0 N a d x' (s.run E.P w)

theorem run_value {P : Program} {s : Sem Value} {v : Value} {w w' : World} (h : s.run P w = .ok v w') : (do pure (.value (← s)) : Sem Next).run P w = .ok (.value v) w' := by
  simp [h]

theorem op_mv (h : Rel E M0 w0 N μ M a w x) {o : Operand} {ar : Arg} (hc : cArg o = some ar) {d : D} {x' : AS} (hs : step E.G (.mv ar) x = some (d, x')) :
    gd E M0 w0 N a d x' w (pure (.value (a.eval o))) := by
  simp [step] at hs
  obtain ⟨rfl, rfl⟩ := hs
  exact Good.of h (by simp) (arg_rel h hc)

theorem bool_of {d : D} {b : Bool} {v : Value} (hd : d = .bool b) (h : VRel M w μ d v) : v = .bool b := by subst hd; simpa only [VRel] using h
theorem int_of {d : D} {k : IntKind} {n : Int} {v : Value} (hd : d = .int k n) (h : VRel M w μ d v) : v = .int k n := by subst hd; simpa only [VRel] using h
theorem str_of {d : D} {s : List UInt8} {v : Value} (hd : d = .str s) (h : VRel M w μ d v) : v = .string ⟨s.toArray⟩ := by subst hd; simpa only [VRel] using h

theorem op_pick (h : Rel E M0 w0 N μ M a w x) {c p q : Operand} {c' p' q' : Arg} (h1 : cArg c = some c') (h2 : cArg p = some p') (h3 : cArg q = some q') {d : D} {x' : AS}
    (hs : step E.G (.pick c' p' q') x = some (d, x')) :
    gd E M0 w0 N a d x' w (do pure (.value (if ← asBool (a.eval c) then a.eval p else a.eval q))) := by
  have hv := arg_rel h h1
  simp only [step] at hs
  split at hs
  · rename_i b hb
    rw [hb] at hv
    simp only [VRel] at hv
    simp at hs
    obtain ⟨rfl, rfl⟩ := hs
    cases b
    · exact Good.of h (by simp [hv, asBool]) (arg_rel h h3)
    · exact Good.of h (by simp [hv, asBool]) (arg_rel h h2)
  · cases hs

theorem op_ld (h : Rel E M0 w0 N μ M a w x) {t : TypeId} {sz : Option Nat} {o : Operand} {ar : Arg} (h1 : cSz E.P t = some sz) (h2 : cArg o = some ar) {d : D} {x' : AS}
    (hs : step E.G (.ld sz ar) x = some (d, x')) : gd E M0 w0 N a d x' w (do pure (.value (← Instr.loadAt t (a.eval o)))) := by
  have hv := arg_rel h h2
  simp only [step, Option.bind_eq_bind, Option.bind_eq_some_iff, Option.some.injEq] at hs
  obtain ⟨⟨cs, off⟩, hse, d', hta, hs⟩ := hs
  cases hs
  obtain ⟨b, p, hval, hcells⟩ := seen_rel h hse hv
  obtain ⟨v, hrun, hr⟩ := run_loadVar_rel (P := E.P) h1 hta hcells
  exact Good.of h (run_value (by simp [Instr.loadAt, Instr.sureAddr, hval, hrun])) hr

theorem run_fieldAt {P : Program} {t : TypeId} {fs : Array Field} {i : Nat} {f : Field} {s b o : Nat} (hu : P.underlying t = some (.struct fs)) (hf : fs[i]? = some f)
    (hsz : szOf P f.type = some s) (h0 : Nat.beq s 0 = false) (w : World) :
    (Instr.fieldAt t (.pointer (some ⟨b, o, none⟩)) i).run P w = .ok (.pointer (some ⟨b, o + f.offset, none⟩)) w := by
  have hs0 : s ≠ 0 := fun e => by subst e; simp at h0
  simp [Instr.fieldAt, run_underlying hu, hf, Instr.sureAddr, fieldPlace, run_sizeOf' hsz, hs0, Addr.add_lit]

theorem op_fa (h : Rel E M0 w0 N μ M a w x) {t : TypeId} {fs : Array Field} {i : Nat} {f : Field} {s : Nat} (hu : E.P.underlying t = some (.struct fs)) (hf : fs[i]? = some f)
    (hsz : szOf E.P f.type = some s) (h0 : Nat.beq s 0 = false) {o : Operand} {ar : Arg} (h2 : cArg o = some ar) {d : D} {x' : AS}
    (hs : step E.G (.fa f.offset ar) x = some (d, x')) : gd E M0 w0 N a d x' w (do pure (.value (← Instr.fieldAt t (a.eval o) i))) := by
  have hv := arg_rel h h2
  simp only [step] at hs
  split at hs
  · rename_i nm off he
    rw [he] at hv
    simp only [VRel] at hv
    obtain ⟨l, b, h3, h4, h5⟩ := hv
    cases hs
    refine Good.of h (run_value (by rw [h5]; exact run_fieldAt hu hf hsz h0 w)) ?_
    simp only [VRel]
    exact ⟨l, b, h3, h4, rfl⟩
  · rename_i cs off he
    rw [he] at hv
    simp only [VRel] at hv
    obtain ⟨b, p, h5, h3, h4, h6⟩ := hv
    cases hs
    refine Good.of h (run_value (by rw [h5]; exact run_fieldAt hu hf hsz h0 w)) ?_
    simp only [VRel]
    exact ⟨b, p, by rw [Nat.add_assoc], h3, h4, h6⟩
  · cases hs

theorem idxD_some {n k : Nat} {d : D} (h : idxD n d = some k) : ∃ kd i, d = .int kd i ∧ 0 ≤ i ∧ i < n ∧ k = i.toNat := by
  cases d <;> simp only [idxD, reduceCtorEq] at h
  rename_i kd i
  split at h
  · rename_i hi
    cases h
    exact ⟨kd, i, rfl, hi.1, hi.2, rfl⟩
  · cases h

theorem op_iaA (h : Rel E M0 w0 N μ M a w x) {t e : TypeId} {n sz : Nat} (hu : E.P.underlying t = some (.array n e)) (hsz : szOf E.P e = some sz)
    {o p : Operand} {ar pr : Arg} (h2 : cArg o = some ar) (h3 : cArg p = some pr) {d : D} {x' : AS}
    (hs : step E.G (.iaA n sz ar pr) x = some (d, x')) : gd E M0 w0 N a d x' w (do pure (.value (← Instr.indexAt t (a.eval o) (a.eval p)))) := by
  have hv := arg_rel h h2
  have hi := arg_rel h h3
  simp only [step, Option.bind_eq_bind, Option.bind_eq_some_iff] at hs
  obtain ⟨k, hk, hs⟩ := hs
  obtain ⟨kd, i, he, hi0, hin, rfl⟩ := idxD_some hk
  rw [he] at hi
  simp only [VRel] at hi
  split at hs
  · rename_i nm off he
    rw [he] at hv
    simp only [VRel] at hv
    obtain ⟨l, b, h4, h5, h6⟩ := hv
    cases hs
    refine Good.of (v := .pointer (some ⟨b, off + i.toNat * sz, none⟩)) h (run_value ?_) ?_
    · simp [Instr.indexAt, hi, h6, asIntOf, run_underlying hu, Instr.sureAddr, hi0, hin, run_sizeOf' hsz, Addr.add_lit]
    · simp only [VRel]; exact ⟨l, b, h4, h5, rfl⟩
  · rename_i cs off he
    rw [he] at hv
    simp only [VRel] at hv
    obtain ⟨b, q, h6, h4, h5, h7⟩ := hv
    cases hs
    refine Good.of (v := .pointer (some ⟨b, q + off + i.toNat * sz, none⟩)) h (run_value ?_) ?_
    · simp [Instr.indexAt, hi, h6, asIntOf, run_underlying hu, Instr.sureAddr, hi0, hin, run_sizeOf' hsz, Addr.add_lit]
    · simp only [VRel]; exact ⟨b, q, by rw [Nat.add_assoc], h4, h5, h7⟩
  · cases hs

theorem run_indexAt_s {P : Program} {t e : TypeId} {sz : Nat} (hu : P.underlying t = some (.slice e)) (hsz : szOf P e = some sz) {b off len cap : Nat} {kd : IntKind} {i : Int}
    (hi0 : 0 ≤ i) (hin : i < len) (w : World) : (Instr.indexAt t (.slice (some ⟨b, off, none⟩) len cap) (.int kd i)).run P w = .ok (.pointer (some ⟨b, off + i.toNat * sz, none⟩)) w := by
  simp [Instr.indexAt, asIntOf, run_underlying hu, hi0, hin, run_sizeOf' hsz, Addr.add_lit]

theorem op_iaS (h : Rel E M0 w0 N μ M a w x) {t e : TypeId} {sz : Nat} (hu : E.P.underlying t = some (.slice e)) (hsz : szOf E.P e = some sz)
    {o p : Operand} {ar pr : Arg} (h2 : cArg o = some ar) (h3 : cArg p = some pr) {d : D} {x' : AS}
    (hs : step E.G (.iaS sz ar pr) x = some (d, x')) : gd E M0 w0 N a d x' w (do pure (.value (← Instr.indexAt t (a.eval o) (a.eval p)))) := by
  have hv := arg_rel h h2
  have hi := arg_rel h h3
  simp only [step] at hs
  split at hs
  · rename_i ex len cs he
    rw [he] at hv
    simp only [Option.bind_eq_bind, Option.bind_eq_some_iff] at hs
    obtain ⟨k, hk, hs⟩ := hs
    obtain ⟨kd, i, he', hi0, hin, rfl⟩ := idxD_some hk
    rw [he'] at hi
    simp only [VRel] at hi hv
    obtain ⟨ad, cap, h4, h5, h6, h7⟩ := hv
    cases hs
    rcases h7 with h7 | ⟨b, q, rfl, h8, h9, h10⟩
    · omega
    refine Good.of h (run_value (by rw [h4, hi]; exact run_indexAt_s hu hsz hi0 hin w)) ?_
    simp only [VRel]; exact ⟨b, q, rfl, h8, h9, h10⟩
  · rename_i nm off z len cap he
    rw [he] at hv
    simp only [Option.bind_eq_bind, Option.bind_eq_some_iff] at hs
    obtain ⟨k, hk, hs⟩ := hs
    obtain ⟨kd, i, he', hi0, hin, rfl⟩ := idxD_some hk
    rw [he'] at hi
    simp only [VRel] at hi hv
    obtain ⟨l, b, h4, h5, h6, h7⟩ := hv
    cases hz : Nat.beq z sz <;> rw [hz] at hs <;> cases hs
    refine Good.of h (run_value (by rw [h6, hi]; exact run_indexAt_s hu hsz hi0 hin w)) ?_
    simp only [VRel]; exact ⟨l, b, h4, h5, rfl⟩
  · rename_i nm off z len he
    rw [he] at hv
    simp only [Option.bind_eq_bind, Option.bind_eq_some_iff] at hs
    obtain ⟨k, hk, hs⟩ := hs
    obtain ⟨kd, i, he', hi0, hin, rfl⟩ := idxD_some hk
    rw [he'] at hi
    simp only [VRel] at hi hv
    obtain ⟨l, cap, h4, h6, h7, h8, h9⟩ := hv
    cases hz : Nat.beq z sz <;> rw [hz] at hs <;> cases hs
    cases hb : l.blk with
    | none => have := h9 hb; omega
    | some b =>
      rw [hb] at h6
      refine Good.of h (run_value (by rw [h6, hi]; exact run_indexAt_s hu hsz hi0 hin w)) ?_
      simp only [VRel]; exact ⟨l, b, h4, hb, rfl⟩
  · cases hs

/-- A part of the cells of a struct or an array. -/
theorem part_rel {P : Program} {cs : List D} {vs : Array Value} (hr : VRels M w μ cs vs.toList) {off : Nat} {t : TypeId} {bb : Bool} {n : Nat} (h1 : isAggT P t = some bb) (h2 : szOf P t = some n) {d : D}
    (ht : takeAt cs off (bif bb then some n else none) = some d) : ∃ v, (part t vs off).run P w = .ok v w ∧ VRel M w μ d v := by
  simp only [part, Sem.run_bind, run_isAgg h1, Result.andThen_ok]
  cases bb with
  | false =>
    simp only [cond_false, takeAt] at ht
    obtain ⟨v, hv, hd⟩ := VRels.get off d hr ht
    refine ⟨v, ?_, hd⟩
    have : vs[off]? = some v := by simpa using hv
    simp [this]
  | true =>
    simp only [cond_true, takeAt] at ht
    cases hle : Nat.ble (off + n) cs.length with
    | false => rw [hle] at ht; cases ht
    | true =>
      rw [hle] at ht
      simp at ht; subst ht
      refine ⟨.agg (vs.extract off (off + n)), by simp [run_sizeOf' h2], ?_⟩
      simp only [VRel]
      refine ⟨_, rfl, ?_⟩
      have : (vs.extract off (off + n)).toList = (vs.toList.drop off).take n := by
        rw [Array.toList_extract, List.extract_eq_take_drop]; congr 1; omega
      rw [this]
      exact (hr.drop off).take n

theorem op_ixA (h : Rel E M0 w0 N μ M a w x) {t e : TypeId} {n sz : Nat} {bb : Bool} (hu : E.P.underlying t = some (.array n e)) (hsz : szOf E.P e = some sz) (hag : isAggT E.P e = some bb)
    {o p : Operand} {ar pr : Arg} (h2 : cArg o = some ar) (h3 : cArg p = some pr) {d : D} {x' : AS}
    (hs : step E.G (.ixA n sz bb ar pr) x = some (d, x')) : gd E M0 w0 N a d x' w (do pure (.value (← Instr.index t (a.eval o) (a.eval p)))) := by
  have hv := arg_rel h h2
  have hi := arg_rel h h3
  simp only [step] at hs
  split at hs
  · rename_i cs he
    rw [he] at hv
    simp only [Option.bind_eq_bind, Option.bind_eq_some_iff] at hs
    obtain ⟨k, hk, d', hd, hs⟩ := hs
    obtain ⟨kd, i, he', hi0, hin, rfl⟩ := idxD_some hk
    rw [he'] at hi
    simp only [VRel] at hi hv
    obtain ⟨vs, h4, h5⟩ := hv
    cases hs
    obtain ⟨v, hrun, hr⟩ := part_rel (P := E.P) h5 hag hsz hd
    exact Good.of h (run_value (by simp [Instr.index, hi, h4, asIntOf, run_underlying hu, hi0, hin, run_sizeOf' hsz, hrun])) hr
  · cases hs

theorem op_ixS (h : Rel E M0 w0 N μ M a w x) {t : TypeId} (hu : E.P.underlying t = some .string)
    {o p : Operand} {ar pr : Arg} (h2 : cArg o = some ar) (h3 : cArg p = some pr) {d : D} {x' : AS}
    (hs : step E.G (.ixS ar pr) x = some (d, x')) : gd E M0 w0 N a d x' w (do pure (.value (← Instr.index t (a.eval o) (a.eval p)))) := by
  have hv := arg_rel h h2
  have hi := arg_rel h h3
  simp only [step] at hs
  split at hs
  · rename_i s he
    rw [he] at hv
    simp only [Option.bind_eq_bind, Option.bind_eq_some_iff] at hs
    obtain ⟨k, hk, b, hb, hs⟩ := hs
    obtain ⟨kd, i, he', hi0, hin, rfl⟩ := idxD_some hk
    rw [he'] at hi
    simp only [VRel] at hi hv
    cases hs
    have hb' : (⟨s.toArray⟩ : ByteArray)[i.toNat]? = some b := by
      rw [List.getElem?_eq_some_iff] at hb
      obtain ⟨hlt, hb⟩ := hb
      have hsz : i.toNat < (⟨s.toArray⟩ : ByteArray).size := by simpa [ByteArray.size] using hlt
      rw [getElem?_pos (⟨s.toArray⟩ : ByteArray) i.toNat hsz]
      simp only [Option.some.injEq]
      subst hb
      simp [ByteArray.getElem_eq_getElem_data]
    refine Good.of (v := .int .u8 b.toNat) h (run_value ?_) (by simp only [VRel])
    simp [Instr.index, hi, hv, asIntOf, run_underlying hu, hi0, hb']
  · cases hs

theorem op_fld (h : Rel E M0 w0 N μ M a w x) {t : TypeId} {fs : Array Field} {i : Nat} {f : Field} {sz : Option Nat} (hu : E.P.underlying t = some (.struct fs)) (hf : fs[i]? = some f)
    (hsz : cSz E.P f.type = some sz) {o : Operand} {ar : Arg} (h2 : cArg o = some ar) {d : D} {x' : AS}
    (hs : step E.G (.fld f.offset sz ar) x = some (d, x')) : gd E M0 w0 N a d x' w (do pure (.value (← Instr.field t (a.eval o) i))) := by
  have hv := arg_rel h h2
  simp only [step] at hs
  split at hs
  · rename_i cs he
    rw [he] at hv
    simp only [Option.bind_eq_bind, Option.bind_eq_some_iff] at hs
    obtain ⟨d', hd, hs⟩ := hs
    simp only [VRel] at hv
    obtain ⟨vs, h4, h5⟩ := hv
    cases hs
    obtain ⟨ii, bb, h6, h7, rfl⟩ := cSz_some hsz
    obtain ⟨v, hrun, hr⟩ := part_rel (P := E.P) h5 h7 (show szOf E.P f.type = some ii.size by simp [szOf, h6]) hd
    exact Good.of h (run_value (by simp [Instr.field, run_underlying hu, hf, h4, asAgg, hrun])) hr
  · cases hs

theorem op_ext (h : Rel E M0 w0 N μ M a w x) {i : Nat} {o : Operand} {ar : Arg} (h2 : cArg o = some ar) {d : D} {x' : AS}
    (hs : step E.G (.ext i ar) x = some (d, x')) : gd E M0 w0 N a d x' w (do pure (.value (← Instr.extract (a.eval o) i))) := by
  have hv := arg_rel h h2
  simp only [step] at hs
  split at hs
  · rename_i cs he
    rw [he] at hv
    simp only [Option.bind_eq_bind, Option.bind_eq_some_iff] at hs
    obtain ⟨d', hd, hs⟩ := hs
    simp only [VRel] at hv
    obtain ⟨vs, h4, h5⟩ := hv
    cases hs
    obtain ⟨v, hv', hr⟩ := VRels.get i _ h5 hd
    have : vs[i]? = some v := by simpa using hv'
    exact Good.of h (run_value (by simp [Instr.extract, h4, this])) hr
  · cases hs

theorem op_mkif (h : Rel E M0 w0 N μ M a w x) {t : TypeId} {ds : TypeDesc} (hu : E.P.underlying t = some ds) (hn : ∀ ms, ds ≠ .interface ms) {o : Operand} {ar : Arg} (h2 : cArg o = some ar) {d : D} {x' : AS}
    (hs : step E.G (.mkif t ar) x = some (d, x')) : gd E M0 w0 N a d x' w (do pure (.value (← Instr.makeInterface t (a.eval o)))) := by
  have hv := arg_rel h h2
  simp only [step] at hs
  cases hs
  refine Good.of (v := .iface t (a.eval o)) h (run_value ?_) (by simp only [VRel]; exact ⟨_, rfl, hv⟩)
  simp only [Instr.makeInterface, Sem.run_bind, run_underlying hu, Result.andThen_ok]
  cases ds <;> first | rfl | exact absurd rfl (hn _)

theorem op_mkfn (h : Rel E M0 w0 N μ M a w x) {f : Fn} {p q : Array Operand} {p' q' : List Arg} (h2 : cArgs p = some p') (h3 : cArgs q = some q') {d : D} {x' : AS}
    (hs : step E.G (.mkfn f p' q') x = some (d, x')) : gd E M0 w0 N a d x' w (do pure (.value (← Instr.makeFunc f (p.map a.eval) (q.map a.eval)))) := by
  simp only [step] at hs
  cases hs
  refine Good.of (v := .func f (p.map a.eval) (q.map a.eval)) h (run_value rfl) ?_
  simp only [VRel]
  refine ⟨_, _, rfl, ?_, ?_⟩
  · simpa using args_rel h h2
  · simpa using args_rel h h3

theorem op_nilc (h : Rel E M0 w0 N μ M a w x) {o : Operand} {ar : Arg} {oo : Oper} (ho : oo.op = .nilCheck o) (h2 : cArg o = some ar) {d : D} {x' : AS}
    (hs : step E.G (.nilc ar) x = some (d, x')) : gd E M0 w0 N a d x' w (execOp a.eval oo) := by
  have hv := arg_rel h h2
  simp only [step] at hs
  have key : ∀ v, a.eval o = v → VRel M w μ d v → x' = x → (v ≠ .pointer none ∧ v ≠ .nilIface ∧ v ≠ .nilFunc ∧ ∀ n f c, v ≠ .func (.method n) f c) → gd E M0 w0 N a d x' w (execOp a.eval oo) := by
    intro v he hd hx hn
    subst hx
    refine Good.of (v := v) h ?_ hd
    simp only [execOp, ho]
    rw [he]
    obtain ⟨n1, n2, n3, n4⟩ := hn
    split
    · exact absurd rfl n1
    · exact absurd rfl n2
    · exact absurd rfl n3
    · exact absurd rfl (n4 _ _ _)
    · simp
  split at hs
  · rename_i nm off he
    rw [he] at hv
    cases hs
    have hv' := hv
    simp only [VRel] at hv'
    obtain ⟨l, b, h3, h4, h5⟩ := hv'
    exact key _ rfl hv rfl (by rw [h5]; simp)
  · rename_i cs off he
    rw [he] at hv
    cases hs
    have hv' := hv
    simp only [VRel] at hv'
    obtain ⟨b, q, h5, _⟩ := hv'
    exact key _ rfl hv rfl (by rw [h5]; simp)
  · rename_i f p q he
    rw [he] at hv
    cases hs
    have hv' := hv
    simp only [VRel] at hv'
    obtain ⟨va, vb, h5, _⟩ := hv'
    exact key _ rfl hv rfl (by rw [h5]; simp)
  · cases hs

theorem fitsD_iff (k : IntKind) (n : Int) : fitsD k n = true ↔ -(loK k : Int) ≤ n ∧ n ≤ (hiK k : Int) := by
  cases n with
  | ofNat m => simp only [fitsD, Nat.ble_eq, Int.ofNat_eq_natCast]; omega
  | negSucc m => simp only [fitsD, Nat.ble_eq]; omega

theorem wrapD_eq (k : IntKind) (n : Int) : wrapD k n = k.wrap n := by
  unfold wrapD
  cases h : fitsD k n with
  | false => rfl
  | true =>
    rw [fitsD_iff] at h
    cases k <;> simp only [loK, hiK] at h <;> simp only [cond_true, IntKind.wrap, IntKind.bits, IntKind.signed] <;> simp <;> first | omega | (split <;> omega)

theorem wrapD_fits {k : IntKind} {n : Int} (h1 : -(loK k : Int) ≤ n) (h2 : n ≤ (hiK k : Int)) : wrapD k n = n := by
  unfold wrapD
  rw [(fitsD_iff k n).2 ⟨h1, h2⟩]; rfl

theorem bits_rel {op : BinOp} {k : IntKind} {p q : Int} {d : D} (hs : bitsD op k p q = some d) (P : Program) (w : World) : ∃ n, d = .int k n ∧ (Op.intBits op k p q).run P w = .ok (.int k n) w := by
  cases op <;> simp only [bitsD, Option.some.injEq, reduceCtorEq] at hs <;> subst hs <;> exact ⟨_, rfl, by simp [Op.intBits]⟩

theorem int_rel {op : BinOp} {k : IntKind} {p q : Int} {d : D} (hs : intD op k p q = some d) (hsh : op ≠ .shl) (hsr : op ≠ .shr) (P : Program) (t : TypeId) (w : World) :
    ∃ v, VRel M w μ d v ∧ (binOp op t (.int k p) (.int k q)).run P w = .ok v w := by
  cases op
  case shl => exact absurd rfl hsh
  case shr => exact absurd rfl hsr
  case quo =>
    simp only [intD] at hs
    split at hs
    · cases hs
    · rename_i h0
      cases hs
      exact ⟨_, by simp only [VRel]; rfl, by simp [binOp, Op.intDiv, h0, wrapD_eq]⟩
  case rem =>
    simp only [intD] at hs
    split at hs
    · cases hs
    · rename_i h0
      cases hs
      exact ⟨_, by simp only [VRel]; rfl, by simp [binOp, Op.intDiv, h0, wrapD_eq]⟩
  case and => obtain ⟨n, rfl, h⟩ := bits_rel (by simpa only [intD] using hs) P w; exact ⟨_, by simp only [VRel]; rfl, by simpa [binOp] using h⟩
  case or => obtain ⟨n, rfl, h⟩ := bits_rel (by simpa only [intD] using hs) P w; exact ⟨_, by simp only [VRel]; rfl, by simpa [binOp] using h⟩
  case xor => obtain ⟨n, rfl, h⟩ := bits_rel (by simpa only [intD] using hs) P w; exact ⟨_, by simp only [VRel]; rfl, by simpa [binOp] using h⟩
  case andNot => obtain ⟨n, rfl, h⟩ := bits_rel (by simpa only [intD] using hs) P w; exact ⟨_, by simp only [VRel]; rfl, by simpa [binOp] using h⟩
  all_goals
    simp only [intD, Option.some.injEq] at hs
    subst hs
    exact ⟨_, by simp only [VRel]; rfl, by simp [binOp, Op.intArith, Op.intCmp, wrapD_eq]⟩

theorem sh_rel {op : BinOp} {k j : IntKind} {p q : Int} {d : D} (hs : shD op k p q = some d) (P : Program) (t : TypeId) (w : World) :
    ∃ v, VRel M w μ d v ∧ (Op.shift op k p j q).run P w = .ok v w := by
  simp only [shD] at hs
  split at hs
  · cases hs
  · rename_i h0
    cases op <;> simp only [Option.some.injEq, reduceCtorEq] at hs <;> subst hs
    · exact ⟨_, by simp only [VRel]; rfl, by simp [Op.shift, h0, wrapD_eq]⟩
    · exact ⟨_, by simp only [VRel]; rfl, by simp [Op.shift, h0]⟩

theorem toList_mk (s : List UInt8) : (⟨s.toArray⟩ : ByteArray).toList = s := by simp

theorem strD_rel {op : BinOp} {p q : List UInt8} {d : D} (hs : strD op p q = some d) (P : Program) (t : TypeId) (w : World) :
    ∃ v, VRel M w μ d v ∧ (binOp op t (.string ⟨p.toArray⟩) (.string ⟨q.toArray⟩)).run P w = .ok v w := by
  have e : ∀ op', (binOp op' t (.string ⟨p.toArray⟩) (.string ⟨q.toArray⟩)) = Op.stringOp op' ⟨p.toArray⟩ ⟨q.toArray⟩ := by intro op'; cases op' <;> rfl
  rw [e]
  cases op <;> simp only [strD, Option.some.injEq, reduceCtorEq] at hs
  case add =>
    cases hle : Nat.ble (p.length + q.length) 9223372036854775807 with
    | false => rw [hle] at hs; cases hs
    | true =>
      rw [hle] at hs
      simp at hs; subst hs
      have hle' := Nat.le_of_ble_eq_true hle
      refine ⟨.string (⟨p.toArray⟩ ++ ⟨q.toArray⟩), ?_, ?_⟩
      · simp only [VRel, Value.string.injEq]
        apply ByteArray.ext
        simp
      · have hno : ¬ (((⟨p.toArray⟩ : ByteArray).size + (⟨q.toArray⟩ : ByteArray).size : Nat) : Int) > IntKind.i64.max := by
          simp only [IntKind.max_i64, ByteArray.size]
          simp
          omega
        simp only [Op.stringOp]
        rw [if_neg hno]
        simp
  all_goals
    subst hs
    exact ⟨_, by simp only [VRel]; rfl, by simp [Op.stringOp, toList_mk]⟩
end

end Iv
/- The operations of the model do what the abstract ones say: comparisons, literals, lengths, cuts, conversions. Conditions: none. -/
set_option linter.unusedSimpArgs false
set_option linter.unusedVariables false
namespace Iv
open Go

section
variable {E : Env} {M0 : Nat → Prop} {w0 : World} {N : Nat} {μ : Mu} {M : Nat → Prop} {a : Act} {w : World} {x : AS}

theorem beq_mk (p q : List UInt8) : (p == q) = ((⟨p.toArray⟩ : ByteArray).toList == (⟨q.toArray⟩ : ByteArray).toList) := by rw [toList_mk, toList_mk]

theorem run_equalIn_array {P : Program} (d : Nat) (t e : TypeId) (len n : Nat) (xs ys : Array Value) (hu : P.underlying t = some (.array len e)) (hs : szOf P e = some n) (K : List Nat → Sem Bool)
    (hK0 : K [] = pure true) (hK : ∀ i r, K (i :: r) = (do
      let p ← part e xs (i * n)
      let q ← part e ys (i * n)
      let b ← Op.equalIn d e p q
      if (!b) = true then pure false else K r)) (w : World) :
    (Op.equalIn (d + 1) t (.agg xs) (.agg ys)).run P w = (K (List.range len)).run P w := by
  simp only [Op.equalIn, Sem.run_bind, run_underlying hu, Result.andThen_ok, run_sizeOf' hs]
  simp only [Std.Legacy.Range.forIn_eq_forIn_range', Std.Legacy.Range.size]
  rw [List.range_eq_range']
  simp only [Nat.sub_zero, Nat.add_sub_cancel, Nat.div_one]
  generalize List.range' 0 len = l
  induction l generalizing w with
  | nil => simp [hK0]
  | cons i r ih =>
    simp only [List.forIn_cons, hK, Sem.run_bind, Sem.run_ite]
    generalize (part e xs (i * n)).run P w = r1
    cases r1 with
    | ok p w1 =>
      simp only [Result.andThen_ok]
      generalize (part e ys (i * n)).run P w1 = r2
      cases r2 with
      | ok q w2 =>
        simp only [Result.andThen_ok]
        generalize (Op.equalIn d e p q).run P w2 = r3
        cases r3 with
        | ok b w3 =>
          cases b
          · simp only [Result.andThen_ok, Bool.not_false, if_true, Sem.run_pure]
          · simp only [Result.andThen_ok, Bool.not_true, Bool.false_eq_true, if_false, Sem.run_pure]
            exact ih w3
        | halt y w3 => simp [Result.andThen]
      | halt y w2 => simp [Result.andThen]
    | halt y w1 => simp [Result.andThen]

theorem eq_fields {P : Program} {n : Nat} (ih : ∀ (t : TypeId) (e : ET) (d1 d2 : D) (r : Bool) (v1 v2 : Value), eT P n t = some e → eqT e d1 d2 = some r → VRel M w μ d1 v1 → VRel M w μ d2 v2 →
      ∀ k, n ≤ k → (Op.equalIn k t v1 v2).run P w = .ok r w) {k : Nat} (hk : n ≤ k) {cs ds : List D} {vs us : Array Value} (h1 : VRels M w μ cs vs.toList) (h2 : VRels M w μ ds us.toList) :
    ∀ (fs : List Field) (l : List (Nat × Option Nat × ET)) (r : Bool),
      List.mapM (fun (f : Field) => do
        let s ← cSz P f.type
        let e ← eT P n f.type
        some (f.offset, s, e)) (fs.filter (fun f => f.name != "_")) = some l → eqTs l cs ds = some r → (Op.eqFields k vs us fs).run P w = .ok r w
  | [], l, r, hl, hr => by
    simp at hl; subst hl
    simp [eqTs] at hr; subst hr
    simp [Op.eqFields]
  | f :: fs, l, r, hl, hr => by
    simp only [Op.eqFields]
    by_cases hf : f.name = "_"
    · rw [List.filter_cons_of_neg (by simp [hf])] at hl
      simp only [hf, ne_eq, not_true_eq_false, if_false]
      exact eq_fields ih hk h1 h2 fs l r hl hr
    · rw [List.filter_cons_of_pos (by simpa using hf)] at hl
      simp only [ne_eq, hf, not_false_eq_true, if_true]
      simp only [List.mapM_cons, Option.bind_eq_bind, Option.bind_eq_some_iff, Option.pure_def, Option.some.injEq] at hl
      obtain ⟨p, ⟨s, hs, e, he, rfl⟩, l', hl', rfl⟩ := hl
      simp only [eqTs] at hr
      obtain ⟨i, bb, h3, h4, rfl⟩ := cSz_some hs
      have hsz : szOf P f.type = some i.size := by simp [szOf, h3]
      split at hr
      · rename_i d1 d2 hd1 hd2
        obtain ⟨v1, hv1, hr1⟩ := part_rel (P := P) h1 h4 hsz hd1
        obtain ⟨v2, hv2, hr2⟩ := part_rel (P := P) h2 h4 hsz hd2
        split at hr
        · rename_i b hb
          have heq := ih f.type e d1 d2 b v1 v2 he hb hr1 hr2 k hk
          simp only [Sem.run_bind, hv1, hv2, heq, Result.andThen_ok]
          cases b with
          | false => simp at hr; subst hr; simp
          | true =>
            simp at hr
            simpa using eq_fields ih hk h1 h2 fs l' r hl' hr
        · cases hr
      · cases hr

theorem eqT_rel {P : Program} : ∀ (n : Nat) (t : TypeId) (e : ET) (d1 d2 : D) (r : Bool) (v1 v2 : Value), eT P n t = some e → eqT e d1 d2 = some r → VRel M w μ d1 v1 → VRel M w μ d2 v2 →
      ∀ k, n ≤ k → (Op.equalIn k t v1 v2).run P w = .ok r w
  | 0, t, e, d1, d2, r, v1, v2, he, hr, h1, h2, k, hk => by simp [eT] at he
  | n + 1, t, e, d1, d2, r, v1, v2, he, hr, h1, h2, k, hk => by
    obtain ⟨k, rfl⟩ : ∃ m, k = m + 1 := ⟨k - 1, by omega⟩
    simp only [eT] at he
    split at he
    · rename_i hu
      cases he
      cases d1 <;> cases d2 <;> simp only [eqT, reduceCtorEq] at hr
      simp at hr; subst hr
      simp only [VRel] at h1 h2; subst h1; subst h2
      exact run_equalIn_bool' w k t _ _ hu
    · rename_i kd hu
      cases he
      cases d1 <;> cases d2 <;> simp only [eqT, reduceCtorEq] at hr
      split at hr
      · simp at hr; subst hr
        simp only [VRel] at h1 h2; subst h1; subst h2
        rename_i hkk; subst hkk
        exact run_equalIn_int w k t _ _ _ _ hu
      · cases hr
    · rename_i hu
      cases he
      cases d1 <;> cases d2 <;> simp only [eqT, reduceCtorEq] at hr
      simp at hr; subst hr
      simp only [VRel] at h1 h2; subst h1; subst h2
      rw [beq_mk]
      exact run_equalIn_string w k t _ _ hu
    · rename_i fs hu
      cases hp : P.stoodInHeld t with
      | true => rw [hp] at he; cases he
      | false =>
        rw [hp] at he
        simp only [cond_false, Option.map_eq_some_iff] at he
        obtain ⟨l, hl, rfl⟩ := he
        cases d1 <;> cases d2 <;> simp only [eqT, reduceCtorEq] at hr
        simp only [VRel] at h1 h2
        obtain ⟨vs, rfl, h1⟩ := h1
        obtain ⟨us, rfl, h2⟩ := h2
        have hfs : P.fieldsOf t = fs := by simp [Program.fieldsOf, hu]
        rw [run_equalIn_struct w k t vs us (by rw [hfs]; exact hu) hp, hfs]
        exact eq_fields (fun t e d1 d2 r v1 v2 a b c d k hk => eqT_rel n t e d1 d2 r v1 v2 a b c d k hk) (by omega) h1 h2 _ l r hl hr
    · rename_i len el hu
      simp only [Option.bind_eq_bind, Option.bind_eq_some_iff, Option.some.injEq] at he
      obtain ⟨s, hs, sz, hsz, e', he', rfl⟩ := he
      cases d1 <;> cases d2 <;> simp only [eqT, reduceCtorEq] at hr
      simp only [VRel] at h1 h2
      obtain ⟨vs, rfl, h1⟩ := h1
      obtain ⟨us, rfl, h2⟩ := h2
      let K : List Nat → Sem Bool := fun l => l.foldr (fun i r => do
        let p ← part el vs (i * sz)
        let q ← part el us (i * sz)
        let b ← Op.equalIn k el p q
        if (!b) = true then pure false else r) (pure true)
      rw [run_equalIn_array k t el len sz vs us hu hsz K rfl (fun _ _ => rfl)]
      obtain ⟨ii, bb, h3, h4, rfl⟩ := cSz_some hs
      generalize List.range len = L at hr
      induction L generalizing r with
      | nil => simp [eqTs] at hr; subst hr; rfl
      | cons i L ihL =>
        simp only [List.map_cons, eqTs] at hr
        have hsz' : szOf P el = some ii.size := by simp [szOf, h3]
        split at hr
        · rename_i d1 d2 hd1 hd2
          obtain ⟨v1, hv1, hr1⟩ := part_rel (P := P) h1 h4 hsz' hd1
          obtain ⟨v2, hv2, hr2⟩ := part_rel (P := P) h2 h4 hsz' hd2
          split at hr
          · rename_i b hb
            have heq := eqT_rel n el e' d1 d2 b v1 v2 he' hb hr1 hr2 k (by omega)
            show (do
              let p ← part el vs (i * sz)
              let q ← part el us (i * sz)
              let b ← Op.equalIn k el p q
              if (!b) = true then pure false else K L).run P w = _
            simp only [Sem.run_bind, hv1, hv2, heq, Result.andThen_ok]
            cases b with
            | false => simp at hr; subst hr; simp
            | true =>
              simp at hr
              simpa using ihL r hr
          · cases hr
        · cases hr
    · cases he

theorem op_bin (h : Rel E M0 w0 N μ M a w x) {op : BinOp} {t : TypeId} {o p : Operand} {ar pr : Arg} (h2 : cArg o = some ar) (h3 : cArg p = some pr) {d : D} {x' : AS}
    (hs : step E.G (.bin op ar pr) x = some (d, x')) : gd E M0 w0 N a d x' w (do pure (.value (← (do eqGuard op t o p (a.eval o) (a.eval p); binOp op t (a.eval o) (a.eval p) : Sem Value)))) := by
  have hv := arg_rel h h2
  have hi := arg_rel h h3
  simp only [step, Option.map_eq_some_iff] at hs
  obtain ⟨d', hs, he⟩ := hs
  cases he
  simp only [binD] at hs
  split at hs
  · rename_i k p' j q' he1 he2
    rw [he1] at hv; rw [he2] at hi
    simp only [VRel] at hv hi
    split at hs
    · obtain ⟨v, hr, hrun⟩ := sh_rel (j := j) (t := t) hs E.P w
      exact Good.of h (run_value (by rw [hv, hi, eqGuard_at_int]; simpa [binOp] using hrun)) hr
    · obtain ⟨v, hr, hrun⟩ := sh_rel (j := j) (t := t) hs E.P w
      exact Good.of h (run_value (by rw [hv, hi, eqGuard_at_int]; simpa [binOp] using hrun)) hr
    · rename_i hn1 hn2
      split at hs
      · rename_i hkj
        subst hkj
        obtain ⟨v, hr, hrun⟩ := int_rel (M := M) (μ := μ) hs (fun e => hn1 e) (fun e => hn2 e) E.P t w
        exact Good.of h (run_value (by rw [hv, hi, eqGuard_at_int]; simpa using hrun)) hr
      · cases hs
  · rename_i p' q' he1 he2
    rw [he1] at hv; rw [he2] at hi
    simp only [VRel] at hv hi
    obtain ⟨v, hr, hrun⟩ := strD_rel (M := M) (μ := μ) hs E.P t w
    exact Good.of h (run_value (by rw [hv, hi, eqGuard_at_string]; simpa using hrun)) hr
  · cases hs

theorem binOp_eqneq {P : Program} (t : TypeId) (v u : Value) (r : Bool) (neg : Bool) (w : World) (hn : (∀ k n, v ≠ .int k n) ∧ (∀ s, v ≠ .string s) ∧ (∀ k n, v ≠ .float k n) ∧ (∀ k n m, v ≠ .complex k n m))
    (h : (Op.equal t v u).run P w = .ok r w) : (binOp (bif neg then .neq else .eql) t v u).run P w = .ok (.bool (bif neg then !r else r)) w := by
  obtain ⟨n1, n2, n3, n4⟩ := hn
  cases neg <;> cases v <;> first
    | exact absurd rfl (n1 _ _)
    | exact absurd rfl (n2 _)
    | exact absurd rfl (n3 _ _)
    | exact absurd rfl (n4 _ _ _)
    | simp [binOp, h]

theorem eT_struct {P : Program} {n : Nat} {t : TypeId} {fs : Array Field} {e : ET} (hu : P.underlying t = some (.struct fs)) (he : eT P (n + 1) t = some e) : ∃ l, e = .parts l := by
  simp only [eT, hu] at he
  cases hp : P.stoodInHeld t <;> rw [hp] at he
  · simp only [cond_false, Option.map_eq_some_iff] at he
    obtain ⟨l, _, rfl⟩ := he
    exact ⟨l, rfl⟩
  · cases he

theorem eT_array {P : Program} {n : Nat} {t len el : Nat} {e : ET} (hu : P.underlying t = some (.array len el)) (he : eT P (n + 1) t = some e) : ∃ l, e = .parts l := by
  simp only [eT, hu, Option.bind_eq_bind, Option.bind_eq_some_iff, Option.some.injEq] at he
  obtain ⟨_, _, _, _, _, _, rfl⟩ := he
  exact ⟨_, rfl⟩

section eqs
variable {P : Program} (d : Nat) {t : TypeId} (w : World)
theorem eqn_slice1 {e : TypeId} (hu : P.underlying t = some (.slice e)) (b : Option Addr) (n c k l : Nat) : (Op.equalIn (d + 1) t (.slice none k l) (.slice b n c)).run P w = .ok b.isNone w := by
  simp [Op.equalIn, run_underlying hu]
theorem eqn_slice2 {e : TypeId} (hu : P.underlying t = some (.slice e)) (b : Addr) (n c k l : Nat) : (Op.equalIn (d + 1) t (.slice (some b) n c) (.slice none k l)).run P w = .ok false w := by
  simp [Op.equalIn, run_underlying hu]
theorem eqn_ptr1 {e : TypeId} (hu : P.underlying t = some (.pointer e)) (b : Option Addr) : (Op.equalIn (d + 1) t (.pointer none) (.pointer b)).run P w = .ok b.isNone w := by
  simp [Op.equalIn, run_underlying hu]
theorem eqn_ptr2 {e : TypeId} (hu : P.underlying t = some (.pointer e)) (b : Addr) : (Op.equalIn (d + 1) t (.pointer (some b)) (.pointer none)).run P w = .ok false w := by
  simp [Op.equalIn, run_underlying hu]
theorem eqn_ifc0 {ms : Array (String × TypeId)} (hu : P.underlying t = some (.interface ms)) : (Op.equalIn (d + 1) t .nilIface .nilIface).run P w = .ok true w := by
  simp [Op.equalIn, run_underlying hu]
theorem eqn_ifc1 {ms : Array (String × TypeId)} (hu : P.underlying t = some (.interface ms)) (k : TypeId) (v : Value) : (Op.equalIn (d + 1) t .nilIface (.iface k v)).run P w = .ok false w := by
  simp [Op.equalIn, run_underlying hu]
theorem eqn_ifc2 {ms : Array (String × TypeId)} (hu : P.underlying t = some (.interface ms)) (k : TypeId) (v : Value) : (Op.equalIn (d + 1) t (.iface k v) .nilIface).run P w = .ok false w := by
  simp [Op.equalIn, run_underlying hu]
theorem eqn_fn0 {p q : Array TypeId} {b : Bool} (hu : P.underlying t = some (.func p q b)) : (Op.equalIn (d + 1) t .nilFunc .nilFunc).run P w = .ok true w := by
  simp [Op.equalIn, run_underlying hu]
theorem eqn_fn1 {p q : Array TypeId} {b : Bool} (hu : P.underlying t = some (.func p q b)) (f : Fn) (k l : Array Value) : (Op.equalIn (d + 1) t .nilFunc (.func f k l)).run P w = .ok false w := by
  simp [Op.equalIn, run_underlying hu]
theorem eqn_fn2 {p q : Array TypeId} {b : Bool} (hu : P.underlying t = some (.func p q b)) (f : Fn) (k l : Array Value) : (Op.equalIn (d + 1) t (.func f k l) .nilFunc).run P w = .ok false w := by
  simp [Op.equalIn, run_underlying hu]
end eqs

theorem cmp_run {P : Program} {neg : Bool} {t : TypeId} {o p : Operand} {k : EK} (hk : cmpK P t o p = some k) {d1 d2 : D} {r : Bool} (hs : cmpD k d1 d2 = some r) {v u : Value} (hv : VRel M w μ d1 v) (hi : VRel M w μ d2 u) :
    (do eqGuard (bif neg then .neq else .eql) t o p v u; binOp (bif neg then .neq else .eql) t v u : Sem Value).run P w = .ok (.bool (bif neg then !r else r)) w := by
  have fin : (eqGuard (bif neg then .neq else .eql) t o p v u).run P w = .ok () w → ((∀ k n, v ≠ .int k n) ∧ (∀ s, v ≠ .string s) ∧ (∀ k n, v ≠ .float k n) ∧ (∀ k n m, v ≠ .complex k n m)) →
      (Op.equal t v u).run P w = .ok r w →
      (do eqGuard (bif neg then .neq else .eql) t o p v u; binOp (bif neg then .neq else .eql) t v u : Sem Value).run P w = .ok (.bool (bif neg then !r else r)) w := by
    intro hg hn he
    simp only [Sem.run_bind, hg, Result.andThen_ok]
    exact binOp_eqneq t _ _ r neg w hn he
  have agg : P.eqGuardType P.depth t = false → ∀ e, eT P 20 t = some e → (∃ l, e = .parts l) → eqT e d1 d2 = some r →
      (do eqGuard (bif neg then .neq else .eql) t o p v u; binOp (bif neg then .neq else .eql) t v u : Sem Value).run P w = .ok (.bool (bif neg then !r else r)) w := by
    intro hg e he hl hs
    obtain ⟨l, rfl⟩ := hl
    have heq := eqT_rel 20 t _ _ _ r _ _ he hs hv hi 10000 (by omega)
    cases d1 <;> cases d2 <;> simp only [eqT, reduceCtorEq] at hs
    simp only [VRel] at hv hi
    obtain ⟨vs, rfl, _⟩ := hv
    obtain ⟨us, rfl, _⟩ := hi
    exact fin (run_eqGuard_agg w _ t o p vs us hg) (by simp) heq
  simp only [cmpK] at hk
  split at hk
  · rename_i hu
    cases hk
    simp only [cmpD] at hs
    cases d1 <;> cases d2 <;> simp only [eqT, reduceCtorEq] at hs
    simp at hs; subst hs
    simp only [VRel] at hv hi
    subst hv; subst hi
    exact fin (by simp [eqGuard_at_bool]) (by simp) (run_equalIn_bool' w 9999 t _ _ hu)
  · rename_i hu
    cases hg : P.eqGuardType P.depth t <;> rw [hg] at hk
    · simp only [cond_false, Option.map_eq_some_iff] at hk
      obtain ⟨e, he, rfl⟩ := hk
      exact agg hg e he (eT_struct hu he) hs
    · cases hk
  · rename_i hu
    cases hg : P.eqGuardType P.depth t <;> rw [hg] at hk
    · simp only [cond_false, Option.map_eq_some_iff] at hk
      obtain ⟨e, he, rfl⟩ := hk
      exact agg hg e he (eT_array hu he) hs
    · cases hk
  · rename_i e hu
    cases hk
    cases d1 <;> cases d2 <;> simp only [cmpD, reduceCtorEq] at hs
    · cases hs
      simp only [VRel] at hv hi; subst hv; subst hi
      exact fin (by simp [eqGuard_at_slice]) (by simp) (eqn_slice1 9999 w hu _ _ _ _ _)
    · rename_i ex len cs
      cases len <;> simp only [cmpD, reduceCtorEq] at hs
      cases hs
      simp only [VRel] at hv hi; subst hv
      obtain ⟨ad, cap, rfl, _, _, h3⟩ := hi
      rcases h3 with h3 | ⟨b, q, rfl, _⟩
      · omega
      exact fin (by simp [eqGuard_at_slice]) (by simp) (eqn_slice1 9999 w hu _ _ _ _ _)
    · cases hs
      simp only [VRel] at hv hi; subst hv
      obtain ⟨l, b, _, _, rfl, _⟩ := hi
      exact fin (by simp [eqGuard_at_slice]) (by simp) (eqn_slice1 9999 w hu _ _ _ _ _)
    · rename_i nm off sz len
      cases len <;> simp only [cmpD, reduceCtorEq] at hs
      cases hs
      simp only [VRel] at hv hi; subst hv
      obtain ⟨⟨lb, lc⟩, cap, _, rfl, h3, _, h4⟩ := hi
      cases lb with
      | none => have := h4 rfl; omega
      | some b => exact fin (by simp [eqGuard_at_slice]) (by simp) (eqn_slice1 9999 w hu _ _ _ _ _)
    · rename_i ex len cs
      cases len <;> simp only [cmpD, reduceCtorEq] at hs
      cases hs
      simp only [VRel] at hv hi; subst hi
      obtain ⟨ad, cap, rfl, _, _, h3⟩ := hv
      rcases h3 with h3 | ⟨b, q, rfl, _⟩
      · omega
      exact fin (by simp [eqGuard_at_slice]) (by simp) (eqn_slice2 9999 w hu _ _ _ _ _)
    · cases hs
      simp only [VRel] at hv hi; subst hi
      obtain ⟨l, b, _, _, rfl, _⟩ := hv
      exact fin (by simp [eqGuard_at_slice]) (by simp) (eqn_slice2 9999 w hu _ _ _ _ _)
    · rename_i nm off sz len
      cases len <;> simp only [cmpD, reduceCtorEq] at hs
      cases hs
      simp only [VRel] at hv hi; subst hi
      obtain ⟨⟨lb, lc⟩, cap, _, rfl, h3, _, h4⟩ := hv
      cases lb with
      | none => have := h4 rfl; omega
      | some b => exact fin (by simp [eqGuard_at_slice]) (by simp) (eqn_slice2 9999 w hu _ _ _ _ _)
  · rename_i e hu
    cases hk
    cases d1 <;> cases d2 <;> simp only [cmpD, reduceCtorEq] at hs
    all_goals cases hs
    all_goals simp only [VRel] at hv hi
    · obtain ⟨l, b, _, _, rfl⟩ := hv; subst hi
      exact fin (by simp [eqGuard_at_pointer]) (by simp) (eqn_ptr2 9999 w hu _)
    · obtain ⟨b, q, rfl, _⟩ := hv; subst hi
      exact fin (by simp [eqGuard_at_pointer]) (by simp) (eqn_ptr2 9999 w hu _)
    · obtain ⟨l, b, _, _, rfl⟩ := hi; subst hv
      exact fin (by simp [eqGuard_at_pointer]) (by simp) (eqn_ptr1 9999 w hu _)
    · obtain ⟨b, q, rfl, _⟩ := hi; subst hv
      exact fin (by simp [eqGuard_at_pointer]) (by simp) (eqn_ptr1 9999 w hu _)
    · subst hv; subst hi
      exact fin (by simp [eqGuard_at_pointer]) (by simp) (eqn_ptr1 9999 w hu _)
  · rename_i ms hu
    cases hk
    cases d1 <;> cases d2 <;> simp only [cmpD, reduceCtorEq] at hs
    · cases hs
      simp only [VRel] at hv hi
      obtain ⟨y, rfl, _⟩ := hv; subst hi
      exact fin (by simp [eqGuard_at_iface]) (by simp) (eqn_ifc2 9999 w hu _ _)
    · cases hs
      simp only [VRel] at hv hi
      obtain ⟨y, rfl, _⟩ := hi; subst hv
      exact fin (by simp [eqGuard_nil_iface]) (by simp) (eqn_ifc1 9999 w hu _ _)
    · cases hc : (isConstO o || isConstO p) <;> rw [hc] at hs
      · cases hs
      · simp at hs; subst hs
        simp only [VRel] at hv hi; subst hv; subst hi
        refine fin ?_ (by simp) (eqn_ifc0 9999 w hu)
        cases o <;> cases p <;> simp [isConstO] at hc <;> first
          | simp [eqGuard_nil_constR]
          | simp [eqGuard_nil_constL]
  · rename_i hu
    cases hk
    cases d1 <;> cases d2 <;> simp only [cmpD, reduceCtorEq] at hs
    all_goals cases hs
    all_goals simp only [VRel] at hv hi
    · obtain ⟨va, vb, rfl, _⟩ := hv; subst hi
      exact fin (by simp [eqGuard_at_func]) (by simp) (eqn_fn2 9999 w hu _ _ _)
    · obtain ⟨va, vb, rfl, _⟩ := hi; subst hv
      exact fin (by simp [eqGuard_at_nilFunc]) (by simp) (eqn_fn1 9999 w hu _ _ _)
    · subst hv; subst hi
      exact fin (by simp [eqGuard_at_nilFunc]) (by simp) (eqn_fn0 9999 w hu)
  · cases hk

theorem op_cmp (h : Rel E M0 w0 N μ M a w x) {neg : Bool} {t : TypeId} {o p : Operand} {k : EK} {ar pr : Arg} (hk : cmpK E.P t o p = some k) (h2 : cArg o = some ar) (h3 : cArg p = some pr) {d : D} {x' : AS}
    (hs : step E.G (.cmp neg k ar pr) x = some (d, x')) :
    gd E M0 w0 N a d x' w (do pure (.value (← (do eqGuard (bif neg then .neq else .eql) t o p (a.eval o) (a.eval p); binOp (bif neg then .neq else .eql) t (a.eval o) (a.eval p) : Sem Value)))) := by
  have hv := arg_rel h h2
  have hi := arg_rel h h3
  simp only [step, Option.map_eq_some_iff] at hs
  obtain ⟨r, hs, he⟩ := hs
  cases he
  exact Good.of h (run_value (cmp_run hk hs hv hi)) (by simp only [VRel])
end

end Iv
