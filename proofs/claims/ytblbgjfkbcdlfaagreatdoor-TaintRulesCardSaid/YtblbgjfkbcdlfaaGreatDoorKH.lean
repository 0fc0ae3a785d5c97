/- Values with open places against abstract values: lookups, purity, shapes. Conditions: none. -/
import Derived.Test.YtblbgjfkbcdlfaaGreatDoorKG
set_option linter.unusedSimpArgs false
set_option linter.unusedVariables false
namespace Iv
open Go

theorem tgetS_cons (k : Nat) (v : SD) (r : List (Nat × SD)) (n : Nat) : tgetS ((k, v) :: r) n = if n = k then v else tgetS r n := by
  by_cases h : n = k
  · subst h; simp [tgetS]
  · simp [tgetS, beq_ne h, h]

theorem sgetS_cons (k : Nat) (v : SB) (r : List (Nat × SB)) (n : Nat) : sgetS ((k, v) :: r) n = if n = k then some v else sgetS r n := by
  by_cases h : n = k
  · subst h; simp [sgetS]
  · simp [sgetS, beq_ne h, h]

theorem tget_cv : ∀ (t : List (Nat × SD)) (n : Nat), tget (cvT t) n = (tgetS t n).cv
  | [], n => rfl
  | (k, v) :: r, n => by
    simp only [cvT, tget, tgetS]
    cases Nat.beq n k <;> simp [tget_cv r n]

theorem sget_cv : ∀ (s : List (Nat × SB)) (n : Nat), sget (cvS s) n = (sgetS s n).map SB.cv
  | [], n => rfl
  | (k, v) :: r, n => by
    simp only [cvS, sget, sgetS]
    cases Nat.beq n k <;> simp [sget_cv r n]

theorem shas_cv (s : List (Nat × SB)) (n : Nat) : shas (cvS s) n = shasS s n := by
  simp only [shas, shasS, sget_cv]
  cases sgetS s n <;> rfl

theorem sset_cv : ∀ (s : List (Nat × SB)) (n : Nat) (b : SB), sset (cvS s) n b.cv = cvS (ssetS s n b)
  | [], n, b => rfl
  | (k, v) :: r, n, b => by
    simp only [cvS, sset, ssetS]
    cases Nat.beq n k <;> simp [cvS, sset_cv r n b]

theorem sdel_cv : ∀ (s : List (Nat × SB)) (n : Nat), sdel (cvS s) n = cvS (sdelS s n)
  | [], n => rfl
  | (k, v) :: r, n => by
    simp only [cvS, sdel, sdelS]
    cases Nat.beq n k <;> simp [cvS, sdel_cv r n]

theorem restrict_cv : ∀ (l : List Nat) (t : List (Nat × SD)), restrict l (cvT t) = cvT (restrictS l t)
  | [], t => rfl
  | n :: r, t => by
    have := restrict_cv r t
    simp only [restrict] at this
    simp only [restrict, List.map_cons, restrictS, cvT, this]
    rw [tget_cv]

theorem tset_cv : ∀ (t : List (Nat × SD)) (n : Nat) (d : SD), d.cv = (tgetS t n).cv → cvT (tsetS t n d) = cvT t
  | [], n, d, h => rfl
  | (k, v) :: r, n, d, h => by
    simp only [tsetS, tgetS] at h ⊢
    cases hb : Nat.beq n k
    · rw [hb] at h; simp only [cond_false, cvT] at h ⊢
      rw [tset_cv r n d h]
    · rw [hb] at h; simp only [cond_true, cvT] at h ⊢
      rw [h]

theorem tgetS_ok {t : List (Nat × SD)} (h : ∀ p ∈ t, p.2.ok) (n : Nat) : (tgetS t n).ok := by
  induction t with
  | nil => simp [tgetS, SD.ok]
  | cons p r ih =>
    obtain ⟨k, v⟩ := p
    simp only [tgetS]
    cases Nat.beq n k
    · exact ih fun q hq => h q (List.mem_cons_of_mem _ hq)
    · exact h (k, v) (List.mem_cons_self ..)

theorem sgetS_ok {s : List (Nat × SB)} (h : ∀ p ∈ s, p.2.ok) {n : Nat} {b : SB} (hs : sgetS s n = some b) : b.ok := by
  induction s with
  | nil => simp [sgetS] at hs
  | cons p r ih =>
    obtain ⟨k, v⟩ := p
    simp only [sgetS] at hs
    cases hb : Nat.beq n k <;> rw [hb] at hs
    · exact ih (fun q hq => h q (List.mem_cons_of_mem _ hq)) hs
    · simp only [cond_true, Option.some.injEq] at hs
      subst hs; exact h (k, v) (List.mem_cons_self ..)

theorem tsetS_ok {t : List (Nat × SD)} (h : ∀ p ∈ t, p.2.ok) (n : Nat) {d : SD} (hd : d.ok) : ∀ p ∈ tsetS t n d, p.2.ok := by
  induction t with
  | nil => intro p hp; simp [tsetS] at hp
  | cons q r ih =>
    obtain ⟨k, v⟩ := q
    intro p hp
    simp only [tsetS] at hp
    cases hb : Nat.beq n k <;> rw [hb] at hp
    · simp only [cond_false, List.mem_cons] at hp
      rcases hp with rfl | hp
      · exact h _ (List.mem_cons_self ..)
      · exact ih (fun q hq => h q (List.mem_cons_of_mem _ hq)) p hp
    · simp only [cond_true, List.mem_cons] at hp
      rcases hp with rfl | hp
      · exact hd
      · exact h p (List.mem_cons_of_mem _ hp)

theorem ssetS_ok {s : List (Nat × SB)} (h : ∀ p ∈ s, p.2.ok) (n : Nat) {b : SB} (hb : b.ok) : ∀ p ∈ ssetS s n b, p.2.ok := by
  induction s with
  | nil => intro p hp; simp [ssetS] at hp
  | cons q r ih =>
    obtain ⟨k, v⟩ := q
    intro p hp
    simp only [ssetS] at hp
    cases hc : Nat.beq n k <;> rw [hc] at hp
    · simp only [cond_false, List.mem_cons] at hp
      rcases hp with rfl | hp
      · exact h _ (List.mem_cons_self ..)
      · exact ih (fun q hq => h q (List.mem_cons_of_mem _ hq)) p hp
    · simp only [cond_true, List.mem_cons] at hp
      rcases hp with rfl | hp
      · exact hb
      · exact h p (List.mem_cons_of_mem _ hp)

theorem SS.ok.put {x : SS} (h : x.ok) (dst : Option Nat) {d : SD} (hd : d.ok) : (x.put dst d).ok := by
  cases dst with
  | none => exact h
  | some n =>
    refine ⟨fun p hp => ?_, h.2⟩
    simp only [SS.put, List.mem_cons] at hp
    rcases hp with rfl | hp
    · exact hd
    · exact h.1 p hp

theorem SS.put_cv (x : SS) (dst : Option Nat) (d : SD) : (x.put dst d).cv = x.cv.put dst d.cv := by
  cases dst <;> rfl

theorem SS.ok.set {x : SS} (h : x.ok) (nm : Nat) {b : SB} (hb : b.ok) : (x.set nm b).ok := ⟨h.1, ssetS_ok h.2 nm hb⟩

theorem SS.set_cv (x : SS) (nm : Nat) (b : SB) : (x.set nm b).cv = ⟨x.cv.t, sset x.cv.s nm b.cv⟩ := by
  simp only [SS.set, SS.cv, sset_cv]

/- Data. -/

mutual
theorem D.dp_pure : ∀ (d : D), d.dp = true → d.pure = true
  | .un, _ => rfl
  | .bool _, _ => rfl
  | .int _ _, _ => rfl
  | .str _, _ => rfl
  | .agg cs, h => by simp only [D.dp, D.pure] at h ⊢; exact D.dps_pures cs h
  | .tup cs, h => by simp only [D.dp, D.pure] at h ⊢; exact D.dps_pures cs h
  | .nils, _ => rfl
  | .sl _ _ _, _ => rfl
  | .ms _ _ _ _ _, h => by simp [D.dp] at h
  | .gs _ _ _ _, h => by simp [D.dp] at h
  | .ptr _ _, h => by simp [D.dp] at h
  | .iptr _ _, _ => rfl
  | .nilp, _ => rfl
  | .iface _ d, h => by simp only [D.dp, D.pure] at h ⊢; exact D.dp_pure d h
  | .nilif, _ => rfl
  | .fn _ a b, h => by
    simp only [D.dp, D.pure, Bool.and_eq_true] at h ⊢
    exact ⟨D.dps_pures a h.1, D.dps_pures b h.2⟩
  | .nilfn, _ => rfl
  | .nilm, _ => rfl
  | .it _, h => by simp [D.dp] at h
theorem D.dps_pures : ∀ (l : List D), D.dps l = true → D.pures l = true
  | [], _ => rfl
  | d :: r, h => by
    simp only [D.dps, D.pures, Bool.and_eq_true] at h ⊢
    exact ⟨D.dp_pure d h.1, D.dps_pures r h.2⟩
end

theorem D.dps_iff {l : List D} : D.dps l = true ↔ ∀ d ∈ l, d.dp = true := by
  induction l with
  | nil => simp [D.dps]
  | cons d r ih => simp [D.dps, ih]

theorem D.dps_append {a b : List D} : D.dps (a ++ b) = (D.dps a && D.dps b) := by
  induction a with
  | nil => simp [D.dps]
  | cons d r ih => simp [D.dps, ih, Bool.and_assoc]

theorem D.dps_take {l : List D} (h : D.dps l = true) (n : Nat) : D.dps (l.take n) = true :=
  D.dps_iff.2 fun d hd => D.dps_iff.1 h d (List.mem_of_mem_take hd)
theorem D.dps_drop {l : List D} (h : D.dps l = true) (n : Nat) : D.dps (l.drop n) = true :=
  D.dps_iff.2 fun d hd => D.dps_iff.1 h d (List.mem_of_mem_drop hd)

theorem dps_setAt : ∀ {vs cs : List D} {off : Nat}, D.dps cs = true → D.dps vs = true → D.dps (setAt cs off vs) = true
  | [], cs, off, h, _ => h
  | v :: vs, cs, off, h, hv => by
    simp only [setAt]
    simp only [D.dps, Bool.and_eq_true] at hv
    refine dps_setAt (D.dps_iff.2 fun d hd => ?_) hv.2
    rcases List.mem_or_eq_of_mem_set hd with hd | rfl
    · exact D.dps_iff.1 h d hd
    · exact hv.1

theorem setAt_cons {α : Type} : ∀ (vs : List α) (c : α) (cs : List α) (n : Nat), setAt (c :: cs) (n + 1) vs = c :: setAt cs n vs
  | [], c, cs, n => rfl
  | v :: vs, c, cs, n => by simp only [setAt, List.set_cons_succ]; exact setAt_cons vs c _ _

theorem setAt_nil {α : Type} : ∀ (vs : List α) (n : Nat), setAt ([] : List α) n vs = []
  | [], n => rfl
  | v :: vs, n => by simp only [setAt, List.set_nil]; exact setAt_nil vs _

theorem setQ_eq {α : Type} : ∀ (cs : List α) (n : Nat) (vs : List α), setQ cs n vs = setAt cs n vs
  | [], n, vs => by rw [setAt_nil]; cases n <;> rfl
  | c :: cs, 0, [] => rfl
  | c :: cs, 0, v :: vs => by
    simp only [setQ, setAt, List.set_cons_zero]
    rw [setAt_cons, setQ_eq cs 0 vs]
  | c :: cs, n + 1, vs => by
    simp only [setQ]
    rw [setAt_cons, setQ_eq cs n vs]

theorem takeAt_dp {cs : List D} (h : D.dps cs = true) {off : Nat} {sz : Option Nat} {d : D} (ht : takeAt cs off sz = some d) : d.dp = true := by
  cases sz with
  | none => simp only [takeAt] at ht; exact D.dps_iff.1 h d (List.mem_of_getElem? ht)
  | some n =>
    simp only [takeAt] at ht
    cases hb : Nat.ble (off + n) cs.length <;> rw [hb] at ht
    · cases ht
    · simp only [cond_true, Option.some.injEq] at ht
      subst ht
      simp only [D.dp]
      exact D.dps_take (D.dps_drop h _) _

mutual
theorem D.kill_dp (nm : Nat) : ∀ (d : D), d.dp = true → D.kill nm d = d
  | .un, _ => rfl
  | .bool _, _ => rfl
  | .int _ _, _ => rfl
  | .str _, _ => rfl
  | .agg cs, h => by simp only [D.dp, D.kill] at h ⊢; rw [D.kills_dps nm cs h]
  | .tup cs, h => by simp only [D.dp, D.kill] at h ⊢; rw [D.kills_dps nm cs h]
  | .nils, _ => rfl
  | .sl _ _ _, _ => rfl
  | .ms _ _ _ _ _, h => by simp [D.dp] at h
  | .gs _ _ _ _, h => by simp [D.dp] at h
  | .ptr _ _, h => by simp [D.dp] at h
  | .iptr _ _, _ => rfl
  | .nilp, _ => rfl
  | .iface _ d, h => by simp only [D.dp, D.kill] at h ⊢; rw [D.kill_dp nm d h]
  | .nilif, _ => rfl
  | .fn _ a b, h => by
    simp only [D.dp, D.kill, Bool.and_eq_true] at h ⊢
    rw [D.kills_dps nm a h.1, D.kills_dps nm b h.2]
  | .nilfn, _ => rfl
  | .nilm, _ => rfl
  | .it _, h => by simp [D.dp] at h
theorem D.kills_dps (nm : Nat) : ∀ (l : List D), D.dps l = true → D.kills nm l = l
  | [], _ => rfl
  | d :: r, h => by
    simp only [D.dps, D.kills, Bool.and_eq_true] at h ⊢
    rw [D.kill_dp nm d h.1, D.kills_dps nm r h.2]
end

mutual
theorem D.hasRef_dp (m : Nat) : ∀ (d : D), d.dp = true → D.hasRef m d = false
  | .un, _ => rfl
  | .bool _, _ => rfl
  | .int _ _, _ => rfl
  | .str _, _ => rfl
  | .agg cs, h => by simp only [D.dp, D.hasRef] at h ⊢; exact D.hasRefs_dps m cs h
  | .tup cs, h => by simp only [D.dp, D.hasRef] at h ⊢; exact D.hasRefs_dps m cs h
  | .nils, _ => rfl
  | .sl _ _ _, _ => rfl
  | .ms _ _ _ _ _, h => by simp [D.dp] at h
  | .gs _ _ _ _, h => by simp [D.dp] at h
  | .ptr _ _, h => by simp [D.dp] at h
  | .iptr _ _, _ => rfl
  | .nilp, _ => rfl
  | .iface _ d, h => by simp only [D.dp, D.hasRef] at h ⊢; exact D.hasRef_dp m d h
  | .nilif, _ => rfl
  | .fn _ a b, h => by
    simp only [D.dp, D.hasRef, Bool.and_eq_true] at h ⊢
    rw [D.hasRefs_dps m a h.1, D.hasRefs_dps m b h.2]; rfl
  | .nilfn, _ => rfl
  | .nilm, _ => rfl
  | .it _, h => by simp [D.dp] at h
theorem D.hasRefs_dps (m : Nat) : ∀ (l : List D), D.dps l = true → D.hasRefs m l = false
  | [], _ => rfl
  | d :: r, h => by
    simp only [D.dps, D.hasRefs, Bool.and_eq_true] at h ⊢
    rw [D.hasRef_dp m d h.1, D.hasRefs_dps m r h.2]; rfl
end

theorem D.nms_dp {d : D} (h : d.dp = true) : d.nms = [] := by
  cases d <;> simp [D.dp, D.nms] at h ⊢

/- Values with open places. -/

theorem SD.oks_iff {l : List SD} : SD.oks l ↔ ∀ d ∈ l, d.ok := by
  induction l with
  | nil => simp [SD.oks]
  | cons d r ih => simp [SD.oks, ih]

theorem SD.cvs_eq (l : List SD) : SD.cvs l = l.map SD.cv := by
  induction l with
  | nil => rfl
  | cons d r ih => simp [SD.cvs, ih]

theorem SD.cvs_length (l : List SD) : (SD.cvs l).length = l.length := by simp [SD.cvs_eq]

theorem SD.cvs_append (a b : List SD) : SD.cvs (a ++ b) = SD.cvs a ++ SD.cvs b := by simp [SD.cvs_eq]

theorem SD.oks_append {a b : List SD} : SD.oks (a ++ b) ↔ SD.oks a ∧ SD.oks b := by
  simp only [SD.oks_iff, List.mem_append]
  exact ⟨fun h => ⟨fun d hd => h d (.inl hd), fun d hd => h d (.inr hd)⟩, fun h d hd => hd.elim (h.1 d) (h.2 d)⟩

theorem SD.cvs_setAt : ∀ (vs cs : List SD) (off : Nat), SD.cvs (setAt cs off vs) = setAt (SD.cvs cs) off (SD.cvs vs)
  | [], cs, off => rfl
  | v :: vs, cs, off => by
    simp only [setAt, SD.cvs]
    rw [SD.cvs_setAt vs]
    congr 1
    simp [SD.cvs_eq, List.map_set]

theorem SD.oks_setAt : ∀ {vs cs : List SD} {off : Nat}, SD.oks cs → SD.oks vs → SD.oks (setAt cs off vs)
  | [], cs, off, h, _ => h
  | v :: vs, cs, off, h, hv => by
    simp only [setAt]
    simp only [SD.oks] at hv
    refine SD.oks_setAt (SD.oks_iff.2 fun d hd => ?_) hv.2
    rcases List.mem_or_eq_of_mem_set hd with hd | rfl
    · exact SD.oks_iff.1 h d hd
    · exact hv.1

theorem SD.oks_take {l : List SD} (h : SD.oks l) (n : Nat) : SD.oks (l.take n) := SD.oks_iff.2 fun d hd => SD.oks_iff.1 h d (List.mem_of_mem_take hd)
theorem SD.oks_drop {l : List SD} (h : SD.oks l) (n : Nat) : SD.oks (l.drop n) := SD.oks_iff.2 fun d hd => SD.oks_iff.1 h d (List.mem_of_mem_drop hd)

theorem takeS_cv {cs : List SD} {off : Nat} {sz : Option Nat} {d : SD} (h : takeS cs off sz = some d) : takeAt (SD.cvs cs) off sz = some d.cv := by
  cases sz with
  | none => simp only [takeS, takeAt] at h ⊢; simp [SD.cvs_eq, h]
  | some n =>
    simp only [takeS, takeAt, SD.cvs_length] at h ⊢
    cases hb : Nat.ble (off + n) cs.length <;> rw [hb] at h
    · cases h
    · simp only [cond_true, Option.some.injEq] at h ⊢
      subst h
      simp only [SD.cv, SD.cvs_eq, List.map_take, List.map_drop]

theorem takeS_ok {cs : List SD} (h : SD.oks cs) {off : Nat} {sz : Option Nat} {d : SD} (ht : takeS cs off sz = some d) : d.ok := by
  cases sz with
  | none => simp only [takeS] at ht; exact SD.oks_iff.1 h d (List.mem_of_getElem? ht)
  | some n =>
    simp only [takeS] at ht
    cases hb : Nat.ble (off + n) cs.length <;> rw [hb] at ht
    · cases ht
    · simp only [cond_true, Option.some.injEq] at ht
      subst ht
      simp only [SD.ok]
      exact SD.oks_take (SD.oks_drop h _) _

mutual
theorem SD.pure_dp : ∀ (d : SD), d.ok → d.pure = true → d.cv.dp = true
  | .un, _, _ => rfl
  | .int _ _, _, _ => rfl
  | .bool _, _, _ => rfl
  | .str _, _, _ => rfl
  | .fz d, h, _ => by simp only [SD.ok] at h; simp only [SD.cv]; exact h.1
  | .fa d, h, _ => by simp only [SD.ok] at h; simp only [SD.cv]; exact h
  | .agg l, h, hp => by simp only [SD.ok, SD.pure, SD.cv, D.dp] at h hp ⊢; exact SD.pures_dps l h hp
  | .tup l, h, hp => by simp only [SD.ok, SD.pure, SD.cv, D.dp] at h hp ⊢; exact SD.pures_dps l h hp
  | .ms _ _ _ _ _, _, hp => by simp [SD.pure] at hp
  | .gs _ _ _ _, _, hp => by simp [SD.pure] at hp
  | .ptr _ _, _, hp => by simp [SD.pure] at hp
  | .pts _ _, _, hp => by simp [SD.pure] at hp
  | .ip cs _, h, _ => by simp only [SD.ok, SD.cv, D.dp] at h ⊢; exact h
  | .it _, _, hp => by simp [SD.pure] at hp
  | .iface _ d, h, hp => by simp only [SD.ok, SD.pure, SD.cv, D.dp] at h hp ⊢; exact SD.pure_dp d h hp
  | .fn _ a b, h, hp => by
    simp only [SD.ok, SD.pure, SD.cv, D.dp, Bool.and_eq_true] at h hp ⊢
    exact ⟨SD.pures_dps a h.1 hp.1, SD.pures_dps b h.2 hp.2⟩
theorem SD.pures_dps : ∀ (l : List SD), SD.oks l → SD.pures l = true → D.dps (SD.cvs l) = true
  | [], _, _ => rfl
  | d :: r, h, hp => by
    simp only [SD.oks, SD.pures, SD.cvs, D.dps, Bool.and_eq_true] at h hp ⊢
    exact ⟨SD.pure_dp d h.1 hp.1, SD.pures_dps r h.2 hp.2⟩
end

mutual
theorem SD.pure_cv : ∀ (d : SD), d.ok → d.cv.pure = d.pure
  | .un, _ => rfl
  | .int _ _, _ => rfl
  | .bool _, _ => rfl
  | .str _, _ => rfl
  | .fz d, h => by simp only [SD.ok] at h; simp only [SD.cv, SD.pure]; exact D.dp_pure d h.1
  | .fa d, h => by simp only [SD.ok] at h; simp only [SD.cv, SD.pure]; exact D.dp_pure d h
  | .agg l, h => by simp only [SD.ok, SD.pure, SD.cv, D.pure] at h ⊢; exact SD.pures_cv l h
  | .tup l, h => by simp only [SD.ok, SD.pure, SD.cv, D.pure] at h ⊢; exact SD.pures_cv l h
  | .ms _ _ _ _ _, _ => rfl
  | .gs _ _ _ _, _ => rfl
  | .ptr _ _, _ => rfl
  | .pts _ _, _ => rfl
  | .ip _ _, _ => rfl
  | .it _, _ => rfl
  | .iface _ d, h => by simp only [SD.ok, SD.pure, SD.cv, D.pure] at h ⊢; exact SD.pure_cv d h
  | .fn _ a b, h => by
    simp only [SD.ok, SD.pure, SD.cv, D.pure] at h ⊢
    rw [SD.pures_cv a h.1, SD.pures_cv b h.2]
theorem SD.pures_cv : ∀ (l : List SD), SD.oks l → D.pures (SD.cvs l) = SD.pures l
  | [], _ => rfl
  | d :: r, h => by
    simp only [SD.oks, SD.pures, SD.cvs, D.pures] at h ⊢
    rw [SD.pure_cv d h.1, SD.pures_cv r h.2]
end

mutual
theorem SD.kill_cv (nm : Nat) : ∀ (d : SD), d.ok → (SD.kill nm d).cv = D.kill nm d.cv ∧ (SD.kill nm d).ok
  | .un, _ => ⟨by trivial, trivial⟩
  | .int _ _, _ => ⟨by trivial, trivial⟩
  | .bool _, _ => ⟨by trivial, trivial⟩
  | .str _, _ => ⟨by trivial, trivial⟩
  | .fz d, h => by
    have h' := h
    simp only [SD.ok] at h; simp only [SD.cv, SD.kill]
    exact ⟨(D.kill_dp nm d h.1).symm, h'⟩
  | .fa d, h => by
    have h' := h
    simp only [SD.ok] at h; simp only [SD.cv, SD.kill]
    exact ⟨(D.kill_dp nm d h).symm, h'⟩
  | .agg l, h => by
    simp only [SD.ok, SD.kill, SD.cv, D.kill] at h ⊢
    rw [(SD.kills_cv nm l h).1]; exact ⟨by trivial, (SD.kills_cv nm l h).2⟩
  | .tup l, h => by
    simp only [SD.ok, SD.kill, SD.cv, D.kill] at h ⊢
    rw [(SD.kills_cv nm l h).1]; exact ⟨by trivial, (SD.kills_cv nm l h).2⟩
  | .ms n _ _ _ _, _ => by simp only [SD.kill, SD.cv, D.kill]; cases Nat.beq n nm <;> exact ⟨by trivial, trivial⟩
  | .gs n _ _ _, _ => by simp only [SD.kill, SD.cv, D.kill]; cases Nat.beq n nm <;> exact ⟨by trivial, trivial⟩
  | .ptr n _, _ => by simp only [SD.kill, SD.cv, D.kill]; cases Nat.beq n nm <;> exact ⟨by trivial, trivial⟩
  | .pts n _, _ => by simp only [SD.kill, SD.cv, D.kill]; cases Nat.beq n nm <;> exact ⟨by trivial, trivial⟩
  | .ip cs _, h => ⟨by trivial, h⟩
  | .it n, _ => by simp only [SD.kill, SD.cv, D.kill]; cases Nat.beq n nm <;> exact ⟨by trivial, trivial⟩
  | .iface _ d, h => by
    simp only [SD.ok, SD.kill, SD.cv, D.kill] at h ⊢
    rw [(SD.kill_cv nm d h).1]; exact ⟨by trivial, (SD.kill_cv nm d h).2⟩
  | .fn _ a b, h => by
    simp only [SD.ok, SD.kill, SD.cv, D.kill] at h ⊢
    rw [(SD.kills_cv nm a h.1).1, (SD.kills_cv nm b h.2).1]
    exact ⟨by trivial, (SD.kills_cv nm a h.1).2, (SD.kills_cv nm b h.2).2⟩
theorem SD.kills_cv (nm : Nat) : ∀ (l : List SD), SD.oks l → SD.cvs (SD.kills nm l) = D.kills nm (SD.cvs l) ∧ SD.oks (SD.kills nm l)
  | [], _ => ⟨by trivial, trivial⟩
  | d :: r, h => by
    simp only [SD.oks, SD.kills, SD.cvs, D.kills] at h ⊢
    rw [(SD.kill_cv nm d h.1).1, (SD.kills_cv nm r h.2).1]
    exact ⟨by trivial, (SD.kill_cv nm d h.1).2, (SD.kills_cv nm r h.2).2⟩
end

mutual
theorem SD.hasRef_cv (m : Nat) : ∀ (d : SD), d.ok → D.hasRef m d.cv = SD.hasRef m d
  | .un, _ => rfl
  | .int _ _, _ => rfl
  | .bool _, _ => rfl
  | .str _, _ => rfl
  | .fz d, h => by simp only [SD.ok] at h; simp only [SD.cv, SD.hasRef]; exact D.hasRef_dp m d h.1
  | .fa d, h => by simp only [SD.ok] at h; simp only [SD.cv, SD.hasRef]; exact D.hasRef_dp m d h
  | .agg l, h => by simp only [SD.ok, SD.hasRef, SD.cv, D.hasRef] at h ⊢; exact SD.hasRefs_cv m l h
  | .tup l, h => by simp only [SD.ok, SD.hasRef, SD.cv, D.hasRef] at h ⊢; exact SD.hasRefs_cv m l h
  | .ms _ _ _ _ _, _ => rfl
  | .gs _ _ _ _, _ => rfl
  | .ptr _ _, _ => rfl
  | .pts _ _, _ => rfl
  | .ip _ _, _ => rfl
  | .it _, _ => rfl
  | .iface _ d, h => by simp only [SD.ok, SD.hasRef, SD.cv, D.hasRef] at h ⊢; exact SD.hasRef_cv m d h
  | .fn _ a b, h => by
    simp only [SD.ok, SD.hasRef, SD.cv, D.hasRef] at h ⊢
    rw [SD.hasRefs_cv m a h.1, SD.hasRefs_cv m b h.2]
theorem SD.hasRefs_cv (m : Nat) : ∀ (l : List SD), SD.oks l → D.hasRefs m (SD.cvs l) = SD.hasRefs m l
  | [], _ => rfl
  | d :: r, h => by
    simp only [SD.oks, SD.hasRefs, SD.cvs, D.hasRefs] at h ⊢
    rw [SD.hasRef_cv m d h.1, SD.hasRefs_cv m r h.2]
end

theorem SD.nms_cv {d : SD} (h : d.ok) : d.cv.nms = d.nm1 := by
  cases d with
  | fz d => simp only [SD.ok] at h; simp only [SD.cv, SD.nm1]; exact D.nms_dp h.1
  | fa d => simp only [SD.ok] at h; simp only [SD.cv, SD.nm1]; exact D.nms_dp h
  | _ => rfl

theorem SD.one_cv {d : SD} (h : d.ok) (h1 : d.one = true) : isAg d.cv = false ∧ d.cv.cells? = some [d.cv] := by
  cases d with
  | fz d =>
    simp only [SD.ok] at h; simp only [SD.cv]
    refine ⟨h.2, ?_⟩
    cases d <;> simp [isAg, D.cells?] at h ⊢
  | un => simp [SD.one] at h1
  | fa d => simp [SD.one] at h1
  | agg l => simp [SD.one] at h1
  | tup l => simp [SD.one] at h1
  | _ => exact ⟨by trivial, rfl⟩

theorem SD.ones_cv : ∀ {l : List SD}, SD.oks l → SD.ones l = true → (SD.cvs l).any isAg = false
  | [], _, _ => rfl
  | d :: r, h, h1 => by
    simp only [SD.oks, SD.ones, Bool.and_eq_true, SD.cvs, List.any_cons, Bool.or_eq_false_iff] at h h1 ⊢
    exact ⟨(SD.one_cv h.1 h1.1).1, SD.ones_cv h.2 h1.2⟩

theorem tkill_cv (nm : Nat) : ∀ {t : List (Nat × SD)}, (∀ p ∈ t, p.2.ok) → tkill nm (cvT t) = cvT (tkillS nm t) ∧ ∀ p ∈ tkillS nm t, p.2.ok
  | [], _ => ⟨by trivial, fun p hp => by simp [tkillS] at hp⟩
  | (k, v) :: r, h => by
    have hv := h (k, v) (List.mem_cons_self ..)
    have ih := tkill_cv nm fun p hp => h p (List.mem_cons_of_mem _ hp)
    simp only [cvT, tkill, tkillS, (SD.kill_cv nm v hv).1, ih.1]
    refine ⟨by trivial, fun p hp => ?_⟩
    rcases List.mem_cons.1 hp with rfl | hp
    · exact (SD.kill_cv nm v hv).2
    · exact ih.2 p hp

theorem SB.kill_cv (nm : Nat) {b : SB} (h : b.ok) : (SB.kill nm b).cv = Blk.kill nm b.cv ∧ (SB.kill nm b).ok := by
  cases b with
  | fix cs =>
    simp only [SB.ok] at h
    simp only [SB.kill, SB.cv, Blk.kill, SB.ok, (SD.kills_cv nm cs h).1]
    exact ⟨by trivial, (SD.kills_cv nm cs h).2⟩
  | fo cs =>
    have h' := h
    simp only [SB.ok] at h
    simp only [SB.kill, SB.cv, Blk.kill, D.kills_dps nm cs h]; exact ⟨by trivial, h'⟩
  | gr cs =>
    have h' := h
    simp only [SB.ok] at h
    simp only [SB.kill, SB.cv, Blk.kill, D.kills_dps nm cs h]; exact ⟨by trivial, h'⟩
  | it s p => exact ⟨by trivial, h⟩

theorem skill_cv (nm : Nat) : ∀ {s : List (Nat × SB)}, (∀ p ∈ s, p.2.ok) → skill nm (cvS s) = cvS (skillS nm s) ∧ ∀ p ∈ skillS nm s, p.2.ok
  | [], _ => ⟨by trivial, fun p hp => by simp [skillS] at hp⟩
  | (k, v) :: r, h => by
    have hv := h (k, v) (List.mem_cons_self ..)
    have ih := skill_cv nm fun p hp => h p (List.mem_cons_of_mem _ hp)
    simp only [cvS, skill, skillS, (SB.kill_cv nm hv).1, ih.1]
    refine ⟨by trivial, fun p hp => ?_⟩
    rcases List.mem_cons.1 hp with rfl | hp
    · exact (SB.kill_cv nm hv).2
    · exact ih.2 p hp

theorem sdelS_ok {s : List (Nat × SB)} (h : ∀ p ∈ s, p.2.ok) (n : Nat) : ∀ p ∈ sdelS s n, p.2.ok := by
  induction s with
  | nil => intro p hp; simp [sdelS] at hp
  | cons q r ih =>
    obtain ⟨k, v⟩ := q
    intro p hp
    simp only [sdelS] at hp
    cases hc : Nat.beq n k <;> rw [hc] at hp
    · simp only [cond_false, List.mem_cons] at hp
      rcases hp with rfl | hp
      · exact h _ (List.mem_cons_self ..)
      · exact ih (fun q hq => h q (List.mem_cons_of_mem _ hq)) p hp
    · exact ih (fun q hq => h q (List.mem_cons_of_mem _ hq)) p hp

theorem SS.drop_cv {x : SS} (h : x.ok) (nm : Nat) : (x.drop nm).cv = x.cv.drop nm ∧ (x.drop nm).ok := by
  unfold SS.drop AS.drop
  simp only [SS.cv, shas_cv]
  cases shasS x.s nm
  · exact ⟨by trivial, h⟩
  · simp only [cond_true]
    have h1 := tkill_cv nm h.1
    have h2 := skill_cv nm (sdelS_ok h.2 nm)
    rw [sdel_cv, h1.1, h2.1]
    exact ⟨by trivial, h1.2, h2.2⟩

theorem SS.drops_cv : ∀ (l : List Nat) {x : SS}, x.ok → (SS.drops l x).cv = AS.drops l x.cv ∧ (SS.drops l x).ok
  | [], x, h => ⟨by trivial, h⟩
  | n :: r, x, h => by
    have h1 := SS.drop_cv h n
    have h2 := SS.drops_cv r h1.2
    simp only [SS.drops, AS.drops]
    rw [h2.1, h1.1]; exact ⟨by trivial, h2.2⟩

theorem SS.purge_cv {x : SS} (h : x.ok) (nm : Nat) : (x.purge nm).cv = x.cv.purge nm ∧ (x.purge nm).ok := by
  unfold SS.purge AS.purge
  have h1 := tkill_cv nm h.1
  have h2 := skill_cv nm (sdelS_ok h.2 nm)
  simp only [SS.cv]
  rw [sdel_cv, h1.1, h2.1]
  exact ⟨by trivial, h1.2, h2.2⟩

theorem SS.purges_cv : ∀ (l : List Nat) {x : SS}, x.ok → (SS.purges l x).cv = AS.purges l x.cv ∧ (SS.purges l x).ok
  | [], x, h => ⟨by trivial, h⟩
  | n :: r, x, h => by
    have h1 := SS.purge_cv h n
    have h2 := SS.purges_cv r h1.2
    simp only [SS.purges, AS.purges]
    rw [h2.1, h1.1]; exact ⟨by trivial, h2.2⟩

mutual
theorem ofD_cv : ∀ (d : D), (ofD d).cv = d
  | .un => rfl
  | .bool _ => rfl
  | .int _ _ => rfl
  | .str _ => rfl
  | .agg cs => by simp only [ofD, SD.cv, ofDs_cv cs]
  | .tup cs => by simp only [ofD, SD.cv, ofDs_cv cs]
  | .nils => rfl
  | .sl _ _ _ => rfl
  | .ms _ _ _ _ _ => rfl
  | .gs _ _ _ _ => rfl
  | .ptr _ _ => rfl
  | .iptr _ _ => rfl
  | .nilp => rfl
  | .iface _ _ => rfl
  | .nilif => rfl
  | .fn _ _ _ => rfl
  | .nilfn => rfl
  | .nilm => rfl
  | .it _ => rfl
theorem ofDs_cv : ∀ (l : List D), SD.cvs (ofDs l) = l
  | [] => rfl
  | d :: r => by simp only [ofDs, SD.cvs, ofD_cv d, ofDs_cv r]
end

mutual
theorem ofD_ok : ∀ (d : D), d.dp = true → (ofD d).ok
  | .un, _ => trivial
  | .bool _, _ => trivial
  | .int _ _, _ => trivial
  | .str _, _ => trivial
  | .agg cs, h => by simp only [ofD, SD.ok, D.dp] at h ⊢; exact ofDs_ok cs h
  | .tup cs, h => by simp only [ofD, SD.ok, D.dp] at h ⊢; exact ofDs_ok cs h
  | .nils, h => ⟨h, rfl⟩
  | .sl _ _ _, h => ⟨h, rfl⟩
  | .ms _ _ _ _ _, h => ⟨h, rfl⟩
  | .gs _ _ _ _, h => ⟨h, rfl⟩
  | .ptr _ _, h => ⟨h, rfl⟩
  | .iptr _ _, h => ⟨h, rfl⟩
  | .nilp, h => ⟨h, rfl⟩
  | .iface _ _, h => ⟨h, rfl⟩
  | .nilif, h => ⟨h, rfl⟩
  | .fn _ _ _, h => ⟨h, rfl⟩
  | .nilfn, h => ⟨h, rfl⟩
  | .nilm, h => ⟨h, rfl⟩
  | .it _, h => ⟨h, rfl⟩
theorem ofDs_ok : ∀ (l : List D), D.dps l = true → SD.oks (ofDs l)
  | [], _ => trivial
  | d :: r, h => by
    simp only [ofDs, SD.oks, D.dps, Bool.and_eq_true] at h ⊢
    exact ⟨ofD_ok d h.1, ofDs_ok r h.2⟩
end

/- Shapes. -/

theorem sameK_eq {a b : IntKind} (h : sameK a b = true) : a = b := by cases a <;> cases b <;> first | rfl | (simp [sameK] at h)
theorem sameK_refl (a : IntKind) : sameK a a = true := by cases a <;> rfl

theorem D.asI_some {k : IntKind} {d : D} {n : Int} (h : d.asI k = some n) : d = .int k n := by
  cases d <;> simp only [D.asI, reduceCtorEq] at h
  rename_i j m
  cases hk : sameK k j <;> rw [hk] at h
  · cases h
  · simp only [cond_true, Option.some.injEq] at h
    subst h; rw [sameK_eq hk]
theorem D.asB_some {d : D} {n : Bool} (h : d.asB = some n) : d = .bool n := by
  cases d <;> simp only [D.asB, reduceCtorEq, Option.some.injEq] at h; rw [h]
theorem D.asS_some {d : D} {n : List UInt8} (h : d.asS = some n) : d = .str n := by
  cases d <;> simp only [D.asS, reduceCtorEq, Option.some.injEq] at h; rw [h]
theorem D.asAgg_some {d : D} {n : List D} (h : d.asAgg = some n) : d = .agg n := by
  cases d <;> simp only [D.asAgg, reduceCtorEq, Option.some.injEq] at h; rw [h]
theorem D.asTup_some {d : D} {n : List D} (h : d.asTup = some n) : d = .tup n := by
  cases d <;> simp only [D.asTup, reduceCtorEq, Option.some.injEq] at h; rw [h]

mutual
theorem Sh.gd_pt : ∀ (s : Sh) (d : D) (v : s.T), s.gd d = some v → (s.pt v).cv = d ∧ (d.dp = true → (s.pt v).ok)
  | .any, d, v, h => by simp only [Sh.gd] at h; cases h; exact ⟨by trivial, fun h => h⟩
  | .un, d, v, h => by simp only [Sh.gd, reduceCtorEq] at h
  | .int k, d, v, h => by
    simp only [Sh.gd] at h; rw [D.asI_some h]; exact ⟨by trivial, fun _ => trivial⟩
  | .bool, d, v, h => by
    simp only [Sh.gd] at h; rw [D.asB_some h]; exact ⟨by trivial, fun _ => trivial⟩
  | .str, d, v, h => by
    simp only [Sh.gd] at h; rw [D.asS_some h]; exact ⟨by trivial, fun _ => trivial⟩
  | .fz, d, v, h => by
    simp only [Sh.gd] at h
    cases ha : isAg d <;> rw [ha] at h
    · simp only [cond_false] at h
      cases h; exact ⟨by trivial, fun h => ⟨h, ha⟩⟩
    · cases h
  | .agg l, d, v, h => by
    simp only [Sh.gd] at h
    split at h
    · rename_i cs hc
      have := Sh.gds_pt l cs v h
      rw [D.asAgg_some hc]
      simp only [Sh.pt, SD.cv, SD.ok, D.dp, this.1]
      exact ⟨by trivial, this.2⟩
    · cases h
  | .tup l, d, v, h => by
    simp only [Sh.gd] at h
    split at h
    · rename_i cs hc
      have := Sh.gds_pt l cs v h
      rw [D.asTup_some hc]
      simp only [Sh.pt, SD.cv, SD.ok, D.dp, this.1]
      exact ⟨by trivial, this.2⟩
    · cases h
  | .ms _ _ _, d, v, h => by simp only [Sh.gd, reduceCtorEq] at h
  | .gs _ _ _, d, v, h => by simp only [Sh.gd, reduceCtorEq] at h
  | .ptr _ _, d, v, h => by simp only [Sh.gd, reduceCtorEq] at h
  | .pts _, d, v, h => by simp only [Sh.gd, reduceCtorEq] at h
  | .ip, d, v, h => by simp only [Sh.gd, reduceCtorEq] at h
  | .it _, d, v, h => by simp only [Sh.gd, reduceCtorEq] at h
  | .iface _ _, d, v, h => by simp only [Sh.gd, reduceCtorEq] at h
  | .fn _ _ _, d, v, h => by simp only [Sh.gd, reduceCtorEq] at h
theorem Sh.gds_pt : ∀ (l : List Sh) (ds : List D) (v : Sh.Ts l), Sh.gds l ds = some v → SD.cvs (Sh.pts' l v) = ds ∧ (D.dps ds = true → SD.oks (Sh.pts' l v))
  | [], ds, v, h => by
    cases ds <;> simp only [Sh.gds, reduceCtorEq] at h
    exact ⟨by trivial, fun _ => trivial⟩
  | s :: r, ds, v, h => by
    cases ds <;> simp only [Sh.gds, reduceCtorEq] at h
    rename_i d ds
    split at h
    · rename_i a ha
      split at h
      · rename_i w hw
        cases h
        have h1 := Sh.gd_pt s d a ha
        have h2 := Sh.gds_pt r ds w hw
        simp only [Sh.pts', SD.cvs, SD.oks, D.dps, Bool.and_eq_true, h1.1, h2.1]
        exact ⟨by trivial, fun h => ⟨h1.2 h.1, h2.2 h.2⟩⟩
      · cases h
    · cases h
end

mutual
theorem Sh.gd_flat : ∀ (s : Sh) (d : D) (v : s.T), s.gd d = some v → s.flat = true → d.flat = true
  | .any, d, v, h, hf => by simp only [Sh.flat, reduceCtorEq] at hf
  | .un, d, v, h, hf => by simp only [Sh.gd, reduceCtorEq] at h
  | .int k, d, v, h, _ => by simp only [Sh.gd] at h; rw [D.asI_some h]; rfl
  | .bool, d, v, h, _ => by simp only [Sh.gd] at h; rw [D.asB_some h]; rfl
  | .str, d, v, h, _ => by simp only [Sh.gd] at h; rw [D.asS_some h]; rfl
  | .fz, d, v, h, hf => by simp only [Sh.flat, reduceCtorEq] at hf
  | .agg l, d, v, h, hf => by
    simp only [Sh.gd] at h
    split at h
    · rename_i cs hc
      rw [D.asAgg_some hc]
      simp only [D.flat, Sh.flat] at hf ⊢
      exact Sh.gds_flat l _ v h hf
    · cases h
  | .tup l, d, v, h, hf => by
    simp only [Sh.gd] at h
    split at h
    · rename_i cs hc
      rw [D.asTup_some hc]
      simp only [D.flat, Sh.flat] at hf ⊢
      exact Sh.gds_flat l _ v h hf
    · cases h
  | .ms _ _ _, d, v, h, _ => by simp only [Sh.gd, reduceCtorEq] at h
  | .gs _ _ _, d, v, h, _ => by simp only [Sh.gd, reduceCtorEq] at h
  | .ptr _ _, d, v, h, _ => by simp only [Sh.gd, reduceCtorEq] at h
  | .pts _, d, v, h, _ => by simp only [Sh.gd, reduceCtorEq] at h
  | .ip, d, v, h, _ => by simp only [Sh.gd, reduceCtorEq] at h
  | .it _, d, v, h, _ => by simp only [Sh.gd, reduceCtorEq] at h
  | .iface _ _, d, v, h, _ => by simp only [Sh.gd, reduceCtorEq] at h
  | .fn _ _ _, d, v, h, _ => by simp only [Sh.gd, reduceCtorEq] at h
theorem Sh.gds_flat : ∀ (l : List Sh) (ds : List D) (v : Sh.Ts l), Sh.gds l ds = some v → Sh.flats l = true → D.flats ds = true
  | [], ds, v, h, _ => by
    cases ds <;> simp only [Sh.gds, reduceCtorEq] at h
    rfl
  | s :: r, ds, v, h, hf => by
    cases ds <;> simp only [Sh.gds, reduceCtorEq] at h
    rename_i d ds
    simp only [Sh.flats, Bool.and_eq_true] at hf
    split at h
    · rename_i a ha
      split at h
      · rename_i w hw
        simp only [D.flats, Bool.and_eq_true]
        exact ⟨Sh.gd_flat s d a ha hf.1, Sh.gds_flat r ds w hw hf.2⟩
      · cases h
    · cases h
end

theorem beq_eq {a b : Nat} (h : Nat.beq a b = true) : a = b := Nat.eq_of_beq_eq_true h

theorem SD.asI_some {k : IntKind} {d : SD} {n : Int} (h : d.asI k = some n) : d = .int k n := by
  cases d <;> simp only [SD.asI, reduceCtorEq] at h
  rename_i j m
  cases hk : sameK k j <;> rw [hk] at h
  · cases h
  · simp only [cond_true, Option.some.injEq] at h
    subst h; rw [sameK_eq hk]
theorem SD.asUn_some {d : SD} {n : Unit} (h : d.asUn = some n) : d = .un := by
  cases d <;> simp only [SD.asUn, reduceCtorEq] at h; rfl
theorem SD.asB_some {d : SD} {n : Bool} (h : d.asB = some n) : d = .bool n := by
  cases d <;> simp only [SD.asB, reduceCtorEq, Option.some.injEq] at h; rw [h]
theorem SD.asS_some {d : SD} {n : List UInt8} (h : d.asS = some n) : d = .str n := by
  cases d <;> simp only [SD.asS, reduceCtorEq, Option.some.injEq] at h; rw [h]
theorem SD.asAgg_some {d : SD} {n : List SD} (h : d.asAgg = some n) : d = .agg n := by
  cases d <;> simp only [SD.asAgg, reduceCtorEq, Option.some.injEq] at h; rw [h]
theorem SD.asTup_some {d : SD} {n : List SD} (h : d.asTup = some n) : d = .tup n := by
  cases d <;> simp only [SD.asTup, reduceCtorEq, Option.some.injEq] at h; rw [h]
theorem SD.asIp_some {d : SD} {n : List D × Nat} (h : d.asIp = some n) : d = .ip n.1 n.2 := by
  cases d <;> simp only [SD.asIp, reduceCtorEq, Option.some.injEq] at h; subst h; rfl
theorem SD.asMs_some {n o z : Nat} {d : SD} {v : Nat × Nat} (h : d.asMs n o z = some v) : d = .ms n o z v.1 v.2 := by
  cases d <;> simp only [SD.asMs, reduceCtorEq] at h
  rename_i n' o' z' l c
  cases hp : (Nat.beq n n' && (Nat.beq o o' && Nat.beq z z')) <;> rw [hp] at h
  · cases h
  · simp only [cond_true, Option.some.injEq] at h
    simp only [Bool.and_eq_true] at hp
    subst h; rw [beq_eq hp.1, beq_eq hp.2.1, beq_eq hp.2.2]
theorem SD.asGs_some {n o z : Nat} {d : SD} {v : Nat} (h : d.asGs n o z = some v) : d = .gs n o z v := by
  cases d <;> simp only [SD.asGs, reduceCtorEq] at h
  rename_i n' o' z' l
  cases hp : (Nat.beq n n' && (Nat.beq o o' && Nat.beq z z')) <;> rw [hp] at h
  · cases h
  · simp only [cond_true, Option.some.injEq] at h
    simp only [Bool.and_eq_true] at hp
    subst h; rw [beq_eq hp.1, beq_eq hp.2.1, beq_eq hp.2.2]
theorem SD.asPtr_some {n o : Nat} {d : SD} {v : Unit} (h : d.asPtr n o = some v) : d = .ptr n o := by
  cases d <;> simp only [SD.asPtr, reduceCtorEq] at h
  rename_i n' o'
  cases hp : (Nat.beq n n' && Nat.beq o o') <;> rw [hp] at h
  · cases h
  · simp only [Bool.and_eq_true] at hp
    rw [beq_eq hp.1, beq_eq hp.2]
theorem SD.asPts_some {n : Nat} {d : SD} {v : Nat} (h : d.asPts n = some v) : d = .pts n v := by
  cases d <;> simp only [SD.asPts, reduceCtorEq] at h
  rename_i n' o'
  cases hp : Nat.beq n n' <;> rw [hp] at h
  · cases h
  · simp only [cond_true, Option.some.injEq] at h
    subst h; rw [beq_eq hp]
theorem SD.asIt_some {n : Nat} {d : SD} {v : Unit} (h : d.asIt n = some v) : d = .it n := by
  cases d <;> simp only [SD.asIt, reduceCtorEq] at h
  rename_i n'
  cases hp : Nat.beq n n' <;> rw [hp] at h
  · cases h
  · rw [beq_eq hp]
theorem SD.asIf_some {t : Nat} {d : SD} {v : SD} (h : d.asIf t = some v) : d = .iface t v := by
  cases d <;> simp only [SD.asIf, reduceCtorEq] at h
  rename_i t' d'
  cases hp : Nat.beq t t' <;> rw [hp] at h
  · cases h
  · simp only [cond_true, Option.some.injEq] at h
    subst h; rw [beq_eq hp]
theorem SD.asFn_some {f : Nat} {d : SD} {v : List SD × List SD} (h : d.asFn f = some v) : d = .fn (.func f) v.1 v.2 := by
  cases d <;> simp only [SD.asFn, reduceCtorEq] at h
  rename_i g a b
  cases g <;> simp only [reduceCtorEq] at h
  rename_i g
  cases hp : Nat.beq f g <;> rw [hp] at h
  · cases h
  · simp only [cond_true, Option.some.injEq] at h
    subst h; rw [beq_eq hp]

mutual
theorem Sh.gs_pt : ∀ (s : Sh) (d : SD) (v : s.T), s.gs' d = some v → (s.pt v).cv = d.cv ∧ (d.ok → (s.pt v).ok)
  | .any, d, v, h => by
    simp only [Sh.gs'] at h
    cases hp : d.pure <;> rw [hp] at h
    · cases h
    · simp only [cond_true] at h
      cases h; exact ⟨by trivial, fun ho => SD.pure_dp d ho hp⟩
  | .un, d, v, h => by simp only [Sh.gs'] at h; rw [SD.asUn_some h]; exact ⟨by trivial, fun _ => trivial⟩
  | .int k, d, v, h => by simp only [Sh.gs'] at h; rw [SD.asI_some h]; exact ⟨by trivial, fun _ => trivial⟩
  | .bool, d, v, h => by simp only [Sh.gs'] at h; rw [SD.asB_some h]; exact ⟨by trivial, fun _ => trivial⟩
  | .str, d, v, h => by simp only [Sh.gs'] at h; rw [SD.asS_some h]; exact ⟨by trivial, fun _ => trivial⟩
  | .fz, d, v, h => by
    simp only [Sh.gs'] at h
    cases hp : (d.pure && d.one) <;> rw [hp] at h
    · cases h
    · simp only [cond_true] at h
      simp only [Bool.and_eq_true] at hp
      cases h; exact ⟨by trivial, fun ho => ⟨SD.pure_dp d ho hp.1, (SD.one_cv ho hp.2).1⟩⟩
  | .agg l, d, v, h => by
    simp only [Sh.gs'] at h
    split at h
    · rename_i cs hc
      have := Sh.gss_pt l cs v h
      rw [SD.asAgg_some hc]
      simp only [Sh.pt, SD.cv, SD.ok, this.1]
      exact ⟨by trivial, this.2⟩
    · cases h
  | .tup l, d, v, h => by
    simp only [Sh.gs'] at h
    split at h
    · rename_i cs hc
      have := Sh.gss_pt l cs v h
      rw [SD.asTup_some hc]
      simp only [Sh.pt, SD.cv, SD.ok, this.1]
      exact ⟨by trivial, this.2⟩
    · cases h
  | .ms n o z, d, v, h => by simp only [Sh.gs'] at h; rw [SD.asMs_some h]; exact ⟨by trivial, fun _ => trivial⟩
  | .gs n o z, d, v, h => by simp only [Sh.gs'] at h; rw [SD.asGs_some h]; exact ⟨by trivial, fun _ => trivial⟩
  | .ptr n o, d, v, h => by simp only [Sh.gs'] at h; rw [SD.asPtr_some h]; exact ⟨by trivial, fun _ => trivial⟩
  | .pts n, d, v, h => by simp only [Sh.gs'] at h; rw [SD.asPts_some h]; exact ⟨by trivial, fun _ => trivial⟩
  | .ip, d, v, h => by simp only [Sh.gs'] at h; rw [SD.asIp_some h]; exact ⟨by trivial, fun ho => ho⟩
  | .it n, d, v, h => by simp only [Sh.gs'] at h; rw [SD.asIt_some h]; exact ⟨by trivial, fun _ => trivial⟩
  | .iface t s, d, v, h => by
    simp only [Sh.gs'] at h
    split at h
    · rename_i d' hd
      have := Sh.gs_pt s d' v h
      rw [SD.asIf_some hd]
      simp only [Sh.pt, SD.cv, SD.ok, this.1]
      exact ⟨by trivial, this.2⟩
    · cases h
  | .fn f a b, d, v, h => by
    simp only [Sh.gs'] at h
    split at h
    · rename_i p hp0
      split at h
      · rename_i x hx
        split at h
        · rename_i y hy
          cases h
          have h1 := Sh.gss_pt a p.1 x hx
          have h2 := Sh.gss_pt b p.2 y hy
          rw [SD.asFn_some hp0]
          simp only [Sh.pt, SD.cv, SD.ok, h1.1, h2.1]
          exact ⟨by trivial, fun ho => ⟨h1.2 ho.1, h2.2 ho.2⟩⟩
        · cases h
      · cases h
    · cases h
theorem Sh.gss_pt : ∀ (l : List Sh) (ds : List SD) (v : Sh.Ts l), Sh.gss l ds = some v → SD.cvs (Sh.pts' l v) = SD.cvs ds ∧ (SD.oks ds → SD.oks (Sh.pts' l v))
  | [], ds, v, h => by
    cases ds <;> simp only [Sh.gss, reduceCtorEq] at h
    exact ⟨by trivial, fun _ => trivial⟩
  | s :: r, ds, v, h => by
    cases ds <;> simp only [Sh.gss, reduceCtorEq] at h
    rename_i d ds
    split at h
    · rename_i a ha
      split at h
      · rename_i w hw
        cases h
        have h1 := Sh.gs_pt s d a ha
        have h2 := Sh.gss_pt r ds w hw
        simp only [Sh.pts', SD.cvs, SD.oks, h1.1, h2.1]
        exact ⟨by trivial, fun h => ⟨h1.2 h.1, h2.2 h.2⟩⟩
      · cases h
    · cases h
end

theorem SB.asFo_some {b : SB} {v : List D} (h : b.asFo = some v) : b.cv = .fix v ∧ (b.ok → D.dps v = true) := by
  cases b <;> simp only [SB.asFo, reduceCtorEq] at h
  · rename_i cs
    cases hp : SD.pures cs <;> rw [hp] at h
    · cases h
    · simp only [cond_true, Option.some.injEq] at h
      subst h; exact ⟨by trivial, fun ho => SD.pures_dps cs ho hp⟩
  · cases h; exact ⟨by trivial, fun ho => ho⟩
theorem SB.asGr_some {b : SB} {v : List D} (h : b.asGr = some v) : b = .gr v := by
  cases b <;> simp only [SB.asGr, reduceCtorEq, Option.some.injEq] at h; rw [h]
theorem SB.asIt_some {b : SB} {v : List UInt8 × Nat} (h : b.asIt = some v) : b = .it v.1 v.2 := by
  cases b <;> simp only [SB.asIt, reduceCtorEq, Option.some.injEq] at h; subst h; rfl
theorem Sh.gbs_some {l : List Sh} {b : SB} {v : Sh.Ts l} (h : Sh.gbs l b = some v) : (SB.fix (Sh.pts' l v)).cv = b.cv ∧ (b.ok → SD.oks (Sh.pts' l v)) := by
  unfold Sh.gbs at h
  split at h
  · rename_i cs
    have := Sh.gss_pt l cs v h
    simp only [SB.cv, SB.ok, this.1]; exact ⟨by trivial, this.2⟩
  · rename_i cs
    have := Sh.gds_pt l cs v h
    simp only [SB.cv, SB.ok, this.1]; exact ⟨by trivial, this.2⟩
  · cases h

theorem BSh.gb_pt : ∀ {s : BSh} {b : SB} {v : s.T}, s.gb b = some v → (s.pt v).cv = b.cv ∧ (b.ok → (s.pt v).ok)
  | .fix l, b, v, h => Sh.gbs_some h
  | .fo, b, v, h => ⟨(SB.asFo_some h).1.symm, (SB.asFo_some h).2⟩
  | .gr, b, v, h => by have h1 := SB.asGr_some h; rw [h1]; exact ⟨by trivial, fun ho => ho⟩
  | .it, b, v, h => by have h1 := SB.asIt_some h; rw [h1]; exact ⟨by trivial, fun ho => ho⟩

end Iv
/- Operations on values with open places do what they do on abstract values, one. Conditions: none. -/
set_option linter.unusedSimpArgs false
set_option linter.unusedVariables false
namespace Iv
open Go

theorem bd_some {α ρ : Type} {o : Option α} {k : α → Option ρ} {r : ρ} (h : bd o k = some r) : ∃ a, o = some a ∧ k a = some r := by
  cases o with
  | none => cases h
  | some a => exact ⟨a, rfl, h⟩

theorem cond_some {ρ : Type} {b : Bool} {e : Option ρ} {r : ρ} (h : (bif b then e else none) = some r) : b = true ∧ e = some r := by
  cases b
  · cases h
  · exact ⟨rfl, h⟩

theorem cond_someN {ρ : Type} {b : Bool} {e : Option ρ} {r : ρ} (h : (bif b then none else e) = some r) : b = false ∧ e = some r := by
  cases b
  · exact ⟨rfl, h⟩
  · cases h

section
variable {ρ : Type} {G : List (Nat × List D)} {x : SS} {r : ρ}

def GOk (G : List (Nat × List D)) : Prop := ∀ p ∈ G, D.dps p.2 = true

theorem es_cv (a : Arg) (t : List (Nat × SD)) : (a.es G t).cv = a.ev G (cvT t) := by
  cases a with
  | t n => simp only [Arg.es, Arg.ev, tget_cv]
  | c d => simp only [Arg.es, Arg.ev, ofD_cv]
  | g n =>
    simp only [Arg.es, Arg.ev, gcells]
    cases G.find? (fun p => Nat.beq p.1 n) <;> rfl
  | f n => rfl

theorem es_ok (hG : GOk G) {t : List (Nat × SD)} (ht : ∀ p ∈ t, p.2.ok) {a : Arg} (hc : a.cok = true) : (a.es G t).ok := by
  cases a with
  | t n => exact tgetS_ok ht n
  | c d => exact ofD_ok d hc
  | g n =>
    simp only [Arg.es, gcells]
    cases hf : G.find? (fun p => Nat.beq p.1 n) with
    | none => trivial
    | some p => exact hG p (List.mem_of_find?_eq_some hf)
  | f n => exact ⟨trivial, trivial⟩

theorem sget_some {nm : Nat} {b : SB} (h : sgetS x.s nm = some b) : sget x.cv.s nm = some b.cv := by
  simp only [SS.cv, sget_cv, h, Option.map_some]

theorem addS_some {nm : Nat} {b : SB} (hx : x.ok) (hb : b.ok) {K : SS → Option ρ} (h : x.add nm b K = some r) : ∃ X' : SS, x.cv.add nm b.cv = some X'.cv ∧ X'.ok ∧ K X' = some r := by
  unfold SS.add at h
  cases hs : shasS x.s nm <;> rw [hs] at h
  · refine ⟨⟨x.t, (nm, b) :: x.s⟩, ?_, ⟨hx.1, fun p hp => ?_⟩, h⟩
    · simp only [AS.add, SS.cv, shas_cv, hs, cond_false, cvS]
    · rcases List.mem_cons.1 hp with rfl | hp
      · exact hb
      · exact hx.2 p hp
  · cases h

/-- What an operation on abstract values has to do, for one on values with open places. -/
def Does (G : List (Nat × List D)) (o : AOp) (x : SS) (K : SD → SS → Option ρ) (r : ρ) : Prop :=
  ∃ (d : SD) (X' : SS), step G o x.cv = some (d.cv, X'.cv) ∧ d.ok ∧ X'.ok ∧ K d X' = some r

theorem Does.mk {o : AOp} {K : SD → SS → Option ρ} {d : SD} {X' : SS} (h : K d X' = some r) (hd : d.ok) (hX : X'.ok) (hs : step G o x.cv = some (d.cv, X'.cv)) : Does G o x K r :=
  ⟨d, X', hs, hd, hX, h⟩

theorem takeAt_fa {cs : List D} (h : D.dps cs = true) {off : Nat} {sz : Option Nat} {d : D} (ht : takeAt cs off sz = some d) : (SD.fa d).ok := takeAt_dp h ht

theorem ldK_some (hx : x.ok) {sz : Option Nat} {p : SD} (hp : p.ok) {K : SD → Option ρ} (h : ldK sz p x K = some r) :
    ∃ (d : SD) (cs : List D) (off : Nat), seen x.cv.s p.cv = some (cs, off) ∧ takeAt cs off sz = some d.cv ∧ d.ok ∧ K d = some r := by
  unfold ldK at h
  split at h
  · rename_i nm off
    split at h
    · rename_i cs hs
      obtain ⟨d, h1, h2⟩ := bd_some h
      exact ⟨d, SD.cvs cs, off, by simp [seen, SD.cv, sget_some hs, SB.cv, blkCells], takeS_cv h1, takeS_ok (sgetS_ok hx.2 hs) h1, h2⟩
    · rename_i cs hs
      obtain ⟨d, h1, h2⟩ := bd_some h
      exact ⟨.fa d, cs, off, by simp [seen, SD.cv, sget_some hs, SB.cv, blkCells], h1, takeAt_fa (sgetS_ok hx.2 hs) h1, h2⟩
    · rename_i cs hs
      obtain ⟨d, h1, h2⟩ := bd_some h
      exact ⟨.fa d, cs, off, by simp [seen, SD.cv, sget_some hs, SB.cv, blkCells], h1, takeAt_fa (sgetS_ok hx.2 hs) h1, h2⟩
    · cases h
  · rename_i nm off
    split at h
    · rename_i cs hs
      obtain ⟨hp, h⟩ := cond_some h
      obtain ⟨d, h1, h2⟩ := bd_some h
      exact ⟨.fa d, SD.cvs cs, off, by simp [seen, SD.cv, sget_some hs, SB.cv, blkCells], h1, takeAt_fa (SD.pures_dps cs (sgetS_ok hx.2 hs) hp) h1, h2⟩
    · rename_i cs hs
      obtain ⟨d, h1, h2⟩ := bd_some h
      exact ⟨.fa d, cs, off, by simp [seen, SD.cv, sget_some hs, SB.cv, blkCells], h1, takeAt_fa (sgetS_ok hx.2 hs) h1, h2⟩
    · rename_i cs hs
      obtain ⟨d, h1, h2⟩ := bd_some h
      exact ⟨.fa d, cs, off, by simp [seen, SD.cv, sget_some hs, SB.cv, blkCells], h1, takeAt_fa (sgetS_ok hx.2 hs) h1, h2⟩
    · cases h
  · rename_i cs off
    obtain ⟨d, h1, h2⟩ := bd_some h
    exact ⟨.fa d, cs, off, by simp [seen, SD.cv], h1, takeAt_fa hp h1, h2⟩
  · rename_i d0
    obtain ⟨d, h1, h2⟩ := bd_some h
    cases d0 <;> simp only [ldF, reduceCtorEq] at h1
    rename_i cs off
    exact ⟨.fa d, cs, off, by simp [seen, SD.cv], h1, takeAt_fa hp.1 h1, h2⟩
  · cases h

theorem does_ld (hG : GOk G) (hx : x.ok) {sz : Option Nat} {a : Arg} (hc : a.cok = true) {K : SD → SS → Option ρ} (h : opS G (.ld sz a) x K = some r) : Does G (.ld sz a) x K r := by
  obtain ⟨d, cs, off, h1, h2, h3, h4⟩ := ldK_some hx (es_ok hG hx.1 hc) h
  refine ⟨d, x, ?_, h3, hx, h4⟩
  rw [es_cv] at h1
  simp only [step, SS.cv] at h1 ⊢
  simp [h1, h2]

theorem cells_dp {d : D} {cs : List D} (h : d.dp = true) (hc : d.cells? = some cs) : D.dps cs = true := by
  cases d <;> simp only [D.cells?, Option.some.injEq, reduceCtorEq] at hc <;> subst hc
  all_goals first
    | (simp only [D.dp] at h; exact h)
    | (simp only [D.dps, Bool.and_true]; exact h)

/-- The cells of a value that is put into memory. -/
theorem cellsK_some {n : Nat} {v : SD} (hv : v.ok) {K1 : List SD → Option ρ} {K2 : List D → Option ρ} (h : cellsK n v K1 K2 = some r) :
    (∃ vs : List SD, v.cv.cells? = some (SD.cvs vs) ∧ vs.length = n ∧ SD.ones vs = true ∧ SD.oks vs ∧ K1 vs = some r) ∨
    (∃ vs : List D, v.cv.cells? = some vs ∧ vs.length = n ∧ vs.any isAg = false ∧ D.dps vs = true ∧ K2 vs = some r) := by
  have one : ∀ (d : SD), d.ok → d.one = true → (bif Nat.beq n 1 then K1 [d] else none) = some r →
      ∃ vs : List SD, d.cv.cells? = some (SD.cvs vs) ∧ vs.length = n ∧ SD.ones vs = true ∧ SD.oks vs ∧ K1 vs = some r := fun d hd h1 h => by
    obtain ⟨hn, h⟩ := cond_some h
    exact ⟨[d], (SD.one_cv hd h1).2, (beq_eq hn).symm, by simp [SD.ones, h1], ⟨hd, trivial⟩, h⟩
  unfold cellsK at h
  split at h
  · cases h
  · cases h
  · rename_i cs
    obtain ⟨hb, h⟩ := cond_some h
    simp only [Bool.and_eq_true] at hb
    exact .inl ⟨cs, rfl, beq_eq hb.1, hb.2, hv, h⟩
  · rename_i d
    obtain ⟨vs, h1, h2⟩ := bd_some h
    unfold cellsF at h1
    split at h1
    · rename_i cs hcs
      obtain ⟨hb, h1⟩ := cond_some h1
      cases h1
      simp only [Bool.and_eq_true, Bool.not_eq_true'] at hb
      exact .inr ⟨vs, hcs, beq_eq hb.1, hb.2, cells_dp hv hcs, h2⟩
    · cases h1
  · rename_i d h1 h2 h3 h4
    refine .inl (one v hv ?_ h)
    cases v <;> first | rfl | (exact absurd rfl (h1)) | (exact absurd rfl h2) | (exact absurd rfl (h2 _)) | (exact absurd rfl (h3 _)) | (exact absurd rfl (h4 _))

theorem stB_fix {cs vs : List D} {off : Nat} (h1 : vs.any isAg = false) (h2 : Nat.ble (off + vs.length) cs.length = true) : stB (.fix cs) off vs = some (.fix (setAt cs off vs)) := by
  simp [stB, h1, h2]
theorem stB_grow {cs vs : List D} {off : Nat} (h1 : vs.any isAg = false) (h2 : Nat.ble (off + vs.length) cs.length = true) : stB (.grow cs) off vs = some (.grow (setAt cs off vs)) := by
  simp [stB, h1, h2]

theorem inR_some {off n len : Nat} {u : Unit} (h : inR off n len = some u) : Nat.ble (off + n) len = true := (cond_some h).1

theorem stBK_some {sure : Bool} {b : SB} (hb : b.ok) {off n : Nat} {vs : List SD} (hv : SD.oks vs) (hn : vs.length = n) (h1 : SD.ones vs = true) {K : SB → Option ρ} (h : stBK sure b off n vs K = some r) :
    ∃ b' : SB, stB b.cv off (SD.cvs vs) = some b'.cv ∧ b'.ok ∧ K b' = some r := by
  have ha := SD.ones_cv hv h1
  have hl : (SD.cvs vs).length = n := by rw [SD.cvs_length, hn]
  unfold stBK at h
  simp only [setQ_eq] at h
  split at h
  · rename_i cs
    cases sure
    · simp only [cond_false] at h
      obtain ⟨hp, h⟩ := cond_some h
      simp only [Bool.and_eq_true] at hp
      obtain ⟨u, hr, h⟩ := bd_some h
      refine ⟨_, ?_, ?_, h⟩
      · simp only [SB.cv]; exact stB_fix ha (by rw [hl, SD.cvs_length]; exact inR_some hr)
      · exact dps_setAt (SD.pures_dps cs hb hp.1) (SD.pures_dps vs hv hp.2)
    · simp only [cond_true] at h
      obtain ⟨hr, h⟩ := cond_some h
      refine ⟨_, ?_, ?_, h⟩
      · simp only [SB.cv, SD.cvs_setAt]; exact stB_fix ha (by rw [hl, SD.cvs_length]; exact hr)
      · exact SD.oks_setAt hb hv
  · rename_i cs
    obtain ⟨hp, h⟩ := cond_some h
    obtain ⟨u, hr, h⟩ := bd_some h
    exact ⟨.fo (setAt cs off (SD.cvs vs)), by simp only [SB.cv]; exact stB_fix ha (by rw [hl]; exact inR_some hr), dps_setAt hb (SD.pures_dps vs hv hp), h⟩
  · rename_i cs
    obtain ⟨hp, h⟩ := cond_some h
    obtain ⟨u, hr, h⟩ := bd_some h
    exact ⟨.gr (setAt cs off (SD.cvs vs)), by simp only [SB.cv]; exact stB_grow ha (by rw [hl]; exact inR_some hr), dps_setAt hb (SD.pures_dps vs hv hp), h⟩
  · cases h

theorem stDK_some {b : SB} (hb : b.ok) {off n : Nat} {vs : List D} (hv : D.dps vs = true) (hn : vs.length = n) (ha : vs.any isAg = false) {K : SB → Option ρ} (h : stDK b off n vs K = some r) :
    ∃ b' : SB, stB b.cv off vs = some b'.cv ∧ b'.ok ∧ K b' = some r := by
  unfold stDK at h
  simp only [setQ_eq] at h
  split at h
  · rename_i cs
    obtain ⟨hp, h⟩ := cond_some h
    obtain ⟨u, hr, h⟩ := bd_some h
    exact ⟨.fo (setAt (SD.cvs cs) off vs), by simp only [SB.cv]; exact stB_fix ha (by rw [hn, SD.cvs_length]; exact inR_some hr), dps_setAt (SD.pures_dps cs hb hp) hv, h⟩
  · rename_i cs
    obtain ⟨u, hr, h⟩ := bd_some h
    exact ⟨.fo (setAt cs off vs), by simp only [SB.cv]; exact stB_fix ha (by rw [hn]; exact inR_some hr), dps_setAt hb hv, h⟩
  · rename_i cs
    obtain ⟨u, hr, h⟩ := bd_some h
    exact ⟨.gr (setAt cs off vs), by simp only [SB.cv]; exact stB_grow ha (by rw [hn]; exact inR_some hr), dps_setAt hb hv, h⟩
  · cases h

theorem does_st (hG : GOk G) (hx : x.ok) {n : Nat} {a v : Arg} (hc : a.cok = true) (hcv : v.cok = true) {K : SD → SS → Option ρ} (h : opS G (.st n a v) x K = some r) : Does G (.st n a v) x K r := by
  simp only [opS] at h
  have hv := es_ok hG hx.1 hcv
  have key : ∀ (sure : Bool) (nm off : Nat) (b : SB), (a.es G x.t).cv = .ptr nm off → sgetS x.s nm = some b →
      cellsK n (v.es G x.t) (fun vs => stBK sure b off n vs fun b => K .un (x.set nm b)) (fun vs => stDK b off n vs fun b => K .un (x.set nm b)) = some r → Does G (.st n a v) x K r := fun sure nm off b hp hs h => by
    rw [es_cv] at hp
    have fin : ∀ (vs : List D) (b' : SB), (v.es G x.t).cv.cells? = some vs → vs.length = n → stB b.cv off vs = some b'.cv → step G (.st n a v) x.cv = some (SD.un.cv, (x.set nm b').cv) := fun vs b' h1 h2 h3 => by
      rw [es_cv] at h1
      have e1 : a.ev G x.cv.t = .ptr nm off := hp
      have e2 : (v.ev G x.cv.t).cells? = some vs := h1
      have hn : Nat.beq vs.length n = true := by rw [h2]; simp
      simp only [step, e1, sget_some hs, e2, Option.bind_eq_bind, Option.bind_some, hn, cond_true, h3, Option.map_some, SD.cv, SS.set_cv]
    rcases cellsK_some hv h with ⟨vs, h1, h2, h3, h4, h5⟩ | ⟨vs, h1, h2, h3, h4, h5⟩
    · obtain ⟨b', h6, h7, h8⟩ := stBK_some (sgetS_ok hx.2 hs) h4 h2 h3 h5
      exact ⟨.un, x.set nm b', fin _ b' h1 (by rw [SD.cvs_length, h2]) h6, trivial, hx.set nm h7, h8⟩
    · obtain ⟨b', h6, h7, h8⟩ := stDK_some (sgetS_ok hx.2 hs) h4 h2 h3 h5
      exact ⟨.un, x.set nm b', fin _ b' h1 h2 h6, trivial, hx.set nm h7, h8⟩
  unfold stK at h
  split at h
  · rename_i nm off hp
    split at h
    · rename_i b hs
      exact key true nm off b (by rw [hp]; rfl) hs h
    · cases h
  · rename_i nm off hp
    split at h
    · rename_i b hs
      exact key false nm off b (by rw [hp]; rfl) hs h
    · cases h
  · cases h

theorem does_new (hG : GOk G) (hx : x.ok) {nm : Nat} {a : Arg} (hc : a.cok = true) {K : SD → SS → Option ρ} (h : opS G (.new nm a) x K = some r) : Does G (.new nm a) x K r := by
  simp only [opS] at h
  have ha := es_ok hG hx.1 hc
  have key : ∀ (b : SB) (cs : List D), (a.es G x.t).cv.cells? = some cs → b.cv = .fix cs → b.ok → (x.add nm b fun x => K (.ptr nm 0) x) = some r → Does G (.new nm a) x K r := fun b cs h1 h2 h3 h4 => by
    obtain ⟨X', h5, h6, h7⟩ := addS_some hx h3 h4
    refine ⟨.ptr nm 0, X', ?_, trivial, h6, h7⟩
    rw [es_cv] at h1
    have e1 : (a.ev G x.cv.t).cells? = some cs := h1
    rw [h2] at h5
    simp only [step, e1, h5, Option.map_some, SD.cv]
  unfold newK at h
  split at h
  · cases h
  · cases h
  · rename_i cs hA
    rw [hA] at ha
    exact key (.fix cs) (SD.cvs cs) (by rw [hA]; rfl) rfl ha h
  · rename_i d hA
    obtain ⟨cs, h1, h2⟩ := bd_some h
    rw [hA] at ha
    exact key (.fo cs) cs (by rw [hA]; exact h1) rfl (cells_dp ha h1) h2
  · rename_i d h1 h2 h3 h4
    have hone : (a.es G x.t).one = true := by
      cases hA : a.es G x.t <;> first | rfl | (exact absurd hA (h1)) | (exact absurd hA (h2 _)) | (exact absurd hA (h3 _)) | (exact absurd hA (h4 _))
    exact key (.fix [a.es G x.t]) [(a.es G x.t).cv] (SD.one_cv ha hone).2 rfl ⟨ha, trivial⟩ h

theorem ptF_some {d : D} {p : List D × Nat} (h : ptF d = some p) : d = .iptr p.1 p.2 := by
  cases d <;> simp only [ptF, Option.some.injEq, reduceCtorEq] at h
  subst h; rfl

theorem does_fa (hG : GOk G) (hx : x.ok) {o : Nat} {a : Arg} (hc : a.cok = true) {K : SD → SS → Option ρ} (h : opS G (.fa o a) x K = some r) : Does G (.fa o a) x K r := by
  simp only [opS] at h
  have ha := es_ok hG hx.1 hc
  have he : (a.es G x.t).cv = a.ev G x.cv.t := es_cv a x.t
  split at h
  · rename_i nm off hA
    rw [hA] at he
    exact Does.mk h (trivial) hx (by simp only [step, ← he, SD.cv])
  · rename_i nm off hA
    rw [hA] at he
    exact Does.mk h (trivial) hx (by simp only [step, ← he, SD.cv])
  · rename_i cs off hA
    rw [hA] at he ha
    exact Does.mk h (ha) hx (by simp only [step, ← he, SD.cv])
  · rename_i d hA
    obtain ⟨p, h1, h2⟩ := bd_some h
    rw [hA] at he ha
    simp only [SD.cv, ptF_some h1] at he
    refine Does.mk h2 ?_ hx (by simp only [step, ← he, SD.cv])
    have := ha.1
    rw [ptF_some h1] at this
    exact this
  · cases h

theorem does_nilc (hG : GOk G) (hx : x.ok) {a : Arg} (hc : a.cok = true) {K : SD → SS → Option ρ} (h : opS G (.nilc a) x K = some r) : Does G (.nilc a) x K r := by
  simp only [opS] at h
  have ha := es_ok hG hx.1 hc
  have he : (a.es G x.t).cv = a.ev G x.cv.t := es_cv a x.t
  split at h
  · rename_i nm off hA
    rw [hA] at he
    exact Does.mk h (trivial) hx (by simp only [step, ← he, SD.cv])
  · rename_i nm off hA
    rw [hA] at he
    exact Does.mk h (trivial) hx (by simp only [step, ← he, SD.cv])
  · rename_i cs off hA
    rw [hA] at he ha
    exact Does.mk h (ha) hx (by simp only [step, ← he, SD.cv])
  · rename_i f p q hA
    rw [hA] at he ha
    exact Does.mk h (ha) hx (by simp only [step, ← he, SD.cv])
  · rename_i d hA
    obtain ⟨p, h1, h2⟩ := bd_some h
    rw [hA] at he ha
    simp only [SD.cv, ptF_some h1] at he
    refine Does.mk h2 ?_ hx (by simp only [step, ← he, SD.cv])
    have := ha.1
    rw [ptF_some h1] at this
    exact this
  · cases h

theorem does_iaA (hG : GOk G) (hx : x.ok) {n sz : Nat} {a i : Arg} (hc : a.cok = true) {K : SD → SS → Option ρ} (h : opS G (.iaA n sz a i) x K = some r) : Does G (.iaA n sz a i) x K r := by
  simp only [opS] at h
  have ha := es_ok hG hx.1 hc
  have he : (a.es G x.t).cv = a.ev G x.cv.t := es_cv a x.t
  have hi : (i.es G x.t).cv = i.ev G x.cv.t := es_cv i x.t
  unfold iaAK at h
  split at h
  · rename_i nm off hA
    rw [hA] at he
    obtain ⟨k, h1, h2⟩ := bd_some h
    rw [hi] at h1
    cases hcst : i.isC <;> rw [hcst] at h2
    · exact Does.mk h2 (trivial) hx (by simp [step, ← he, SD.cv, h1])
    · exact Does.mk h2 (trivial) hx (by simp [step, ← he, SD.cv, h1])
  · rename_i nm off hA
    rw [hA] at he
    obtain ⟨k, h1, h2⟩ := bd_some h
    rw [hi] at h1
    exact Does.mk h2 (trivial) hx (by simp [step, ← he, SD.cv, h1])
  · rename_i cs off hA
    rw [hA] at he ha
    obtain ⟨k, h1, h2⟩ := bd_some h
    rw [hi] at h1
    exact Does.mk h2 (ha) hx (by simp [step, ← he, SD.cv, h1])
  · rename_i d hA
    obtain ⟨p, h1, h⟩ := bd_some h
    obtain ⟨k, h2, h3⟩ := bd_some h
    rw [hi] at h2
    rw [hA] at he ha
    simp only [SD.cv, ptF_some h1] at he
    refine Does.mk h3 ?_ hx (by simp [step, ← he, SD.cv, h2])
    have := ha.1
    rw [ptF_some h1] at this
    exact this
  · cases h

theorem does_iaS (hG : GOk G) (hx : x.ok) {sz : Nat} {a i : Arg} (hc : a.cok = true) {K : SD → SS → Option ρ} (h : opS G (.iaS sz a i) x K = some r) : Does G (.iaS sz a i) x K r := by
  simp only [opS] at h
  have ha := es_ok hG hx.1 hc
  have he : (a.es G x.t).cv = a.ev G x.cv.t := es_cv a x.t
  have hi : (i.es G x.t).cv = i.ev G x.cv.t := es_cv i x.t
  unfold iaSK at h
  split at h
  · rename_i d hA
    obtain ⟨p, h1, h2⟩ := bd_some h
    rw [hA] at he ha
    rw [hi] at h1
    cases d <;> simp only [elF, reduceCtorEq] at h1
    rename_i ex len cs
    split at h1
    · rename_i k hk
      simp only [Option.some.injEq] at h1
      subst h1
      simp only [SD.cv] at he
      exact Does.mk h2 (ha.1) hx (by simp [step, ← he, SD.cv, hk])
    · cases h1
  · rename_i nm off z len c hA
    rw [hA] at he
    obtain ⟨k, h1, h⟩ := bd_some h
    obtain ⟨hz, h⟩ := cond_some h
    rw [hi] at h1
    cases hcst : i.isC <;> rw [hcst] at h
    · exact Does.mk h (trivial) hx (by simp [step, ← he, SD.cv, h1, hz])
    · exact Does.mk h (trivial) hx (by simp [step, ← he, SD.cv, h1, hz])
  · rename_i nm off z len hA
    rw [hA] at he
    obtain ⟨k, h1, h⟩ := bd_some h
    obtain ⟨hz, h⟩ := cond_some h
    rw [hi] at h1
    cases hcst : i.isC <;> rw [hcst] at h
    · exact Does.mk h (trivial) hx (by simp [step, ← he, SD.cv, h1, hz])
    · exact Does.mk h (trivial) hx (by simp [step, ← he, SD.cv, h1, hz])
  · cases h

theorem does_ixA (hG : GOk G) (hx : x.ok) {n sz : Nat} {ag : Bool} {a i : Arg} (hc : a.cok = true) {K : SD → SS → Option ρ} (h : opS G (.ixA n sz ag a i) x K = some r) : Does G (.ixA n sz ag a i) x K r := by
  simp only [opS] at h
  have ha := es_ok hG hx.1 hc
  have he : (a.es G x.t).cv = a.ev G x.cv.t := es_cv a x.t
  have hi : (i.es G x.t).cv = i.ev G x.cv.t := es_cv i x.t
  unfold ixAK at h
  split at h
  · rename_i cs hA
    rw [hA] at he ha
    simp only [SD.cv] at he
    cases hcst : i.isC <;> rw [hcst] at h
    · simp only [cond_false] at h
      obtain ⟨hp, h⟩ := cond_some h
      obtain ⟨k, h1, h⟩ := bd_some h
      obtain ⟨d, h2, h⟩ := bd_some h
      rw [hi] at h1
      exact Does.mk h (takeAt_fa (SD.pures_dps cs ha hp) h2) hx (by simp [step, ← he, h1, h2]; rfl)
    · simp only [cond_true] at h
      obtain ⟨k, h1, h⟩ := bd_some h
      obtain ⟨d, h2, h⟩ := bd_some h
      rw [hi] at h1
      exact Does.mk h (takeS_ok ha h2) hx (by simp [step, ← he, h1, takeS_cv h2])
  · rename_i d0 hA
    rw [hA] at he ha
    simp only [SD.cv] at he
    obtain ⟨d, h1, hk0⟩ := bd_some h
    rw [hi] at h1
    cases d0 <;> simp only [ixF, reduceCtorEq] at h1
    rename_i cs
    split at h1
    · rename_i k hk
      exact Does.mk hk0 (takeAt_fa ha h1) hx (by simp [step, ← he, hk, h1]; rfl)
    · cases h1
  · cases h

theorem does_ixS (hG : GOk G) (hx : x.ok) {a i : Arg} {K : SD → SS → Option ρ} (h : opS G (.ixS a i) x K = some r) : Does G (.ixS a i) x K r := by
  simp only [opS] at h
  have he : (a.es G x.t).cv = a.ev G x.cv.t := es_cv a x.t
  have hi : (i.es G x.t).cv = i.ev G x.cv.t := es_cv i x.t
  split at h
  · rename_i s hA
    rw [hA] at he
    obtain ⟨n, h1, h2⟩ := bd_some h
    rw [hi] at h1
    unfold ixStr at h1
    split at h1
    · rename_i k hk
      split at h1
      · rename_i b hb
        simp only [Option.some.injEq] at h1
        subst h1
        exact Does.mk h2 (trivial) hx (by simp [step, ← he, SD.cv, hk, hb])
      · cases h1
    · cases h1
  · cases h

theorem does_fld (hG : GOk G) (hx : x.ok) {off : Nat} {sz : Option Nat} {a : Arg} (hc : a.cok = true) {K : SD → SS → Option ρ} (h : opS G (.fld off sz a) x K = some r) : Does G (.fld off sz a) x K r := by
  simp only [opS] at h
  have ha := es_ok hG hx.1 hc
  have he : (a.es G x.t).cv = a.ev G x.cv.t := es_cv a x.t
  split at h
  · rename_i cs hA
    rw [hA] at he ha
    obtain ⟨d, h1, h2⟩ := bd_some h
    exact Does.mk h2 (takeS_ok ha h1) hx (by simp [step, ← he, SD.cv, takeS_cv h1])
  · rename_i d0 hA
    rw [hA] at he ha
    obtain ⟨d, h1, h2⟩ := bd_some h
    cases d0 <;> simp only [fldF, reduceCtorEq] at h1
    rename_i cs
    exact Does.mk h2 (takeAt_fa ha h1) hx (by simp [step, ← he, SD.cv, h1])
  · cases h

theorem does_ext (hG : GOk G) (hx : x.ok) {i : Nat} {a : Arg} (hc : a.cok = true) {K : SD → SS → Option ρ} (h : opS G (.ext i a) x K = some r) : Does G (.ext i a) x K r := by
  simp only [opS] at h
  have ha := es_ok hG hx.1 hc
  have he : (a.es G x.t).cv = a.ev G x.cv.t := es_cv a x.t
  split at h
  · rename_i cs hA
    rw [hA] at he ha
    obtain ⟨d, h1, h2⟩ := bd_some h
    exact Does.mk h2 (SD.oks_iff.1 ha d (List.mem_of_getElem? h1)) hx (by simp [step, ← he, SD.cv, SD.cvs_eq, h1])
  · rename_i d0 hA
    rw [hA] at he ha
    obtain ⟨d, h1, h2⟩ := bd_some h
    cases d0 <;> simp only [extF, reduceCtorEq] at h1
    rename_i cs
    exact Does.mk h2 (D.dps_iff.1 ha d (List.mem_of_getElem? h1)) hx (by simp [step, ← he, SD.cv, h1])
  · cases h

end

end Iv
/- Operations on values with open places do what they do on abstract values, two. Conditions: none. -/
set_option linter.unusedSimpArgs false
set_option linter.unusedVariables false
namespace Iv
open Go

section
variable {ρ : Type} {G : List (Nat × List D)} {x : SS} {r : ρ} {K : SD → SS → Option ρ}

theorem does_mv (hG : GOk G) (hx : x.ok) {a : Arg} (hc : a.cok = true) (h : opS G (.mv a) x K = some r) : Does G (.mv a) x K r :=
  Does.mk h (es_ok hG hx.1 hc) hx (by rw [es_cv]; rfl)

theorem does_pick (hG : GOk G) (hx : x.ok) {c a b : Arg} (hc1 : a.cok = true) (hc2 : b.cok = true) (h : opS G (.pick c a b) x K = some r) : Does G (.pick c a b) x K r := by
  simp only [opS] at h
  have he : (c.es G x.t).cv = c.ev G x.cv.t := es_cv c x.t
  split at h
  · rename_i b' hA
    rw [hA] at he
    cases b'
    · exact Does.mk h (es_ok hG hx.1 hc2) hx (by rw [es_cv]; simp [step, ← he, SD.cv]; rfl)
    · exact Does.mk h (es_ok hG hx.1 hc1) hx (by rw [es_cv]; simp [step, ← he, SD.cv]; rfl)
  · cases h

theorem binK_int {op : BinOp} {k : IntKind} {x y : Int} {K : SD → Option ρ} (h : binK op (.int k x) (.int k y) K = some r) : ∃ d, binD op (.int k x) (.int k y) = some d.cv ∧ d.ok ∧ K d = some r := by
  have fin : ∀ (d : SD), K d = some r → d.ok → binD op (.int k x) (.int k y) = some d.cv → ∃ d, binD op (.int k x) (.int k y) = some d.cv ∧ d.ok ∧ K d = some r := fun d h1 h2 h3 => ⟨d, h3, h2, h1⟩
  cases op <;> simp only [binK, sameK_refl, cond_true] at h
  case shl =>
    obtain ⟨n, h1, h2⟩ := bd_some h
    refine fin _ h2 trivial ?_
    unfold shlD at h1
    simp only [binD, shD, SD.cv]
    by_cases hy : y < 0
    · rw [if_pos hy] at h1; cases h1
    · rw [if_neg hy] at h1 ⊢; cases h1; rfl
  case shr =>
    obtain ⟨n, h1, h2⟩ := bd_some h
    refine fin _ h2 trivial ?_
    unfold shrD at h1
    simp only [binD, shD, SD.cv]
    by_cases hy : y < 0
    · rw [if_pos hy] at h1; cases h1
    · rw [if_neg hy] at h1 ⊢; cases h1; rfl
  case quo =>
    obtain ⟨n, h1, h2⟩ := bd_some h
    refine fin _ h2 trivial ?_
    unfold quoD at h1
    simp only [binD, if_true, intD, SD.cv]
    by_cases hy : y = 0
    · rw [if_pos hy] at h1; cases h1
    · rw [if_neg hy] at h1 ⊢; cases h1; rfl
  case rem =>
    obtain ⟨n, h1, h2⟩ := bd_some h
    refine fin _ h2 trivial ?_
    unfold remD at h1
    simp only [binD, if_true, intD, SD.cv]
    by_cases hy : y = 0
    · rw [if_pos hy] at h1; cases h1
    · rw [if_neg hy] at h1 ⊢; cases h1; rfl
  all_goals first
    | (cases h; done)
    | (refine fin _ h trivial ?_; simp only [binD, if_true, intD, SD.cv, ltZ_eq, leZ_eq, eqZ_eq]; done)
    | (refine fin _ h trivial ?_; simp only [binD, if_true, intD, SD.cv, ltZ_eq, leZ_eq, eqZ_eq]; rfl)
    | (refine fin _ h trivial ?_; simp only [binD, if_true]; rfl)

theorem binK_str {op : BinOp} {s t : List UInt8} {K : SD → Option ρ} (h : binK op (.str s) (.str t) K = some r) : ∃ d, binD op (.str s) (.str t) = some d.cv ∧ d.ok ∧ K d = some r := by
  have fin : ∀ (d : SD), K d = some r → d.ok → binD op (.str s) (.str t) = some d.cv → ∃ d, binD op (.str s) (.str t) = some d.cv ∧ d.ok ∧ K d = some r := fun d h1 h2 h3 => ⟨d, h3, h2, h1⟩
  cases op <;> simp only [binK, reduceCtorEq] at h
  case add =>
    obtain ⟨n, h1, h2⟩ := bd_some h
    obtain ⟨hl, h1⟩ := cond_some h1
    cases h1
    exact fin _ h2 trivial (by simp [binD, strD, SD.cv, hl])
  all_goals exact fin _ h trivial rfl

theorem binK_some {op : BinOp} {a b : SD} {K : SD → Option ρ} (h : binK op a b K = some r) : ∃ d, binD op a.cv b.cv = some d.cv ∧ d.ok ∧ K d = some r := by
  cases a with
  | int k x =>
    cases b with
    | int j y =>
      by_cases hk : k = j
      · subst hk; exact binK_int h
      · have hs : sameK k j = false := by
          cases hh : sameK k j
          · rfl
          · exact absurd (sameK_eq hh) hk
        cases op <;> simp only [binK, hs, cond_false, reduceCtorEq] at h
        · obtain ⟨n, h1, h2⟩ := bd_some h
          refine ⟨.int k n, ?_, trivial, h2⟩
          unfold shlD at h1
          simp only [binD, shD, SD.cv]
          by_cases hy : y < 0
          · rw [if_pos hy] at h1; cases h1
          · rw [if_neg hy] at h1 ⊢; cases h1; rfl
        · obtain ⟨n, h1, h2⟩ := bd_some h
          refine ⟨.int k n, ?_, trivial, h2⟩
          unfold shrD at h1
          simp only [binD, shD, SD.cv]
          by_cases hy : y < 0
          · rw [if_pos hy] at h1; cases h1
          · rw [if_neg hy] at h1 ⊢; cases h1; rfl
    | _ => simp only [binK, reduceCtorEq] at h
  | str s =>
    cases b with
    | str t => exact binK_str h
    | _ => simp only [binK, reduceCtorEq] at h
  | _ => simp only [binK, reduceCtorEq] at h

theorem does_bin {op : BinOp} (hx : x.ok) {a b : Arg} (h : opS G (.bin op a b) x K = some r) : Does G (.bin op a b) x K r := by
  simp only [opS] at h
  obtain ⟨d, h1, h2, h3⟩ := binK_some h
  rw [es_cv, es_cv] at h1
  refine Does.mk h3 h2 hx ?_
  simp only [step, SS.cv, h1, Option.map_some]

mutual
theorem eqTS_some : ∀ (t : ET) (a b : SD) (e : Bool), eqTS t a b = some e → eqT t a.cv b.cv = some e
  | .int, a, b, e, h => by
    unfold eqTS at h
    split at h <;> simp only [reduceCtorEq, ET.parts.injEq] at *
    rename_i k x j y
    obtain ⟨hk, h⟩ := cond_some h
    cases h
    simp only [SD.cv, eqT, eqZ_eq]; rw [if_pos (sameK_eq hk)]
  | .bool, a, b, e, h => by
    unfold eqTS at h
    split at h <;> simp only [reduceCtorEq, ET.parts.injEq] at *
    simpa only [SD.cv, eqT, eqB, eqS] using h
  | .str, a, b, e, h => by
    unfold eqTS at h
    split at h <;> simp only [reduceCtorEq, ET.parts.injEq] at *
    simpa only [SD.cv, eqT, eqB, eqS] using h
  | .parts l, a, b, e, h => by
    cases a <;> cases b <;> simp only [eqTS, reduceCtorEq] at h
    simp only [SD.cv, eqT]
    exact eqTSs_some l _ _ e h
theorem eqTSs_some : ∀ (l : List (Nat × Option Nat × ET)) (xs ys : List SD) (e : Bool), eqTSs l xs ys = some e → eqTs l (SD.cvs xs) (SD.cvs ys) = some e
  | [], xs, ys, e, h => h
  | (off, sz, t) :: r, xs, ys, e, h => by
    simp only [eqTSs] at h
    split at h
    · rename_i a b ha hb
      split at h
      · rename_i e1 he1
        split at h
        · rename_i f hf
          simp only [Option.some.injEq] at h
          subst h
          have h1 := eqTS_some t a b e1 he1
          have h2 := eqTSs_some r xs ys f hf
          simp only [eqTs, takeS_cv ha, takeS_cv hb, h1]
          cases e1
          · rfl
          · simpa using h2
        · cases h
      · cases h
    · cases h
end

theorem does_cmp {neg : Bool} {k : EK} (hx : x.ok) {a b : Arg} (h : opS G (.cmp neg k a b) x K = some r) : Does G (.cmp neg k a b) x K r := by
  simp only [opS] at h
  have ha : (a.es G x.t).cv = a.ev G x.cv.t := es_cv a x.t
  have hb : (b.es G x.t).cv = b.ev G x.cv.t := es_cv b x.t
  unfold cmpK' at h
  split at h
  · rename_i t
    split at h
    · rename_i e he
      have := eqTS_some t _ _ e he
      rw [ha, hb] at this
      exact Does.mk h trivial hx (by simp [step, cmpD, this, SD.cv])
    · cases h
  · obtain ⟨e, h1, h2⟩ := bd_some h
    rw [ha, hb] at h1
    exact Does.mk h2 trivial hx (by simp [step, h1, SD.cv])

theorem does_un {op : UnOp} (hx : x.ok) {a : Arg} (h : opS G (.un op a) x K = some r) : Does G (.un op a) x K r := by
  simp only [opS] at h
  have ha : (a.es G x.t).cv = a.ev G x.cv.t := es_cv a x.t
  unfold unK at h
  split at h
  · rename_i k n hA
    rw [hA] at ha
    exact Does.mk h trivial hx (by simp [step, ← ha, SD.cv, unD])
  · rename_i k n hA
    rw [hA] at ha
    exact Does.mk h trivial hx (by simp [step, ← ha, SD.cv, unD, bitsD, xorZ])
  · rename_i b hA
    rw [hA] at ha
    exact Does.mk h trivial hx (by simp [step, ← ha, SD.cv, unD])
  · cases h

def cvP (l : List (Nat × Nat × SD)) : List (Nat × Nat × D) := l.map fun p => (p.1, p.2.1, p.2.2.cv)

theorem partsS_cv : ∀ (t : List (Nat × SD)) (l : List (Nat × Nat × Arg)), cvP (partsS G t l) = parts G (cvT t) l
  | t, [] => rfl
  | t, (o, n, a) :: l => by
    have := partsS_cv t l
    simp only [cvP, parts] at this ⊢
    simp only [partsS, List.map_cons, es_cv, this]

theorem partsS_ok (hG : GOk G) {t : List (Nat × SD)} (ht : ∀ p ∈ t, p.2.ok) : ∀ {l : List (Nat × Nat × Arg)}, partsCok l = true → ∀ p ∈ partsS G t l, p.2.2.ok
  | [], _, p, hp => by simp [partsS] at hp
  | (o, n, a) :: l, h, p, hp => by
    simp only [partsCok, Bool.and_eq_true] at h
    simp only [partsS, List.mem_cons] at hp
    rcases hp with rfl | hp
    · exact es_ok hG ht h.1
    · exact partsS_ok hG ht h.2 p hp

theorem placeS_some : ∀ {l : List (Nat × Nat × SD)} {cells cs : List SD}, SD.oks cells → (∀ p ∈ l, p.2.2.ok) → placeS cells l = some cs → place (SD.cvs cells) (cvP l) = some (SD.cvs cs) ∧ SD.oks cs
  | [], cells, cs, h1, h2, h => by
    simp only [placeS, Option.some.injEq] at h
    subst h; exact ⟨rfl, h1⟩
  | (off, n, d) :: l, cells, cs, h1, h2, h => by
    have hd : d.ok := h2 _ (List.mem_cons_self ..)
    have h3 : ∀ p ∈ l, p.2.2.ok := fun p hp => h2 p (List.mem_cons_of_mem _ hp)
    simp only [placeS] at h
    simp only [cvP, List.map_cons, place]
    split at h
    · cases h
    · cases h
    · cases h
    · rename_i xs
      obtain ⟨hb, h⟩ := cond_some h
      have := placeS_some (SD.oks_setAt h1 hd) h3 h
      rw [SD.cvs_setAt] at this
      simp only [SD.cv, D.cells?, SD.cvs_length, hb, cond_true]
      exact this
    · rename_i e1 e2 e3 e4
      obtain ⟨hb, h⟩ := cond_some h
      have hone : d.one = true := by
        cases hA : d <;> first | rfl | (exact absurd hA (e1)) | (exact absurd hA (e2 _)) | (exact absurd hA (e3 _)) | (exact absurd hA (e4 _))
      have := placeS_some (SD.oks_setAt h1 (vs := [d]) ⟨hd, trivial⟩) h3 h
      rw [SD.cvs_setAt] at this
      simp only [Bool.and_eq_true] at hb
      have hn := beq_eq hb.1
      subst hn
      rw [(SD.one_cv hd hone).2]
      have hb2 : (Nat.beq [d.cv].length 1 && Nat.ble (off + 1) (SD.cvs cells).length) = true := by rw [SD.cvs_length, hb.2]; rfl
      simp only [hb2, cond_true]
      exact this

theorem does_bld (hG : GOk G) (hx : x.ok) {cells : List D} {ps : List (Nat × Nat × Arg)} (hc : D.dps cells = true) (hp : partsCok ps = true) (h : opS G (.bld cells ps) x K = some r) : Does G (.bld cells ps) x K r := by
  obtain ⟨cs, h1, h2⟩ := bd_some h
  have := placeS_some (ofDs_ok cells hc) (partsS_ok hG hx.1 hp) h1
  rw [ofDs_cv, partsS_cv] at this
  refine Does.mk h2 this.2 hx ?_
  simp only [step, SS.cv, this.1, Option.map_some, SD.cv]

theorem does_bsl (hG : GOk G) (hx : x.ok) {nm len sz : Nat} {cells : List D} {ps : List (Nat × Nat × Arg)} (hc : D.dps cells = true) (hp : partsCok ps = true) (h : opS G (.bsl nm len sz cells ps) x K = some r) :
    Does G (.bsl nm len sz cells ps) x K r := by
  obtain ⟨cs, h1, h2⟩ := bd_some h
  have := placeS_some (ofDs_ok cells hc) (partsS_ok hG hx.1 hp) h1
  rw [ofDs_cv, partsS_cv] at this
  obtain ⟨X', h3, h4, h5⟩ := addS_some hx (b := .fix cs) this.2 h2
  refine Does.mk h5 trivial h4 ?_
  have e : place cells (parts G x.cv.t ps) = some (SD.cvs cs) := this.1
  have h3' : x.cv.add nm (.fix (SD.cvs cs)) = some X'.cv := h3
  simp [step, e, h3', SD.cv]

theorem dps_rep {z : List D} (h : D.dps z = true) (n : Nat) : D.dps (rep n z) = true := by
  refine D.dps_iff.2 fun d hd => ?_
  simp only [rep, List.mem_flatten, List.mem_replicate] at hd
  obtain ⟨l, ⟨_, rfl⟩, hd⟩ := hd
  exact D.dps_iff.1 h d hd

theorem does_mks (hx : x.ok) {nm sz bytes : Nat} {zero : List D} {l c : Arg} (hz : D.dps zero = true) (h : opS G (.mks nm sz bytes zero l c) x K = some r) : Does G (.mks nm sz bytes zero l c) x K r := by
  simp only [opS] at h
  have hl : (l.es G x.t).cv = l.ev G x.cv.t := es_cv l x.t
  have hc : (c.es G x.t).cv = c.ev G x.cv.t := es_cv c x.t
  split at h
  · rename_i k1 n k2 m h1 h2
    rw [h1] at hl
    rw [h2] at hc
    obtain ⟨p, hp, h⟩ := bd_some h
    unfold mkN at hp
    split at hp
    · rename_i hcond
      cases hp
      obtain ⟨X', h3, h4, h5⟩ := addS_some hx (b := .fo (rep m.toNat zero)) (dps_rep hz _) h
      refine Does.mk h5 trivial h4 ?_
      have h3' : x.cv.add nm (.fix (rep m.toNat zero)) = some X'.cv := h3
      simp only [step, ← hl, ← hc, SD.cv, hcond, and_self, if_true, h3', Option.map_some]
    · cases hp
  · cases h

theorem optS_cv (o : Option Arg) : optS G x.t o = o.map (·.ev G x.cv.t) := by
  cases o with
  | none => rfl
  | some a => simp only [optS, Option.map_some, SS.cv, es_cv]

theorem does_slS (hx : x.ok) {a : Arg} {l h' : Option Arg} (h : opS G (.slS a l h') x K = some r) : Does G (.slS a l h') x K r := by
  simp only [opS] at h
  have ha : (a.es G x.t).cv = a.ev G x.cv.t := es_cv a x.t
  split at h
  · rename_i s hA
    rw [hA] at ha
    obtain ⟨t, h1, h2⟩ := bd_some h
    rw [optS_cv, optS_cv] at h1
    simp only [slStr, Option.bind_eq_bind, Option.bind_eq_some_iff] at h1
    obtain ⟨hh, e1, ll, e2, e3⟩ := h1
    cases e3
    exact Does.mk h2 trivial hx (by simp [step, ← ha, SD.cv, e1, e2])
  · cases h

theorem bndO_le {n d k : Nat} {o : Option D} (hd : d ≤ n) (h : bndO n d o = some k) : k ≤ n := by
  cases o with
  | none => simp only [bndO, Option.some.injEq] at h; omega
  | some a =>
    cases a <;> simp only [bndO, bndD, reduceCtorEq] at h
    split at h
    · rename_i hc; cases h; omega
    · cases h

theorem hmK_some {top len : Nat} {h m : Option D} {K : Nat → Nat → Option ρ} (hk : hmK top len h m K = some r) :
    ∃ h' m', bndO top top m = some m' ∧ bndO m' len h = some h' ∧ K h' m' = some r := by
  unfold hmK at hk
  split at hk
  · obtain ⟨a, h1, h2⟩ := bd_some hk
    exact ⟨a, top, rfl, h1, h2⟩
  · obtain ⟨a, h1, hk⟩ := bd_some hk
    obtain ⟨b, h2, h3⟩ := bd_some hk
    exact ⟨b, a, h1, h2, h3⟩

theorem bnd3_some {top len : Nat} {l h m : Option D} {p : Nat × Nat × Nat} (hb : bnd3 top len l h m = some p) : bndO top top m = some p.2.2 ∧ bndO p.2.2 len h = some p.2.1 ∧ bndO p.2.1 0 l = some p.1 := by
  simp only [bnd3, Option.bind_eq_bind, Option.bind_eq_some_iff, Option.some.injEq] at hb
  obtain ⟨a, h1, b, h2, c, h3, rfl⟩ := hb
  exact ⟨h1, h2, h3⟩

theorem slVF_dp {sz : Nat} {d e : D} (hd : d.dp = true) {l h m : Option D} (hs : slVF sz d l h m = some e) : e.dp = true ∧ isAg e = false := by
  cases d <;> simp only [slVF, reduceCtorEq] at hs
  · simp only [Option.bind_eq_bind, Option.bind_eq_some_iff] at hs
    obtain ⟨_, _, _, _, _, _, hs⟩ := hs
    cases hs; exact ⟨rfl, rfl⟩
  · simp only [Option.bind_eq_bind, Option.bind_eq_some_iff] at hs
    obtain ⟨_, _, _, _, _, _, hs⟩ := hs
    obtain ⟨_, hs⟩ := cond_some hs
    cases hs
    exact ⟨D.dps_take (D.dps_drop hd _) _, rfl⟩

theorem does_slV (hG : GOk G) (hx : x.ok) {sz : Nat} {a : Arg} {l h' m : Option Arg} (hc : a.cok = true) (h : opS G (.slV sz a l h' m) x K = some r) : Does G (.slV sz a l h' m) x K r := by
  simp only [opS] at h
  have hao := es_ok hG hx.1 hc
  have ha : (a.es G x.t).cv = a.ev G x.cv.t := es_cv a x.t
  rw [optS_cv, optS_cv, optS_cv] at h
  unfold slVK at h
  split at h
  · rename_i d hA
    rw [hA] at ha hao
    obtain ⟨e, h1, h2⟩ := bd_some h
    refine Does.mk h2 (slVF_dp hao.1 h1) hx ?_
    cases d <;> simp only [slVF, reduceCtorEq] at h1
    · simp only [Option.bind_eq_bind, Option.bind_eq_some_iff] at h1
      obtain ⟨a1, e1, a2, e2, a3, e3, h1⟩ := h1
      cases h1
      simp only [SD.cv] at ha
      simp [step, ← ha, e1, e2, e3, SD.cv]
    · simp only [Option.bind_eq_bind, Option.bind_eq_some_iff] at h1
      obtain ⟨a1, e1, a2, e2, a3, e3, h1⟩ := h1
      obtain ⟨hb, h1⟩ := cond_some h1
      cases h1
      simp only [SD.cv] at ha
      simp only [Option.isSome_map, Option.isNone_map, step, ← ha, e1, e2, e3, hb, SD.cv, Option.bind_eq_bind, Option.bind_some, cond_true]
  · rename_i nm off z len c hA
    rw [hA] at ha
    obtain ⟨hz, h⟩ := cond_some h
    split at h
    · rename_i hl
      obtain ⟨hh, mm, e1, e2, h⟩ := hmK_some h
      refine Does.mk h trivial hx ?_
      have e3 : bndO hh 0 (l.map (·.ev G x.cv.t)) = some 0 := by rw [hl]; rfl
      simp [step, ← ha, SD.cv, e1, e2, e3, hz]
    · rename_i l' hl
      obtain ⟨p, e0, h⟩ := bd_some h
      obtain ⟨e1, e2, e3⟩ := bnd3_some e0
      refine Does.mk h trivial hx ?_
      rw [← hl] at e3
      simp [step, ← ha, SD.cv, e1, e2, e3, hz]
  · rename_i nm off z len hA
    rw [hA] at ha
    split at h
    · rename_i hm
      obtain ⟨hz, h⟩ := cond_some h
      cases m with
      | some _ => cases hm
      | none =>
      split at h
      · rename_i hl
        obtain ⟨hh, mm, e1, e2, h⟩ := hmK_some h
        cases e1
        refine Does.mk h trivial hx ?_
        have e3 : bndO hh 0 (l.map (·.ev G x.cv.t)) = some 0 := by rw [hl]; rfl
        simp [step, ← ha, SD.cv, e2, e3, hz]
      · rename_i l' hl
        obtain ⟨p, e0, h5⟩ := bd_some h
        obtain ⟨e1, e2, e3⟩ := bnd3_some e0
        simp only [bndO, Option.some.injEq] at e1
        rw [← e1] at e2
        rw [← hl] at e3
        cases hb : Nat.beq p.1 0 <;> rw [hb] at h5
        · cases hb2 : Nat.blt p.1 p.2.1 <;> rw [hb2] at h5
          · exact Does.mk h5 ⟨rfl, rfl⟩ hx (by simp only [Option.map_none, step, ← ha, SD.cv, e2, e3, hz, hb, hb2, Option.bind_eq_bind, Option.bind_some, cond_true, cond_false])
          · exact Does.mk h5 trivial hx (by simp only [Option.map_none, step, ← ha, SD.cv, e2, e3, hz, hb, hb2, Option.bind_eq_bind, Option.bind_some, cond_true, cond_false])
        · exact Does.mk h5 trivial hx (by simp only [Option.map_none, step, ← ha, SD.cv, e2, e3, hz, hb, Option.bind_eq_bind, Option.bind_some, cond_true, cond_false])
    · rename_i m' hm
      obtain ⟨hz, h⟩ := cond_some h
      obtain ⟨mm, e0, h5⟩ := bd_some h
      obtain ⟨p, e4, h6⟩ := bd_some h5
      obtain ⟨e1, e2, e3⟩ := bnd3_some e4
      obtain ⟨h0, h7⟩ := cond_some h6
      simp only [bndO, Option.some.injEq] at e1
      rw [← e1] at e2
      cases m with
      | none => cases hm
      | some ma =>
        simp only [Option.map_some, Option.some.injEq] at hm
        rw [← hm] at e0
        exact Does.mk h7 trivial hx (by simp only [Option.map_some, step, ← ha, SD.cv, e0, e2, e3, hz, h0, Option.bind_eq_bind, Option.bind_some, cond_true, cond_false, Bool.and_self])
  · cases h

theorem does_slA (hG : GOk G) (hx : x.ok) {n sz : Nat} {a : Arg} {l h' m : Option Arg} (hc : a.cok = true) (h : opS G (.slA n sz a l h' m) x K = some r) : Does G (.slA n sz a l h' m) x K r := by
  simp only [opS] at h
  have hao := es_ok hG hx.1 hc
  have ha : (a.es G x.t).cv = a.ev G x.cv.t := es_cv a x.t
  rw [optS_cv, optS_cv, optS_cv] at h
  unfold slAK at h
  split at h
  · rename_i nm off hA
    rw [hA] at ha
    split at h
    · rename_i ln hln
      have hblk : ∃ b cs, sget x.cv.s nm = some b ∧ blkCells b = some cs ∧ cs.length = ln := by
        split at hln
        · rename_i cs hs
          cases hln
          exact ⟨_, _, sget_some hs, rfl, SD.cvs_length cs⟩
        · rename_i cs hs
          cases hln
          exact ⟨_, _, sget_some hs, rfl, rfl⟩
        · cases hln
      obtain ⟨b, cs, hb1, hb2, hb3⟩ := hblk
      split at h
      · rename_i hl
        obtain ⟨hh, mm, e1, e2, h⟩ := hmK_some h
        obtain ⟨u, hr, h⟩ := bd_some h
        have hr := inR_some hr
        rw [← hb3] at hr
        have e3 : bndO hh 0 (l.map (·.ev G x.cv.t)) = some 0 := by rw [hl]; rfl
        exact Does.mk h trivial hx (by simp [step, ← ha, SD.cv, e1, e2, e3, hb1, hb2, hr])
      · rename_i l' hl
        obtain ⟨p, e0, h⟩ := bd_some h
        obtain ⟨e1, e2, e3⟩ := bnd3_some e0
        obtain ⟨u, hr, h⟩ := bd_some h
        have hr := inR_some hr
        rw [← hb3] at hr
        rw [← hl] at e3
        exact Does.mk h trivial hx (by simp [step, ← ha, SD.cv, e1, e2, e3, hb1, hb2, hr])
    · cases h
  · rename_i cs off hA
    rw [hA] at ha hao
    obtain ⟨p, e0, h⟩ := bd_some h
    obtain ⟨e1, e2, e3⟩ := bnd3_some e0
    obtain ⟨u, hr, h⟩ := bd_some h
    have hr := inR_some hr
    exact Does.mk h ⟨D.dps_take (D.dps_drop hao _) _, rfl⟩ hx (by simp [step, ← ha, SD.cv, e1, e2, e3, hr])
  · cases h

theorem does_len (hx : x.ok) {st : Bool} {a : Arg} (h : opS G (.len st a) x K = some r) : Does G (.len st a) x K r := by
  simp only [opS] at h
  have ha : (a.es G x.t).cv = a.ev G x.cv.t := es_cv a x.t
  unfold lenK at h
  split at h
  · rename_i s hA
    rw [hA] at ha
    exact Does.mk h trivial hx (by simp [step, ← ha, SD.cv, lenD])
  · rename_i d hA
    rw [hA] at ha
    obtain ⟨n, h1, h2⟩ := bd_some h
    simp only [SD.cv] at ha
    exact Does.mk h2 trivial hx (by simp [step, ← ha, SD.cv, h1])
  · rename_i n1 n2 n3 n n4 hA
    rw [hA] at ha
    exact Does.mk h trivial hx (by simp [step, ← ha, SD.cv, lenD])
  · rename_i n1 n2 n3 n hA
    rw [hA] at ha
    exact Does.mk h trivial hx (by simp [step, ← ha, SD.cv, lenD])
  · cases h

theorem does_cap (hx : x.ok) {a : Arg} (h : opS G (.cap a) x K = some r) : Does G (.cap a) x K r := by
  simp only [opS] at h
  have ha : (a.es G x.t).cv = a.ev G x.cv.t := es_cv a x.t
  split at h
  · rename_i d hA
    rw [hA] at ha
    obtain ⟨n, h1, h2⟩ := bd_some h
    unfold capF at h1
    split at h1
    · cases h1
      simp only [SD.cv] at ha
      exact Does.mk h2 trivial hx (by simp [step, ← ha, SD.cv])
    · cases h1
      simp only [SD.cv] at ha
      exact Does.mk h2 trivial hx (by simp [step, ← ha, SD.cv])
    · cases h1
  · rename_i c hA
    rw [hA] at ha
    exact Does.mk h trivial hx (by simp [step, ← ha, SD.cv])
  · cases h

theorem does_cvI (hx : x.ok) {k : IntKind} {a : Arg} (h : opS G (.cvI k a) x K = some r) : Does G (.cvI k a) x K r := by
  simp only [opS] at h
  have ha : (a.es G x.t).cv = a.ev G x.cv.t := es_cv a x.t
  split at h
  · rename_i n hA
    rw [hA] at ha
    exact Does.mk h trivial hx (by simp [step, ← ha, SD.cv])
  · cases h

theorem does_cvN (hx : x.ok) {a : Arg} (h : opS G (.cvN a) x K = some r) : Does G (.cvN a) x K r := by
  simp only [opS] at h
  have ha : (a.es G x.t).cv = a.ev G x.cv.t := es_cv a x.t
  split at h
  · rename_i n hA
    rw [hA] at ha
    exact Does.mk h trivial hx (by simp [step, ← ha, SD.cv, encZ])
  · rename_i s hA
    rw [hA] at ha
    exact Does.mk h trivial hx (by simp [step, ← ha, SD.cv])
  · cases h

theorem dps_bytes (s : List UInt8) : D.dps (bytesOf s) = true := D.dps_iff.2 fun d hd => by
  simp only [bytesOf, List.mem_map] at hd
  obtain ⟨b, _, rfl⟩ := hd; rfl

theorem does_cvB (hx : x.ok) {nm : Nat} {a : Arg} (h : opS G (.cvB nm a) x K = some r) : Does G (.cvB nm a) x K r := by
  simp only [opS] at h
  have ha : (a.es G x.t).cv = a.ev G x.cv.t := es_cv a x.t
  split at h
  · rename_i s hA
    rw [hA] at ha
    obtain ⟨X', h3, h4, h5⟩ := addS_some hx (b := .gr (bytesOf s)) (dps_bytes s) h
    have h3' : x.cv.add nm (.grow (bytesOf s)) = some X'.cv := h3
    exact Does.mk h5 trivial h4 (by simp [step, ← ha, SD.cv, h3'])
  · cases h

theorem does_mkif (hG : GOk G) (hx : x.ok) {t : Nat} {a : Arg} (hc : a.cok = true) (h : opS G (.mkif t a) x K = some r) : Does G (.mkif t a) x K r :=
  Does.mk h (es_ok hG hx.1 hc) hx (by simp [step, SD.cv, es_cv]; rfl)

theorem coks_iff {l : List Arg} : Arg.coks l = true ↔ ∀ a ∈ l, a.cok = true := by
  induction l with
  | nil => simp [Arg.coks]
  | cons a r ih => simp [Arg.coks, ih]

theorem args_cv (l : List Arg) : SD.cvs (l.map (·.es G x.t)) = l.map (·.ev G x.cv.t) := by
  rw [SD.cvs_eq, List.map_map]
  exact List.map_congr_left fun a _ => es_cv a x.t

theorem args_ok (hG : GOk G) (hx : x.ok) {l : List Arg} (hl : Arg.coks l = true) : SD.oks (l.map (·.es G x.t)) := SD.oks_iff.2 fun d hd => by
  obtain ⟨a, ha, rfl⟩ := List.mem_map.1 hd
  exact es_ok hG hx.1 (coks_iff.1 hl a ha)

theorem does_mkfn (hG : GOk G) (hx : x.ok) {f : Fn} {p q : List Arg} (hp : Arg.coks p = true) (hq : Arg.coks q = true) (h : opS G (.mkfn f p q) x K = some r) : Does G (.mkfn f p q) x K r :=
  Does.mk h ⟨args_ok hG hx hp, args_ok hG hx hq⟩ hx (by simp only [step, SD.cv, args_cv])

theorem does_rng (hx : x.ok) {nm : Nat} {a : Arg} (h : opS G (.rng nm a) x K = some r) : Does G (.rng nm a) x K r := by
  simp only [opS] at h
  have ha : (a.es G x.t).cv = a.ev G x.cv.t := es_cv a x.t
  split at h
  · rename_i s hA
    rw [hA] at ha
    obtain ⟨X', h3, h4, h5⟩ := addS_some hx (b := .it s 0) trivial h
    have h3' : x.cv.add nm (.iter s 0) = some X'.cv := h3
    exact Does.mk h5 trivial h4 (by simp [step, ← ha, SD.cv, h3'])
  · cases h

theorem does_next (hx : x.ok) {a : Arg} (h : opS G (.next a) x K = some r) : Does G (.next a) x K r := by
  simp only [opS] at h
  have ha : (a.es G x.t).cv = a.ev G x.cv.t := es_cv a x.t
  split at h
  · rename_i nm hA
    rw [hA] at ha
    split at h
    · rename_i s pos hs
      cases hb : Nat.blt pos s.length <;> rw [hb] at h
      · exact Does.mk h ⟨trivial, trivial⟩ hx (by simp only [step, ← ha, SD.cv, sget_some hs, SB.cv, hb, cond_false, SD.cvs])
      · refine Does.mk h ⟨trivial, trivial, trivial, trivial⟩ (hx.set nm trivial) ?_
        rw [SS.set_cv]
        simp only [step, ← ha, SD.cv, sget_some hs, SB.cv, hb, cond_true, SD.cvs, decR_eq, decW_eq]
    · cases h
  · cases h

theorem does_mm (hx : x.ok) {mx : Bool} {a b : Arg} (h : opS G (.mm mx a b) x K = some r) : Does G (.mm mx a b) x K r := by
  simp only [opS] at h
  have ha : (a.es G x.t).cv = a.ev G x.cv.t := es_cv a x.t
  have hb : (b.es G x.t).cv = b.ev G x.cv.t := es_cv b x.t
  split at h
  · rename_i k n j m h1 h2
    rw [h1] at ha
    rw [h2] at hb
    exact Does.mk h trivial hx (by simp [step, ← ha, ← hb, SD.cv, mmZ])
  · cases h
end

end Iv
