/- Operations on values with open places do what they do on abstract values, three: rows; all of them. Conditions: none. -/
import Derived.Test.YtblbgjfkbcdlfaaGreatDoorKH
set_option linter.unusedSimpArgs false
set_option linter.unusedVariables false
namespace Iv
open Go

section
variable {ρ : Type} {G : List (Nat × List D)} {x : SS} {r : ρ} {K : SD → SS → Option ρ}

theorem any_plain {ys : List D} (h : (!(ys.any isAg)) = true) : ys.any isAg = false := by simpa using h

theorem rowsK_some (hx : x.ok) {sz : Nat} {b : SD} (hb : b.ok) {K : List D → Nat → Bool → Option ρ} (h : rowsK sz b x K = some r) :
    ∃ ys n plain, sliceCells x.cv.s sz b.cv = some (ys, n) ∧ D.dps ys = true ∧ (plain = true → ys.any isAg = false) ∧ K ys n plain = some r := by
  unfold rowsK at h
  split at h
  · rename_i s
    obtain ⟨hs, h1⟩ := cond_some h
    exact ⟨_, _, _, by simp [sliceCells, SD.cv, hs], dps_bytes s, fun _ => by simp [bytesOf, isAg], h1⟩
  · rename_i d
    obtain ⟨p, h1, h2⟩ := bd_some h
    refine ⟨p.1, p.2, _, ?_, ?_, any_plain, h2⟩
    · cases d <;> simp only [slF, reduceCtorEq, Option.some.injEq] at h1
      · obtain ⟨hs, h1⟩ := cond_some h1
        cases h1; simp [sliceCells, SD.cv, hs]
      · cases h1; rfl
      · obtain ⟨hs, h1⟩ := cond_some h1
        cases h1; simp [sliceCells, SD.cv, hs]
    · cases d <;> simp only [slF, reduceCtorEq, Option.some.injEq] at h1
      · obtain ⟨hs, h1⟩ := cond_some h1
        cases h1; exact dps_bytes _
      · cases h1; rfl
      · obtain ⟨hs, h1⟩ := cond_some h1
        cases h1; exact D.dps_take hb.1 _
  · rename_i nm off z len c
    obtain ⟨hz, h1⟩ := cond_some h
    split at h1
    · rename_i cs hs
      obtain ⟨hp, h2⟩ := cond_some h1
      obtain ⟨u, hr, h3⟩ := bd_some h2
      have hr := inR_some hr
      have hok := sgetS_ok hx.2 hs
      refine ⟨_, _, _, ?_, SD.pures_dps _ (SD.oks_take (SD.oks_drop hok _) _) ?_, fun hh => SD.ones_cv (SD.oks_take (SD.oks_drop hok _) _) hh, h3⟩
      · simp only [sliceCells, SD.cv, sget_some hs, SB.cv, blkCells, Option.bind_eq_bind, Option.bind_some, hz, SD.cvs_length, hr, Bool.and_self, cond_true]
        simp only [SD.cvs_eq, List.map_take, List.map_drop]
      · have : ∀ l : List SD, SD.pures l = true ↔ ∀ d ∈ l, d.pure = true := fun l => by
          induction l with
          | nil => simp [SD.pures]
          | cons d r ih => simp [SD.pures, ih]
        rw [this] at hp ⊢
        exact fun d hd => hp d (List.mem_of_mem_drop (List.mem_of_mem_take hd))
    · rename_i cs hs
      obtain ⟨u, hr, h3⟩ := bd_some h1
      have hr := inR_some hr
      have hok := sgetS_ok hx.2 hs
      refine ⟨_, _, _, ?_, D.dps_take (D.dps_drop hok _) _, any_plain, h3⟩
      simp only [sliceCells, SD.cv, sget_some hs, SB.cv, blkCells, Option.bind_eq_bind, Option.bind_some, hz, hr, Bool.and_self, cond_true]
    · cases h1
  · rename_i nm off z len
    obtain ⟨hz, h1⟩ := cond_some h
    split at h1
    · rename_i cs hs
      obtain ⟨u, hr, h3⟩ := bd_some h1
      have hr := inR_some hr
      have hok := sgetS_ok hx.2 hs
      refine ⟨_, _, _, ?_, D.dps_take (D.dps_drop hok _) _, any_plain, h3⟩
      simp only [sliceCells, SD.cv, sget_some hs, SB.cv, blkCells, Option.bind_eq_bind, Option.bind_some, hz, hr, Bool.and_self, cond_true]
    · cases h1
  · cases h

theorem apG_some {plain : Bool} {a b n bytes : Nat} {u : Unit} (h : apG plain a b n bytes = some u) : a = b ∧ room n bytes = true ∧ plain = true := by
  have := (cond_some h).1
  simp only [Bool.and_eq_true] at this
  exact ⟨beq_eq this.1.1, this.1.2, this.2⟩

theorem apM_some {n bytes off a len : Nat} {u : Unit} (h : apM n bytes off a len = some u) : room n bytes = true ∧ Nat.ble (off + a) len = true := by
  have := (cond_some h).1
  simp only [Bool.and_eq_true] at this
  exact this

theorem does_app (hG : GOk G) (hx : x.ok) {nm sz bytes : Nat} {a b : Arg} (hc : a.cok = true) (hcb : b.cok = true) (h : opS G (.app nm sz bytes a b) x K = some r) : Does G (.app nm sz bytes a b) x K r := by
  simp only [opS] at h
  have hao := es_ok hG hx.1 hc
  have ha : (a.es G x.t).cv = a.ev G x.cv.t := es_cv a x.t
  have hbe : (b.es G x.t).cv = b.ev G x.cv.t := es_cv b x.t
  obtain ⟨ys, n, plain, hrow, hys, hpl, h1⟩ := rowsK_some hx (es_ok hG hx.1 hcb) h
  clear h
  rw [hbe] at hrow
  have hstep : ∀ {r' : Option (D × AS)}, appD x.cv nm sz bytes (a.ev G x.cv.t) (b.ev G x.cv.t) = r' → step G (.app nm sz bytes a b) x.cv = r' := fun h => h
  split at h1
  · rename_i d hA
    rw [hA] at ha hao
    simp only [SD.cv] at ha
    cases hn : Nat.beq n 0 <;> rw [hn] at h1
    · simp only [cond_false] at h1
      obtain ⟨p, h2, h3⟩ := bd_some h1
      cases d <;> simp only [apF, reduceCtorEq] at h2
      · obtain ⟨hr, h2⟩ := cond_some h2
        cases h2
        obtain ⟨X', h4, h5, h6⟩ := addS_some hx (b := .gr ([] ++ ys)) (show D.dps ([] ++ ys) = true from hys) h3
        refine Does.mk h6 trivial h5 (hstep ?_)
        have h4' : x.cv.add nm (.grow ys) = some X'.cv := h4
        simp [appD, hrow, ← ha, hn, hr, h4', SD.cv]
      · rename_i ex len cs
        obtain ⟨hr, h2⟩ := cond_some h2
        simp only [Bool.and_eq_true] at hr
        cases h2
        obtain ⟨X', h4, h5, h6⟩ := addS_some hx (b := .gr (cs.take (len * sz) ++ ys)) (by
          simp only [SB.ok, D.dps_append, Bool.and_eq_true]; exact ⟨D.dps_take hao.1 _, hys⟩) h3
        refine Does.mk h6 trivial h5 (hstep ?_)
        have h4' : x.cv.add nm (.grow (cs.take (len * sz) ++ ys)) = some X'.cv := h4
        simp [appD, hrow, ← ha, hn, hr, h4', SD.cv]
    · simp only [cond_true] at h1
      obtain ⟨u, h2, h3⟩ := bd_some h1
      cases d <;> simp only [isSl, reduceCtorEq] at h2
      · exact Does.mk h3 hao hx (hstep (by simp [appD, hrow, ← ha, hn, SD.cv]))
      · exact Does.mk h3 hao hx (hstep (by simp [appD, hrow, ← ha, hn, SD.cv]))
  · rename_i m off z len c hA
    rw [hA] at ha
    simp only [SD.cv] at ha
    obtain ⟨hz, h2⟩ := cond_some h1
    simp only [setQ_eq] at h2
    have key : ∀ (b0 : SB) (cs : List D), sgetS x.s m = some b0 → b0.cv = .fix cs → D.dps cs = true →
        (bif Nat.ble (len + n) c then bd (apG plain 0 0 0 0) fun _ => bd (inR (off + len * sz) ys.length cs.length) fun _ => K (.ms m off z (len + n) c) (x.set m (.fo (setAt cs (off + len * sz) ys)))
          else bd (apM (len + n) bytes off (len * sz) cs.length) fun _ => x.add nm (.gr ((cs.drop off).take (len * sz) ++ ys)) fun x => K (.gs nm 0 sz (len + n)) x) = some r → Does G (.app nm sz bytes a b) x K r := fun b0 cs hs hcv hcs h3 => by
      have hsg : sget x.cv.s m = some (.fix cs) := by rw [sget_some hs, hcv]
      cases hfit : Nat.ble (len + n) c <;> rw [hfit] at h3
      · simp only [cond_false] at h3
        obtain ⟨u, h4, h5⟩ := bd_some h3
        obtain ⟨hr1, hr2⟩ := apM_some h4
        obtain ⟨X', h6, h7, h8⟩ := addS_some hx (b := .gr ((cs.drop off).take (len * sz) ++ ys)) (by
          simp only [SB.ok, D.dps_append, Bool.and_eq_true]; exact ⟨D.dps_take (D.dps_drop hcs _) _, hys⟩) h5
        refine Does.mk h8 trivial h7 (hstep ?_)
        have h6' : x.cv.add nm (.grow ((cs.drop off).take (len * sz) ++ ys)) = some X'.cv := h6
        simp only [appD, hrow, ← ha, hsg, hz, hfit, hr1, hr2, h6', SD.cv, Option.bind_eq_bind, Option.bind_some, cond_true, cond_false, Bool.and_self, Option.map_some]
      · simp only [cond_true] at h3
        obtain ⟨u, h4, h5⟩ := bd_some h3
        obtain ⟨v, h6, h7⟩ := bd_some h5
        have hst := stB_fix (hpl (apG_some h4).2.2) (inR_some h6)
        refine Does.mk h7 trivial (hx.set m (b := .fo _) (dps_setAt hcs hys)) (hstep ?_)
        rw [SS.set_cv]
        simp only [appD, hrow, ← ha, hsg, hz, hfit, hst, SD.cv, SB.cv, Option.bind_eq_bind, Option.bind_some, cond_true, Option.map_some]
    split at h2
    · rename_i cs hs
      obtain ⟨hp, h3⟩ := cond_some h2
      exact key _ (SD.cvs cs) hs rfl (SD.pures_dps cs (sgetS_ok hx.2 hs) hp) (by rw [SD.cvs_length]; exact h3)
    · rename_i cs hs
      exact key _ cs hs rfl (sgetS_ok hx.2 hs) h2
    · cases h2
  · rename_i m off z len hA
    rw [hA] at ha
    simp only [SD.cv] at ha
    split at h1
    · rename_i cs hs
      have hsg : sget x.cv.s m = some (.grow cs) := sget_some hs
      have hcs : D.dps cs = true := sgetS_ok hx.2 hs
      cases hn : Nat.beq n 0 <;> rw [hn] at h1
      · simp only [cond_false] at h1
        obtain ⟨hz, h2⟩ := cond_some h1
        simp only [Bool.and_eq_true] at hz
        obtain ⟨u, h3, h4⟩ := bd_some h2
        obtain ⟨hr1, hr2, hr3⟩ := apG_some h3
        have ht := tkill_cv m hx.1
        have hsk := skill_cv m hx.2
        refine Does.mk h4 trivial ⟨ht.2, ssetS_ok hsk.2 m (by simp only [SB.ok, D.dps_append, Bool.and_eq_true]; exact ⟨hcs, hys⟩)⟩ (hstep ?_)
        have hb : Nat.beq (len * sz) cs.length = true := by rw [hr1]; simp
        have hag : (!(ys.any isAg)) = true := by rw [hpl hr3]; rfl
        have e1 : tkill m x.cv.t = cvT (tkillS m x.t) := ht.1
        have e2 : skill m x.cv.s = cvS (skillS m x.s) := hsk.1
        have e3 : sset (cvS (skillS m x.s)) m (.grow (cs ++ ys)) = cvS (ssetS (skillS m x.s) m (.gr (cs ++ ys))) := sset_cv _ m (.gr (cs ++ ys))
        simp only [appD, hrow, ← ha, hsg, hn, hz.1, hz.2, hb, hr2, hag, SD.cv, Option.bind_eq_bind, Option.bind_some, cond_true, cond_false, Bool.and_self, D.kills_dps m _ hcs, D.kills_dps m _ hys, e1, e2, e3]
        rfl
      · simp only [cond_true] at h1
        exact Does.mk h1 trivial hx (hstep (by simp only [appD, hrow, ← ha, hsg, hn, SD.cv, Option.bind_eq_bind, Option.bind_some, cond_true]))
    · cases h1
  · cases h1

theorem does_copy (hG : GOk G) (hx : x.ok) {sz : Nat} {a b : Arg} (hc : a.cok = true) (hcb : b.cok = true) (h : opS G (.copy sz a b) x K = some r) : Does G (.copy sz a b) x K r := by
  simp only [opS] at h
  have hao := es_ok hG hx.1 hc
  have ha : (a.es G x.t).cv = a.ev G x.cv.t := es_cv a x.t
  have hbe : (b.es G x.t).cv = b.ev G x.cv.t := es_cv b x.t
  obtain ⟨ys, n, plain, hrow, hys, hpl, h1⟩ := rowsK_some hx (es_ok hG hx.1 hcb) h
  clear h
  rw [hbe] at hrow
  split at h1
  · rename_i hA
    rw [hA] at ha
    simp only [SD.cv] at ha
    exact Does.mk h1 trivial hx (by simp [step, hrow, ← ha, SD.cv])
  · rename_i nm off z len c hA
    rw [hA] at ha
    simp only [SD.cv] at ha
    obtain ⟨hz, h2⟩ := cond_some h1
    split at h2
    · rename_i b0 hs
      obtain ⟨u, h3, h4⟩ := bd_some h2
      have hpl' : (ys.take (min n len * sz)).any isAg = false := by
        have := hpl (apG_some h3).2.2
        rw [List.any_eq_false] at this ⊢
        exact fun d hd => this d (List.mem_of_mem_take hd)
      obtain ⟨b', h5, h6, h7⟩ := stDK_some (sgetS_ok hx.2 hs) (D.dps_take hys _) rfl hpl' h4
      refine Does.mk h7 trivial (hx.set nm h6) ?_
      rw [SS.set_cv]
      simp [step, hrow, ← ha, sget_some hs, hz, h5, SD.cv]
    · cases h2
  · rename_i nm off z len hA
    rw [hA] at ha
    simp only [SD.cv] at ha
    obtain ⟨hz, h2⟩ := cond_some h1
    split at h2
    · rename_i b0 hs
      obtain ⟨u, h3, h4⟩ := bd_some h2
      have hpl' : (ys.take (min n len * sz)).any isAg = false := by
        have := hpl (apG_some h3).2.2
        rw [List.any_eq_false] at this ⊢
        exact fun d hd => this d (List.mem_of_mem_take hd)
      obtain ⟨b', h5, h6, h7⟩ := stDK_some (sgetS_ok hx.2 hs) (D.dps_take hys _) rfl hpl' h4
      refine Does.mk h7 trivial (hx.set nm h6) ?_
      rw [SS.set_cv]
      simp [step, hrow, ← ha, sget_some hs, hz, h5, SD.cv]
    · cases h2
  · cases h1

theorem does_cvS (hG : GOk G) (hx : x.ok) {a : Arg} (hc : a.cok = true) (h : opS G (.cvS a) x K = some r) : Does G (.cvS a) x K r := by
  simp only [opS] at h
  have ha : (a.es G x.t).cv = a.ev G x.cv.t := es_cv a x.t
  have hao := es_ok hG hx.1 hc
  have key : (∀ s, a.ev G x.cv.t ≠ .str s) → (rowsK 1 (a.es G x.t) x fun cs _ _ => bd (byteS cs) fun s => K (.str s) x) = some r → Does G (.cvS a) x K r := fun hns h => by
    obtain ⟨ys, n, plain, hrow, hys, hpl, h1⟩ := rowsK_some hx hao h
    obtain ⟨s, h2, h3⟩ := bd_some h1
    rw [ha] at hrow
    refine Does.mk h3 trivial hx ?_
    simp only [byteS] at h2
    cases hd : a.ev G x.cv.t with
    | str s => exact absurd hd (hns s)
    | _ => rw [hd] at hrow; simp only [step, hd, hrow, Option.bind_eq_bind, Option.bind_some, h2, SD.cv]
  split at h
  · cases h
  · rename_i d hA
    obtain ⟨u, h1, h2⟩ := bd_some h
    rw [← hA] at h2
    refine key (fun s he => ?_) h2
    rw [← ha, hA] at he
    simp only [SD.cv] at he
    subst he; cases h1
  · rename_i h1 h2
    refine key (fun s he => ?_) h
    rw [← ha] at he
    cases hA : a.es G x.t with
    | str t => exact h1 t hA
    | fz d => exact h2 d hA
    | fa d => rw [hA] at h; simp only [rowsK, reduceCtorEq] at h
    | _ => rw [hA] at he; simp only [SD.cv, reduceCtorEq] at he

/-- All operations but calls. -/
theorem opS_does (hG : GOk G) (hx : x.ok) {o : AOp} (hc : o.cok = true) (h : opS G o x K = some r) : Does G o x K r := by
  cases o <;> simp only [AOp.cok, Bool.and_eq_true] at hc
  case mv => exact does_mv hG hx hc h
  case pick => exact does_pick hG hx hc.2.1 hc.2.2 h
  case new => exact does_new hG hx hc h
  case ld => exact does_ld hG hx hc h
  case st => exact does_st hG hx hc.1 hc.2 h
  case fa => exact does_fa hG hx hc h
  case iaA => exact does_iaA hG hx hc.1 h
  case iaS => exact does_iaS hG hx hc.1 h
  case ixA => exact does_ixA hG hx hc.1 h
  case ixS => exact does_ixS hG hx h
  case fld => exact does_fld hG hx hc h
  case ext => exact does_ext hG hx hc h
  case bin => exact does_bin hx h
  case cmp => exact does_cmp hx h
  case un => exact does_un hx h
  case bld => exact does_bld hG hx hc.1 hc.2 h
  case bsl => exact does_bsl hG hx hc.1 hc.2 h
  case mks => exact does_mks hx hc.1 h
  case slS => exact does_slS hx h
  case slV => exact does_slV hG hx hc.1 h
  case slA => exact does_slA hG hx hc.1 h
  case len => exact does_len hx h
  case cap => exact does_cap hx h
  case app => exact does_app hG hx hc.1 hc.2 h
  case copy => exact does_copy hG hx hc.1 hc.2 h
  case cvI => exact does_cvI hx h
  case cvN => exact does_cvN hx h
  case cvB => exact does_cvB hx h
  case cvS => exact does_cvS hG hx hc h
  case mkif => exact does_mkif hG hx hc h
  case mkfn => exact does_mkfn hG hx hc.1 hc.2 h
  case nilc => exact does_nilc hG hx hc h
  case rng => exact does_rng hx h
  case next => exact does_next hx h
  case mm => exact does_mm hx h
  case call => cases h
  case callv => cases h

end

end Iv
/- Calls, steps and regions on values with open places do what they do on abstract values. Conditions: none. -/
set_option linter.unusedSimpArgs false
set_option linter.unusedVariables false
namespace Iv
open Go

/-- What calls come to is true of the functions, and is data. -/
def SureD (E : Env) (cl : CL) : Prop := ∀ f as d, cl f as = some d → PureC E f as d ∧ callable E.P f = true ∧ d.dp = true

section
variable {ρ : Type} {x : SS} {r : ρ}

theorem listK_some {f : SD → (D → Option ρ) → Option ρ} {g : D → Option D} (hf : ∀ (d : SD) (K : D → Option ρ), d.ok → f d K = some r → ∃ d', g d.cv = some d' ∧ d'.dp = true ∧ K d' = some r) :
    ∀ (l : List SD) (K : List D → Option ρ), SD.oks l → listK f l K = some r → ∃ ds, (SD.cvs l).mapM g = some ds ∧ D.dps ds = true ∧ K ds = some r
  | [], K, _, h => ⟨[], by simp [SD.cvs], rfl, h⟩
  | d :: l, K, ho, h => by
    simp only [listK] at h
    obtain ⟨d', h1, h2, h3⟩ := hf d _ ho.1 h
    obtain ⟨ds, h4, h5, h6⟩ := listK_some hf l _ ho.2 h3
    exact ⟨d' :: ds, by simp [SD.cvs, List.mapM_cons, h1, h4], by simp [D.dps, h2, h5], h6⟩

theorem frSl_some {ex : Bool} {off sz len : Nat} {cs : List D} {d : D} (h : frSl ex off sz len cs = some d) : Nat.ble (off + len * sz) cs.length = true ∧ d = .sl ex len ((cs.drop off).take (len * sz)) := by
  obtain ⟨h1, h2⟩ := cond_some h
  cases h2; exact ⟨h1, rfl⟩

theorem mapM_fr_dps {n : Nat} {s : St} {cs : List D} (h : D.dps cs = true) : cs.mapM (fr n s) = some cs := frs_pure n s cs (D.dps_pures cs h)

theorem frK_some (hs : ∀ p ∈ x.s, p.2.ok) : ∀ (n : Nat) (d : SD) (K : D → Option ρ), d.ok → frK n x.s d K = some r → ∃ d', fr n x.cv.s d.cv = some d' ∧ d'.dp = true ∧ K d' = some r
  | 0, d, K, ho, h => by
    obtain ⟨h1, h2⟩ := cond_some h
    exact ⟨d.cv, by simp [fr, SD.pure_cv d ho, h1], SD.pure_dp d ho h1, h2⟩
  | n + 1, d, K, ho, h => by
    simp only [frK] at h
    cases hp : d.pure with
    | true =>
      rw [hp] at h
      exact ⟨d.cv, by simp [fr, SD.pure_cv d ho, hp], SD.pure_dp d ho hp, h⟩
    | false =>
      rw [hp] at h
      simp only [cond_false] at h
      have hpc := SD.pure_cv d ho
      rw [hp] at hpc
      have ih := listK_some (g := fr n x.cv.s) (frK_some hs n)
      have hsg : ∀ nm b, sgetS x.s nm = some b → sget x.cv.s nm = some b.cv := fun nm b hb => sget_some hb
      unfold fr
      rw [hpc]
      simp only [cond_false]
      split at h
      · rename_i cs
        obtain ⟨ds, h1, h2, h3⟩ := ih _ _ ho h
        exact ⟨_, by simp [SD.cv, h1], by simpa [D.dp] using h2, h3⟩
      · rename_i cs
        obtain ⟨ds, h1, h2, h3⟩ := ih _ _ ho h
        exact ⟨_, by simp [SD.cv, h1], by simpa [D.dp] using h2, h3⟩
      · rename_i t d
        obtain ⟨d', h1, h2, h3⟩ := frK_some hs n d _ ho h
        exact ⟨_, by simp [SD.cv, h1], by simpa [D.dp] using h2, h3⟩
      · rename_i f p q
        obtain ⟨ds, h1, h2, h3⟩ := ih _ _ ho.1 h
        obtain ⟨es, h4, h5, h6⟩ := ih _ _ ho.2 h3
        exact ⟨_, by simp [SD.cv, h1, h4], by simp [D.dp, h2, h5], h6⟩
      · rename_i nm off sz len cap
        split at h
        · rename_i cs hb
          have hcs : SD.oks cs := sgetS_ok hs hb
          cases hpp : SD.pures cs with
          | true =>
            rw [hpp] at h
            obtain ⟨d', h1, h2⟩ := bd_some h
            obtain ⟨h3, rfl⟩ := frSl_some h1
            have hd := SD.pures_dps cs hcs hpp
            have hd2 := D.dps_take (D.dps_drop hd off) (len * sz)
            exact ⟨_, by simp only [SD.cv, hsg _ _ hb, SB.cv, h3, cond_true, mapM_fr_dps hd2, Option.map_some], by simp only [D.dp]; exact hd2, h2⟩
          | false =>
            rw [hpp] at h
            obtain ⟨h3, h4⟩ := cond_some h
            obtain ⟨ds, h5, h6, h7⟩ := ih _ _ (SD.oks_take (SD.oks_drop hcs _) _) h4
            have e : ((SD.cvs cs).drop off).take (len * sz) = SD.cvs ((cs.drop off).take (len * sz)) := by simp [SD.cvs_eq, List.map_take, List.map_drop]
            exact ⟨_, by simp only [SD.cv, hsg _ _ hb, SB.cv, SD.cvs_length, h3, cond_true, e, h5, Option.map_some], by simp only [D.dp]; exact h6, h7⟩
        · rename_i cs hb
          have hd : D.dps cs = true := sgetS_ok hs hb
          obtain ⟨d', h1, h2⟩ := bd_some h
          obtain ⟨h3, rfl⟩ := frSl_some h1
          have hd2 := D.dps_take (D.dps_drop hd off) (len * sz)
          exact ⟨_, by simp only [SD.cv, hsg _ _ hb, SB.cv, h3, cond_true, mapM_fr_dps hd2, Option.map_some], by simp only [D.dp]; exact hd2, h2⟩
        · cases h
      · rename_i nm off sz len
        split at h
        · rename_i cs hb
          have hd : D.dps cs = true := sgetS_ok hs hb
          obtain ⟨d', h1, h2⟩ := bd_some h
          obtain ⟨h3, rfl⟩ := frSl_some h1
          have hd2 := D.dps_take (D.dps_drop hd off) (len * sz)
          exact ⟨_, by simp only [SD.cv, hsg _ _ hb, SB.cv, h3, cond_true, mapM_fr_dps hd2, Option.map_some], by simp only [D.dp]; exact hd2, h2⟩
        · cases h
      · rename_i nm off
        split at h
        · rename_i cs hb
          obtain ⟨ds, h1, h2, h3⟩ := ih _ _ (sgetS_ok hs hb) h
          exact ⟨_, by simp only [SD.cv, hsg _ _ hb, SB.cv, h1, Option.map_some], by simp only [D.dp]; exact h2, h3⟩
        · rename_i cs hb
          have hd : D.dps cs = true := sgetS_ok hs hb
          exact ⟨_, by simp only [SD.cv, hsg _ _ hb, SB.cv, mapM_fr_dps hd, Option.map_some], by simp only [D.dp]; exact hd, h⟩
        · cases h
      · rename_i nm off
        split at h
        · rename_i cs hb
          obtain ⟨ds, h1, h2, h3⟩ := ih _ _ (sgetS_ok hs hb) h
          exact ⟨_, by simp only [SD.cv, hsg _ _ hb, SB.cv, h1, Option.map_some], by simp only [D.dp]; exact h2, h3⟩
        · rename_i cs hb
          have hd : D.dps cs = true := sgetS_ok hs hb
          exact ⟨_, by simp only [SD.cv, hsg _ _ hb, SB.cv, mapM_fr_dps hd, Option.map_some], by simp only [D.dp]; exact hd, h⟩
        · cases h
      · cases h

theorem frN_pure (n : Nat) (s : St) {d : D} (h : d.pure = true) : frN n s d = [] := by
  cases n with
  | zero => rfl
  | succ n => simp [frN, h]

theorem frN_dps (n : Nat) (s : St) {l : List D} (h : D.dps l = true) : l.flatMap (frN n s) = [] := by
  rw [List.flatMap_eq_nil_iff]
  exact fun d hd => frN_pure n s (D.dp_pure d (D.dps_iff.1 h d hd))

theorem frNS_cv (hs : ∀ p ∈ x.s, p.2.ok) : ∀ (n : Nat) (d : SD), d.ok → frN n x.cv.s d.cv = frNS n x.s d
  | 0, d, _ => rfl
  | n + 1, d, ho => by
    have hpc := SD.pure_cv d ho
    have lst : ∀ l : List SD, SD.oks l → (SD.cvs l).flatMap (frN n x.cv.s) = l.flatMap (frNS n x.s) := fun l hl => by
      induction l with
      | nil => rfl
      | cons d r ih => simp only [SD.cvs, List.flatMap_cons, frNS_cv hs n d hl.1, ih hl.2]
    have blk : ∀ nm, (match sget x.cv.s nm with
        | some (.fix cs) => cs.flatMap (frN n x.cv.s)
        | some (.grow cs) => cs.flatMap (frN n x.cv.s)
        | _ => []) = (match sgetS x.s nm with
        | some (.fix cs) => cs.flatMap (frNS n x.s)
        | _ => []) := fun nm => by
      cases hb : sgetS x.s nm with
      | none => simp [SS.cv, sget_cv, hb]
      | some b =>
        have hok := sgetS_ok hs hb
        rw [sget_some hb]
        cases b with
        | fix cs => exact lst cs hok
        | fo cs => exact frN_dps n _ hok
        | gr cs => exact frN_dps n _ hok
        | it s p => rfl
    unfold frN frNS
    rw [hpc]
    cases hp : d.pure with
    | true => rfl
    | false =>
      simp only [cond_false]
      cases d with
      | agg l => exact lst l ho
      | tup l => exact lst l ho
      | iface t d => exact frNS_cv hs n d ho
      | fn f p q => simp only [SD.cv]; rw [lst p ho.1, lst q ho.2]
      | ms nm off sz len cap => exact congrArg (nm :: ·) (blk nm)
      | gs nm off sz len => exact congrArg (nm :: ·) (blk nm)
      | ptr nm off => exact congrArg (nm :: ·) (blk nm)
      | pts nm off => exact congrArg (nm :: ·) (blk nm)
      | fz d => simp [SD.pure] at hp
      | fa d => simp [SD.pure] at hp
      | _ => rfl

theorem frNSs_cv (hs : ∀ p ∈ x.s, p.2.ok) (n : Nat) {l : List SD} (hl : SD.oks l) : (SD.cvs l).flatMap (frN n x.cv.s) = l.flatMap (frNS n x.s) := by
  induction l with
  | nil => rfl
  | cons d r ih => simp only [SD.cvs, List.flatMap_cons, frNS_cv hs n d hl.1, ih hl.2]

/-- What a state has to be, where abstract code goes on. -/
def Next (K : SS → Option ρ) (r : ρ) (y : AS) : Prop := ∃ Y : SS, y = Y.cv ∧ Y.ok ∧ K Y = some r

theorem frs_append (n : Nat) (s : St) {l m as bs : List D} (h1 : frs n s l = some as) (h2 : frs n s m = some bs) : frs n s (l ++ m) = some (as ++ bs) := by
  simp only [frs] at *
  induction l generalizing as with
  | nil =>
    simp only [List.mapM_nil, Option.pure_def, Option.some.injEq] at h1
    subst h1; simpa using h2
  | cons d r ih =>
    simp only [List.mapM_cons, Option.bind_eq_bind, Option.bind_eq_some_iff, Option.pure_def, Option.some.injEq] at h1
    obtain ⟨a, h3, as', h4, rfl⟩ := h1
    simp [List.mapM_cons, h3, ih h4]

theorem call_some {E : Env} {cl : CL} (hcl : SureD E cl) (hx : x.ok) {z : Bool} {sh : Sh} {f : Nat} {pre post : List D} (hpre : D.dps pre = true) (hpost : D.dps post = true) {ds : List SD} (hds : SD.oks ds) {dst : Option Nat} {K : SS → Option ρ}
    (h : (listK (frK 20 x.s) ds fun as => bd (cl f (pre ++ as ++ post)) fun d =>
      bif z then bd (sh.gd d) fun v => K ((SS.purges (ds.flatMap (frNS 20 x.s)) x).put dst (sh.pt v))
      else bif SD.pures ds || sh.flat then bd (sh.gd d) fun v => K (x.put dst (sh.pt v)) else none) = some r) :
    callable E.P f = true ∧ ACall z E f (pre ++ SD.cvs ds ++ post) dst x.cv (Next K r) := by
  obtain ⟨as, h1, h2, h3⟩ := listK_some (g := fr 20 x.cv.s) (frK_some hx.2 20) ds _ hds h
  obtain ⟨d, h4, h5⟩ := bd_some h3
  obtain ⟨hc1, hc2, hc3⟩ := hcl _ _ _ h4
  refine ⟨hc2, pre ++ as ++ post, d, frs_append _ _ (frs_append _ _ (frs_pure _ _ _ (D.dps_pures _ hpre)) h1) (frs_pure _ _ _ (D.dps_pures _ hpost)), hc1, ?_⟩
  have hnm : (pre ++ SD.cvs ds ++ post).flatMap (frN 20 x.cv.s) = ds.flatMap (frNS 20 x.s) := by
    rw [List.flatMap_append, List.flatMap_append, frN_dps _ _ hpre, frN_dps _ _ hpost, frNSs_cv hx.2 20 hds]; simp
  cases z with
  | true =>
    simp only [cond_true] at h5 ⊢
    obtain ⟨v, h6, h7⟩ := bd_some h5
    have hv := Sh.gd_pt sh d v h6
    have hp := SS.purges_cv (ds.flatMap (frNS 20 x.s)) hx
    refine ⟨_, ?_, hp.2.put dst (hv.2 hc3), h7⟩
    rw [hnm, SS.put_cv, hp.1, hv.1]
  | false =>
    simp only [cond_false] at h5 ⊢
    obtain ⟨h6, h7⟩ := cond_some h5
    obtain ⟨v, h8, h9⟩ := bd_some h7
    have hv := Sh.gd_pt sh d v h8
    refine ⟨?_, _, ?_, hx.put dst (hv.2 hc3), h9⟩
    · simp only [Bool.or_eq_true] at h6 ⊢
      rcases h6 with h6 | h6
      · right
        have : ∀ l m : List D, D.pures (l ++ m) = (D.pures l && D.pures m) := fun l m => by
          induction l with
          | nil => simp [D.pures]
          | cons d r ih => simp [D.pures, ih, Bool.and_assoc]
        rw [this, this, D.dps_pures _ hpre, D.dps_pures _ hpost, SD.pures_cv ds hds, h6]; rfl
      · exact .inl (Sh.gd_flat sh d v h8 h6)
    · rw [SS.put_cv, hv.1]

theorem castK_some {sh : Sh} {d : SD} (hd : d.ok) {K : SD → Option ρ} (h : castK sh d K = some r) : ∃ d' : SD, d'.cv = d.cv ∧ d'.ok ∧ K d' = some r := by
  unfold castK at h
  split at h
  · rename_i d0
    obtain ⟨v, h1, h2⟩ := bd_some h
    have := Sh.gd_pt sh d0 v h1
    exact ⟨_, this.1, this.2 hd, h2⟩
  · exact ⟨d, rfl, hd, h⟩

variable {E : Env} {cl : CL}

theorem opH_some (hcl : SureD E cl) (hG : GOk E.G) (hx : x.ok) {h : HOper} {K : SS → Option ρ} (he : opH cl E.G h x K = some r) : h.o.op.cok = true ∧ AOpK E h.o x.cv (Next K r) := by
  obtain ⟨⟨dst, op, gd⟩, sh⟩ := h
  obtain ⟨hc, h1⟩ := cond_some he
  refine ⟨hc, ?_⟩
  have plain : (opS E.G op x fun d x => castK sh d fun d => K (x.put dst d)) = some r →
      (match step E.G op x.cv with | some (d, x') => Next K r (x'.put dst d) | none => False) := fun hh => by
    obtain ⟨d, X', h2, h3, h4, h5⟩ := opS_does hG hx hc hh
    obtain ⟨d', h6, h7, h8⟩ := castK_some h3 h5
    rw [h2]
    refine ⟨_, ?_, h4.put dst h7, h8⟩
    rw [SS.put_cv, h6]
  cases op
  case call z f args =>
    have := (call_some hcl hx (pre := []) (post := []) rfl rfl (args_ok hG hx hc) (dst := dst) (K := K) (by simpa [callS] using h1)).2
    rw [List.nil_append, List.append_nil, args_cv] at this
    exact this
  case callv z c args =>
    simp only [AOp.cok, Bool.and_eq_true] at hc
    have hco := es_ok hG hx.1 hc.1
    have hce : (c.es E.G x.t).cv = c.ev E.G x.cv.t := es_cv c x.t
    dsimp only at h1
    split at h1
    · rename_i f fs cs hA
      rw [hA] at hco hce
      have hds : SD.oks (fs ++ args.map (·.es E.G x.t) ++ cs) := SD.oks_append.2 ⟨SD.oks_append.2 ⟨hco.1, args_ok hG hx hc.2⟩, hco.2⟩
      have := call_some hcl hx (pre := []) (post := []) rfl rfl hds (dst := dst) (K := K) (by simpa [callS] using h1)
      rw [List.nil_append, List.append_nil, SD.cvs_append, SD.cvs_append, args_cv] at this
      simp only [AOpK, ← hce, SD.cv]
      exact this
    · rename_i d hA
      rw [hA] at hco hce
      obtain ⟨p, h2, h3⟩ := bd_some h1
      have hd : d = .fn (.func p.1) p.2.1 p.2.2 := by
        unfold fnF at h2
        split at h2
        · cases h2; rfl
        · cases h2
      have hdp := hco.1
      rw [hd] at hdp
      simp only [D.dp, Bool.and_eq_true] at hdp
      have := call_some hcl hx (pre := p.2.1) (post := p.2.2) hdp.1 hdp.2 (args_ok hG hx hc.2) (dst := dst) (K := K) h3
      rw [args_cv] at this
      simp only [SD.cv] at hce
      simp only [AOpK, ← hce, hd]
      exact this
    · cases h1
  all_goals exact plain h1

/-- A step, with what is known of its constants. -/
def NextC (o : AOper) (x : AS) (K : SS → Option ρ) (r : ρ) (y : AS) : Prop := ∃ Y : SS, y = Y.cv ∧ Y.ok ∧ (o.on x = true → o.op.cok = true) ∧ K Y = some r

theorem tset_ok (hx : x.ok) (g : Nat) (b : Bool) : SS.ok ⟨tsetS x.t g (.bool b), x.s⟩ := ⟨tsetS_ok hx.1 g trivial, hx.2⟩

theorem stepS_some (hcl : SureD E cl) (hG : GOk E.G) (hx : x.ok) {h : HOper} {K : SS → Option ρ} (he : stepS cl E.G h x K = some r) : AStepK E h.o x.cv (NextC h.o x.cv K r) := by
  have mono : ∀ {X : SS}, X.cv = x.cv → h.o.op.cok = true ∧ AOpK E h.o X.cv (Next K r) → AOpK E h.o x.cv (NextC h.o x.cv K r) := fun {X} hX hh => by
    rw [hX] at hh
    obtain ⟨d, y, h1, Y, h2, h3, h4⟩ := aOpK_iff.1 hh.2
    exact aOpK_iff.2 ⟨d, y, h1, Y, h2, h3, fun _ => hh.1, h4⟩
  obtain ⟨⟨dst, op, guard⟩, sh⟩ := h
  cases guard with
  | none => exact mono rfl (opH_some hcl hG hx he)
  | some gw =>
    obtain ⟨g, want⟩ := gw
    have ht : tget x.cv.t g = (tgetS x.t g).cv := tget_cv x.t g
    simp only [stepS] at he
    simp only [AStepK]
    split at he
    · rename_i b hb
      rw [hb] at ht
      simp only [ht, SD.cv]
      have hX : ∀ b', b = b' → (SS.mk (tsetS x.t g (.bool b')) x.s).cv = x.cv := fun b' hbb => by
        subst hbb
        simp only [SS.cv]
        rw [tset_cv _ _ _ (by rw [hb])]
      have hoff : want ≠ b → AOper.on ⟨dst, op, some (g, want)⟩ x.cv = false := fun hw => by
        simp only [AOper.on, ht, SD.cv]
        cases b <;> cases want <;> simp_all
      cases b with
      | true =>
        simp only [cond_true] at he
        cases want with
        | true => exact mono (hX true rfl) (opH_some hcl hG (tset_ok hx g true) he)
        | false =>
          refine ⟨_, ?_, (tset_ok hx g true).put dst (d := .tup []) trivial, fun hh => ?_, he⟩
          · rw [SS.put_cv, hX true rfl]; rfl
          · rw [hoff (by simp)] at hh; cases hh
      | false =>
        simp only [cond_false] at he
        cases want with
        | true =>
          refine ⟨_, ?_, (tset_ok hx g false).put dst (d := .tup []) trivial, fun hh => ?_, he⟩
          · rw [SS.put_cv, hX false rfl]; rfl
          · rw [hoff (by simp)] at hh; cases hh
        | false => exact mono (hX false rfl) (opH_some hcl hG (tset_ok hx g false) he)
    · rename_i hb
      rw [hb] at ht
      simp only [ht, SD.cv, SD.cvs]
      refine ⟨_, ?_, hx.put dst (d := .tup []) trivial, fun hh => ?_, he⟩
      · rw [SS.put_cv]; rfl
      · simp only [AOper.on, ht, SD.cv, SD.cvs] at hh; cases hh
    · cases he

end

end Iv
/- Regions and code on values with open places: what they come to, the model's code does. Conditions: none. -/
set_option linter.unusedSimpArgs false
set_option linter.unusedVariables false
namespace Iv
open Go

/-- One footprint lies within another. -/
structure FPle (p q : FP) : Prop where
  tm : p.tm = q.tm
  rd : ∀ n, n ∈ p.rd → n ∈ q.rd
  wr : ∀ n, n ∈ p.wr → n ∈ q.wr
  kl : ∀ n, n ∈ p.kl → n ∈ q.kl
  has : ∀ m, p.has m = true → q.has m = true
  th : ∀ m, p.th m = true → q.th m = true
  bh : ∀ m, p.bh m = true → q.bh m = true

theorem disj_le {l l' m m' : List Nat} (h1 : ∀ n, n ∈ l → n ∈ l') (h2 : ∀ n, n ∈ m → n ∈ m') (h : disj l' m' = true) : disj l m = true := by
  simp only [disj, List.all_eq_true, Bool.not_eq_true', List.any_eq_false] at h ⊢
  exact fun a ha b hb => h a (h1 a ha) b (h2 b hb)

theorem imp_not {a b : Bool} (h : a = true → b = true) (hb : (!b) = true) : (!a) = true := by
  cases a <;> cases b <;> simp_all

theorem apart_le {p p' q q' : FP} (hp : FPle p p') (hq : FPle q q') (h : apart p' q' = true) : apart p q = true := by
  simp only [apart, Bool.and_eq_true, List.all_eq_true] at h ⊢
  obtain ⟨⟨h1, h2⟩, ⟨⟨h3, h4⟩, h5⟩, h6⟩ := h
  refine ⟨⟨disj_le hp.wr hq.rd h1, disj_le hq.wr hp.rd h2⟩, ⟨⟨fun t ht => ?_, fun n hn => ?_⟩, fun m hm => ?_⟩, fun m hm => ?_⟩
  · exact imp_not (hp.th t) (h3 t (hq.tm ▸ ht))
  · exact imp_not (hp.bh n) (h4 n (hq.rd n hn))
  · exact imp_not (hq.has m) (h5 m (hp.kl m hm))
  · exact imp_not (hp.has m) (h6 m (hq.kl m hm))

def FPs (l m : List FP) : Prop := l.length = m.length ∧ ∀ (i : Nat) (p q : FP), l[i]? = some p → m[i]? = some q → FPle p q

theorem FPs.nil : FPs [] [] := ⟨rfl, fun i p q h => by simp at h⟩

theorem FPs.cons {p q : FP} {l m : List FP} (h : FPle p q) (hl : FPs l m) : FPs (p :: l) (q :: m) :=
  ⟨by simp [hl.1], fun i a b ha hb => by
    cases i with
    | zero => simp only [List.getElem?_cons_zero, Option.some.injEq] at ha hb; subst ha; subst hb; exact h
    | succ i => exact hl.2 i a b (by simpa using ha) (by simpa using hb)⟩

theorem FPs.reverse {l m : List FP} (h : FPs l m) : FPs l.reverse m.reverse :=
  ⟨by simp [h.1], fun i a b ha hb => by
    have hi : i < l.length := by have := (List.getElem?_eq_some_iff.1 ha).1; simpa using this
    rw [List.getElem?_reverse hi] at ha
    rw [List.getElem?_reverse (by rw [← h.1]; exact hi)] at hb
    exact h.2 _ a b ha (by rw [h.1]; exact hb)⟩

theorem indep_le {dr : List (Nat × Nat)} {l m : List FP} (h : FPs l m) (hi : indep dr m = true) : indep dr l = true := by
  simp only [indep, List.all_eq_true] at hi ⊢
  intro p hp
  have := hi p hp
  cases h1 : m[p.1]? with
  | none => rw [h1] at this; cases this
  | some a =>
    cases h2 : m[p.2]? with
    | none => rw [h1, h2] at this; cases this
    | some b =>
      rw [h1, h2] at this
      have l1 : p.1 < l.length := by rw [h.1]; exact (List.getElem?_eq_some_iff.1 h1).1
      have l2 : p.2 < l.length := by rw [h.1]; exact (List.getElem?_eq_some_iff.1 h2).1
      rw [List.getElem?_eq_getElem l1, List.getElem?_eq_getElem l2]
      exact apart_le (h.2 _ _ _ (List.getElem?_eq_getElem l1) h1) (h.2 _ _ _ (List.getElem?_eq_getElem l2) h2) this

section
variable {ρ : Type} {x : SS} {r : ρ} {G : List (Nat × List D)}

theorem sref_cv {Y : SS} (hY : Y.ok) (m n : Nat) : sref m Y.cv.s n = srefS m Y.s n := by
  simp only [sref, srefS, SS.cv, sget_cv]
  cases hb : sgetS Y.s n with
  | none => rfl
  | some b =>
    have hok := sgetS_ok hY.2 hb
    simp only [Option.map_some]
    cases b with
    | fix cs => exact SD.hasRefs_cv m cs hok
    | fo cs => exact D.hasRefs_dps m cs hok
    | gr cs => exact D.hasRefs_dps m cs hok
    | it s p => rfl

theorem args_frN (hG : GOk G) (hx : x.ok) {args : List Arg} (hc : Arg.coks args = true) : (args.map (·.ev G x.cv.t)).flatMap (frN 20 x.cv.s) = (args.map (·.es G x.t)).flatMap (frNS 20 x.s) := by
  rw [← args_cv, frNSs_cv hx.2 20 (args_ok hG hx hc)]

theorem callv_frN (hG : GOk G) (hx : x.ok) {c : Arg} {args : List Arg} (hc : c.cok = true) (ha : Arg.coks args = true) :
    (match c.ev G x.cv.t with | .fn _ fs cs => (fs ++ args.map (fun a => Arg.ev G x.cv.t a) ++ cs).flatMap (frN 20 x.cv.s) | _ => []) =
    (match c.ev G x.cv.t with | .fn _ _ _ => (match c.es G x.t with
      | .fn _ fs cs => (fs ++ args.map (fun a => Arg.es G x.t a) ++ cs).flatMap (frNS 20 x.s)
      | _ => (args.map (fun a => Arg.es G x.t a)).flatMap (frNS 20 x.s)) | _ => []) := by
  have hco := es_ok hG hx.1 hc
  have hce : (c.es G x.t).cv = c.ev G x.cv.t := es_cv c x.t
  rw [← hce]
  cases hA : c.es G x.t with
  | fn f fs cs =>
    rw [hA] at hco
    simp only [SD.cv]
    rw [← args_cv, ← SD.cvs_append, ← SD.cvs_append, frNSs_cv hx.2 20 (SD.oks_append.2 ⟨SD.oks_append.2 ⟨hco.1, args_ok hG hx ha⟩, hco.2⟩)]
  | fz d =>
    rw [hA] at hco
    cases d <;> simp only [SD.cv]
    rename_i f p q
    have := hco.1
    simp only [D.dp, Bool.and_eq_true] at this
    rw [List.flatMap_append, List.flatMap_append, frN_dps _ _ this.1, frN_dps _ _ this.2, args_frN hG hx ha]; simp
  | fa d =>
    rw [hA] at hco
    cases d <;> simp only [SD.cv]
    rename_i f p q
    have : (D.fn f p q).dp = true := hco
    simp only [D.dp, Bool.and_eq_true] at this
    rw [List.flatMap_append, List.flatMap_append, frN_dps _ _ this.1, frN_dps _ _ this.2, args_frN hG hx ha]; simp
  | _ => simp only [SD.cv]

theorem callv_mem (hG : GOk G) (hx : x.ok) {c : Arg} {args : List Arg} (hc : c.cok = true) (ha : Arg.coks args = true) {n : Nat}
    (h : n ∈ (match c.ev G x.cv.t with | .fn _ fs cs => (fs ++ args.map (fun a => Arg.ev G x.cv.t a) ++ cs).flatMap (frN 20 x.cv.s) | _ => [])) :
    n ∈ (match c.es G x.t with
      | .fn _ fs cs => (fs ++ args.map (fun a => Arg.es G x.t a) ++ cs).flatMap (frNS 20 x.s)
      | _ => (args.map (fun a => Arg.es G x.t a)).flatMap (frNS 20 x.s)) := by
  rw [callv_frN hG hx hc ha] at h
  split at h
  · exact h
  · cases h

theorem nm1_cv (hG : GOk G) (hx : x.ok) {a : Arg} (hc : a.cok = true) : (a.ev G x.cv.t).nms = (a.es G x.t).nm1 := by
  rw [← SD.nms_cv (es_ok hG hx.1 hc), es_cv]; rfl

theorem reads_le (hG : GOk G) (hx : x.ok) {o : AOp} (hc : o.cok = true) : ∀ n, n ∈ o.reads G x.cv → n ∈ o.readsS G x := by
  intro n hn
  cases o <;> simp only [AOp.cok, Bool.and_eq_true] at hc <;> simp only [AOp.reads, AOp.readsS] at hn ⊢
  case ld => rwa [nm1_cv hG hx hc] at hn
  case st => rwa [nm1_cv hG hx hc.1] at hn
  case slA => rwa [nm1_cv hG hx hc.1] at hn
  case app => rwa [nm1_cv hG hx hc.1, nm1_cv hG hx hc.2] at hn
  case copy => rwa [nm1_cv hG hx hc.1, nm1_cv hG hx hc.2] at hn
  case cvS => rwa [nm1_cv hG hx hc] at hn
  case next => rwa [nm1_cv hG hx hc] at hn
  case call => rwa [args_frN hG hx hc] at hn
  case callv => exact callv_mem hG hx hc.1 hc.2 hn
  all_goals exact hn

theorem writes_le (hG : GOk G) (hx : x.ok) {o : AOp} (hc : o.cok = true) : ∀ n, n ∈ o.writes G x.cv → n ∈ o.writesS G x := by
  intro n hn
  cases o
  case call z f args => cases z <;> simp only [AOp.cok] at hc <;> simp only [AOp.writes, AOp.writesS] at hn ⊢ <;> first | exact hn | rwa [args_frN hG hx hc] at hn
  case callv z c args => cases z <;> simp only [AOp.cok, Bool.and_eq_true] at hc <;> simp only [AOp.writes, AOp.writesS] at hn ⊢ <;> first | exact hn | exact callv_mem hG hx hc.1 hc.2 hn
  all_goals simp only [AOp.cok, Bool.and_eq_true] at hc <;> simp only [AOp.writes, AOp.writesS] at hn ⊢
  case st => rwa [nm1_cv hG hx hc.1] at hn
  case app => rwa [nm1_cv hG hx hc.1] at hn
  case copy => rwa [nm1_cv hG hx hc.1] at hn
  case next => rwa [nm1_cv hG hx hc] at hn
  all_goals exact hn

theorem moves_le (hG : GOk G) (hx : x.ok) {o : AOp} (hc : o.cok = true) : ∀ n, n ∈ o.moves G x.cv → n ∈ o.movesS G x := by
  intro n hn
  cases o
  case call z f args => cases z <;> simp only [AOp.cok] at hc <;> simp only [AOp.moves, AOp.movesS] at hn ⊢ <;> first | exact hn | rwa [args_frN hG hx hc] at hn
  case callv z c args => cases z <;> simp only [AOp.cok, Bool.and_eq_true] at hc <;> simp only [AOp.moves, AOp.movesS] at hn ⊢ <;> first | exact hn | exact callv_mem hG hx hc.1 hc.2 hn
  all_goals simp only [AOp.cok, Bool.and_eq_true] at hc <;> simp only [AOp.moves, AOp.movesS] at hn ⊢
  case app nm sz bytes a b =>
    have hco := es_ok hG hx.1 hc.1
    have hce : (a.es G x.t).cv = a.ev G x.cv.t := es_cv a x.t
    rw [← hce] at hn
    cases hA : a.es G x.t with
    | gs m off z len =>
      rw [hA] at hn
      simp only [SD.cv] at hn
      split at hn
      · rename_i h1 h2
        cases h1
        cases hb : Nat.beq _ 0 <;> rw [hb] at hn
        · exact hn
        · cases hn
      · cases hn
    | fz d =>
      rw [hA] at hn hco
      simp only [SD.cv] at hn
      split at hn
      · have := hco.1
        simp only [D.dp, reduceCtorEq] at this
      · cases hn
    | fa d =>
      rw [hA] at hn hco
      simp only [SD.cv] at hn
      split at hn
      · simp only [SD.ok, D.dp, reduceCtorEq] at hco
      · cases hn
    | _ => rw [hA] at hn; simp only [SD.cv] at hn; cases hn
  all_goals exact hn

theorem any_le {α : Type} {l l' : List α} {f g : α → Bool} (h : ∀ a, a ∈ l → a ∈ l') (hf : ∀ a, f a = true → g a = true) (ha : l.any f = true) : l'.any g = true := by
  rw [List.any_eq_true] at ha ⊢
  obtain ⟨a, h1, h2⟩ := ha
  exact ⟨a, h a h1, hf a h2⟩

theorem hasRef_t (hx : x.ok) (m t : Nat) : D.hasRef m (tget x.cv.t t) = SD.hasRef m (tgetS x.t t) := by
  rw [show tget x.cv.t t = (tgetS x.t t).cv from tget_cv x.t t, SD.hasRef_cv m _ (tgetS_ok hx.1 t)]

theorem fp_le (hG : GOk G) (hx : x.ok) {Y : SS} (hY : Y.ok) {o : AOper} (hc : o.on x.cv = true → o.op.cok = true) : FPle (o.fp G x.cv Y.cv) (o.fpS G x Y) := by
  have hon : o.on x.cv = true → o.onS x = true := fun h => by
    simp only [AOper.on, AOper.onS] at h ⊢
    cases hg : o.guard with
    | none => rfl
    | some gw =>
      obtain ⟨g, want⟩ := gw
      rw [hg] at h
      simp only [show tget x.cv.t g = (tgetS x.t g).cv from tget_cv x.t g] at h ⊢
      cases hA : tgetS x.t g <;> rw [hA] at h <;> first | rfl | (simp only [SD.cv] at h; cases h)
  have hhas : ∀ m, (o.tmps.any fun t => D.hasRef m (tget x.cv.t t)) = o.tmps.any fun t => SD.hasRef m (tgetS x.t t) := fun m => by
    congr 1; funext t; exact hasRef_t hx m t
  unfold AOper.fp
  cases h : o.on x.cv with
  | true =>
    have hc := hc h
    unfold AOper.fpS
    rw [hon h]
    simp only [cond_true]
    refine ⟨rfl, reads_le hG hx hc, writes_le hG hx hc, moves_le hG hx hc, fun m hm => ?_, fun t ht => ?_, fun n hn => ?_⟩
    · simp only [Bool.or_eq_true] at hm ⊢
      rcases hm with ((hm | hm) | hm) | hm
      · exact .inl (.inl (.inl (by rw [← hhas]; exact hm)))
      · exact .inl (.inl (.inr (any_le (reads_le hG hx hc) (fun n hn => by rw [← sref_cv hx]; exact hn) hm)))
      · exact .inl (.inr (any_le (writes_le hG hx hc) (fun n hn => by rw [← sref_cv hY]; exact hn) hm))
      · refine .inr ?_
        cases hd : o.dst with
        | none => rw [hd] at hm; cases hm
        | some d => rw [hd] at hm; simp only at hm ⊢; rw [← hasRef_t hY]; exact hm
    · exact any_le (moves_le hG hx hc) (fun m hm => by rw [← hasRef_t hx]; exact hm) ht
    · exact any_le (moves_le hG hx hc) (fun m hm => by rw [← sref_cv hx]; exact hm) hn
  | false =>
    simp only [cond_false]
    unfold AOper.fpS
    cases o.onS x with
    | true =>
      simp only [cond_true]
      refine ⟨rfl, fun n hn => (by cases hn), fun n hn => (by cases hn), fun n hn => (by cases hn), fun m hm => ?_, fun t ht => (by cases ht), fun n hn => by cases hn⟩
      simp only [Bool.or_eq_true]
      exact .inl (.inl (.inl (by rw [← hhas]; exact hm)))
    | false =>
      simp only [cond_false]
      exact ⟨rfl, fun n hn => (by cases hn), fun n hn => (by cases hn), fun n hn => (by cases hn), fun m hm => (hhas m).symm.trans hm, fun t ht => (by cases ht), fun n hn => by cases hn⟩

variable {E : Env} {cl : CL}

theorem aStepK_mono {o : AOper} {x : AS} {K K' : AS → Prop} (hk : ∀ y, K y → K' y) (h : AStepK E o x K) : AStepK E o x K' := by
  obtain ⟨x', h1, h2⟩ := aStepK_iff.1 h
  exact aStepK_iff.2 ⟨x', h1, hk _ h2⟩

theorem aRunD_mono {K K' : AS → List FP → Prop} (hk : ∀ y l, K y l → K' y l) : ∀ (ops : List AOper) {x : AS} {l : List FP}, ARunD E ops x l K → ARunD E ops x l K'
  | [], x, l, h => hk _ _ h
  | o :: r, x, l, h => aStepK_mono (fun y hy => aRunD_mono hk r hy) h

theorem opsS_some (hcl : SureD E cl) (hG : GOk E.G) {K : SS → Option ρ} : ∀ (ops : List HOper) {x : SS}, x.ok → opsS cl E.G ops x K = some r → ARun E (ops.map (·.o)) x.cv (Next K r)
  | [], x, hx, h => ⟨x, rfl, hx, h⟩
  | o :: l, x, hx, h => by
    simp only [List.map_cons, ARun]
    refine aStepK_mono (fun y hy => ?_) (stepS_some hcl hG hx h)
    obtain ⟨Y, rfl, h1, _, h2⟩ := hy
    exact opsS_some hcl hG l h1 h2

theorem opsDS_some (hcl : SureD E cl) (hG : GOk E.G) {K : SS → List FP → Option ρ} : ∀ (ops : List HOper) {x : SS} {l m : List FP}, x.ok → FPs l m → opsDS cl E.G ops x m K = some r →
    ARunD E (ops.map (·.o)) x.cv l (fun y l' => ∃ (Y : SS) (m' : List FP), y = Y.cv ∧ Y.ok ∧ FPs l' m' ∧ K Y m' = some r)
  | [], x, l, m, hx, hl, h => ⟨x, m.reverse, rfl, hx, hl.reverse, h⟩
  | o :: ops, x, l, m, hx, hl, h => by
    simp only [List.map_cons, ARunD]
    refine aStepK_mono (fun y hy => ?_) (stepS_some hcl hG hx h)
    obtain ⟨Y, rfl, h1, h3, h2⟩ := hy
    exact opsDS_some hcl hG ops h1 (hl.cons (fp_le hG hx h1 h3)) h2

end

end Iv
/- Code on values with open places: what it comes to, the model's code does; functions. Conditions: none. -/
set_option linter.unusedSimpArgs false
set_option linter.unusedVariables false
namespace Iv
open Go

section
variable {ρ : Type} {E : Env} {cl : CL} {M0 : Nat → Prop} {w0 : World} {N : Nat}

theorem TSh.get_pt : ∀ {l : TSh} {t : List (Nat × SD)} {v : TSh.T l}, (∀ p ∈ t, p.2.ok) → TSh.get l t = some v →
    (∀ n, tget (cvT (TSh.pt l v)) n = tget (cvT t) n ∨ tget (cvT (TSh.pt l v)) n = .un) ∧ ∀ p ∈ TSh.pt l v, p.2.ok
  | [], t, v, ht, h => ⟨fun n => .inr rfl, fun p hp => by simp [TSh.pt] at hp⟩
  | (k, s) :: r, t, v, ht, h => by
    simp only [TSh.get] at h
    split at h
    · rename_i a ha
      split at h
      · rename_i w hw
        cases h
        have h1 := Sh.gs_pt s _ a ha
        have h2 := TSh.get_pt ht hw
        refine ⟨fun n => ?_, fun p hp => ?_⟩
        · simp only [TSh.pt, cvT, tget_cons]
          by_cases hn : n = k
          · rw [if_pos hn, h1.1, hn, tget_cv]; exact .inl rfl
          · rw [if_neg hn]; exact h2.1 n
        · simp only [TSh.pt, List.mem_cons] at hp
          rcases hp with rfl | hp
          · exact h1.2 (tgetS_ok ht k)
          · exact h2.2 p hp
      · cases h
    · cases h

def skeysB (l : SSh) : List Nat := l.map (·.1)

theorem SSh.getK_pt : ∀ {l : SSh} {s : List (Nat × SB)} {K : SSh.T l → Option ρ} {r : ρ}, (∀ p ∈ s, p.2.ok) → SSh.getK l s K = some r →
    ∃ w, K w = some r ∧ (∀ n, n ∈ skeysB l → sget (cvS (SSh.pt l w)) n = sget (cvS s) n) ∧ (∀ n, n ∉ skeysB l → sget (cvS (SSh.pt l w)) n = none) ∧ ∀ p ∈ SSh.pt l w, p.2.ok
  | [], s, K, r, hs, h => ⟨(), h, fun n hn => (by cases hn), fun n _ => rfl, fun p hp => by simp [SSh.pt] at hp⟩
  | (k, b) :: l, s, K, r, hs, h => by
    simp only [SSh.getK] at h
    split at h
    · rename_i blk hb
      obtain ⟨v, h1, h2⟩ := bd_some h
      have hv := BSh.gb_pt h1
      obtain ⟨w, h3, h4, h5, h6⟩ := SSh.getK_pt hs h2
      refine ⟨(v, w), h3, fun n hn => ?_, fun n hn => ?_, fun p hp => ?_⟩
      · simp only [SSh.pt, cvS, sget_cons]
        by_cases hk : n = k
        · rw [if_pos hk, hv.1, hk, sget_cv, hb]; rfl
        · rw [if_neg hk]
          refine h4 n ?_
          simp only [skeysB, List.map_cons, List.mem_cons] at hn ⊢
          exact hn.resolve_left hk
      · simp only [skeysB, List.map_cons, List.mem_cons, not_or] at hn
        simp only [SSh.pt, cvS, sget_cons]
        rw [if_neg hn.1]
        exact h5 n hn.2
      · simp only [SSh.pt, List.mem_cons] at hp
        rcases hp with rfl | hp
        · exact hv.2 (sgetS_ok hs hb)
        · exact h6 p hp
    · cases h

variable {μ : Mu} {M : Nat → Prop} {a : Act} {w : World} {x : SS}

theorem XSh.getK_rel {s : XSh} {K : s.T → Option ρ} {r : ρ} (hx : x.ok) (hk : ∀ n, sgetS x.s n ≠ none → n ∈ skeysB s.2) (h : XSh.getK s x K = some r) (hR : Rel E M0 w0 N μ M a w x.cv) :
    ∃ v, K v = some r ∧ (s.pt v).ok ∧ Rel E M0 w0 N μ M a w (s.pt v).cv := by
  obtain ⟨v, h1, h2⟩ := bd_some h
  obtain ⟨w', h3, h4, h5, h6⟩ := SSh.getK_pt hx.2 h2
  have ht := TSh.get_pt hx.1 h1
  refine ⟨(v, w'), h3, ⟨ht.2, h6⟩, hR.congr (fun n => ht.1 n) fun n => ?_⟩
  by_cases hn : n ∈ skeysB s.2
  · exact h4 n hn
  · rw [show (XSh.pt s (v, w')).cv.s = cvS (SSh.pt s.2 w') from rfl, h5 n hn]
    have : sgetS x.s n = none := Classical.byContradiction fun hc => hn (hk n hc)
    simp [SS.cv, sget_cv, this]

theorem XSh.getK_inl {s : XSh} {ρ' : Type} {v : s.T} (h : XSh.getK (ρ := s.T ⊕ ρ') s x (fun w => some (.inl w)) = some (.inl v)) (hx : x.ok) (hk : ∀ n, sgetS x.s n ≠ none → n ∈ skeysB s.2) (hR : Rel E M0 w0 N μ M a w x.cv) :
    (s.pt v).ok ∧ Rel E M0 w0 N μ M a w (s.pt v).cv := by
  obtain ⟨v', h1, h2, h3⟩ := XSh.getK_rel hx hk h hR
  cases h1; exact ⟨h2, h3⟩

theorem XSh.getK_inr {s : XSh} {ρ' : Type} {r : ρ'} (hx : x.ok) (h : XSh.getK (ρ := s.T ⊕ ρ') s x (fun w => some (.inl w)) = some (.inr r)) : False := by
  obtain ⟨v, h1, h2⟩ := bd_some h
  obtain ⟨w', h3, _⟩ := SSh.getK_pt hx.2 h2
  cases h3

theorem sget_mem : ∀ {s : List (Nat × SB)} {n : Nat}, sgetS s n ≠ none → n ∈ skeys s
  | [], n, h => absurd rfl h
  | (k, b) :: r, n, h => by
    simp only [sgetS] at h
    cases hb : Nat.beq n k <;> rw [hb] at h
    · exact List.mem_cons_of_mem _ (sget_mem h)
    · rw [beq_eq hb]; exact List.mem_cons_self ..

theorem skeys_ssh : ∀ (s : List (Nat × SB)), skeysB (sshOf s) = skeys s
  | [] => rfl
  | (k, b) :: r => by simp only [sshOf, skeysB, List.map_cons, skeys] at *; rw [← skeys_ssh r]; rfl

theorem adoptS_rel : ∀ (l : List (Nat × Nat × Nat)) {μ : Mu} {x : SS}, x.ok → Rel E M0 w0 N μ M a w x.cv → ∃ μ', Rel E M0 w0 N μ' M a w (adoptS x l).cv ∧ (adoptS x l).ok
  | [], μ, x, hx, h => ⟨μ, h, hx⟩
  | (t, nm, sz) :: r, μ, x, hx, h => by
    simp only [adoptS]
    split
    · rename_i ht
      cases hn : shasS x.s nm with
      | true => exact adoptS_rel r hx h
      | false =>
        obtain ⟨μ', h'⟩ := h.adopt1 t nm sz (by rw [show x.cv.s = cvS x.s from rfl, shas_cv, hn]) (by rw [show x.cv.t = cvT x.t from rfl, tget_cv, ht]; rfl)
        refine adoptS_rel r (x := ⟨(t, .gs nm 0 sz 0) :: x.t, (nm, .gr []) :: x.s⟩) ⟨fun p hp => ?_, fun p hp => ?_⟩ h'
        · rcases List.mem_cons.1 hp with rfl | hp
          · trivial
          · exact hx.1 p hp
        · rcases List.mem_cons.1 hp with rfl | hp
          · rfl
          · exact hx.2 p hp
    · exact adoptS_rel r hx h

theorem restrictS_ok {t : List (Nat × SD)} (h : ∀ p ∈ t, p.2.ok) : ∀ (l : List Nat), ∀ p ∈ restrictS l t, p.2.ok
  | [], p, hp => by simp [restrictS] at hp
  | n :: r, p, hp => by
    simp only [restrictS, List.mem_cons] at hp
    rcases hp with rfl | hp
    · exact tgetS_ok h n
    · exact restrictS_ok h r p hp

theorem limS_rel (hx : x.ok) (h : Rel E M0 w0 N μ M a w x.cv) (l : List Nat) : Rel E M0 w0 N μ M a w (SS.mk (restrictS l x.t) x.s).cv ∧ SS.ok ⟨restrictS l x.t, x.s⟩ := by
  refine ⟨?_, restrictS_ok hx.1 l, hx.2⟩
  have := h.limit l
  simp only [SS.cv, restrict_cv] at this ⊢
  exact this

theorem dropButS_rel (ls : List Nat) : ∀ (l : List Nat) {μ : Mu} {x : SS}, x.ok → Rel E M0 w0 N μ M a w x.cv → ∃ μ', Rel E M0 w0 N μ' M a w (dropButS ls l x).cv ∧ (dropButS ls l x).ok
  | [], μ, x, hx, h => ⟨μ, h, hx⟩
  | n :: r, μ, x, hx, h => by
    simp only [dropButS]
    cases memN n ls with
    | true => exact dropButS_rel ls r hx h
    | false =>
      obtain ⟨μ', h'⟩ := h.drop n
      have hd := SS.drop_cv hx n
      rw [← hd.1] at h'
      exact dropButS_rel ls r hd.2 h'

theorem sgetS_skill (nm n : Nat) : ∀ (s : List (Nat × SB)), sgetS (skillS nm s) n = (sgetS s n).map (SB.kill nm)
  | [] => rfl
  | (k, b) :: r => by
    simp only [skillS, sgetS]
    cases Nat.beq n k
    · exact sgetS_skill nm n r
    · rfl

theorem sgetS_sdel (m n : Nat) : ∀ (s : List (Nat × SB)), sgetS (sdelS s m) n = if n = m then none else sgetS s n
  | [] => by simp [sdelS, sgetS]
  | (k, b) :: r => by
    simp only [sdelS]
    cases hb : Nat.beq m k with
    | true =>
      have := beq_eq hb
      subst this
      simp only [cond_true, sgetS_sdel m n r, sgetS_cons]
      by_cases hn : n = m
      · rw [if_pos hn, if_pos hn]
      · rw [if_neg hn, if_neg hn, if_neg hn]
    | false =>
      simp only [cond_false, sgetS_cons, sgetS_sdel m n r]
      by_cases hk : n = k
      · rw [if_pos hk]
        by_cases hn : n = m
        · rw [hk] at hn; rw [hn] at hb; simp at hb
        · rw [if_neg hn, if_pos hk]
      · rw [if_neg hk]
        by_cases hn : n = m
        · rw [if_pos hn, if_pos hn]
        · rw [if_neg hn, if_neg hn, if_neg hk]

theorem drop_none {x : SS} {n m : Nat} (h : sgetS x.s n = none) : sgetS (x.drop m).s n = none := by
  unfold SS.drop
  cases shasS x.s m
  · exact h
  · simp only [cond_true, sgetS_skill, sgetS_sdel]
    split
    · rfl
    · rw [h]; rfl

theorem drop_self {x : SS} {n : Nat} : sgetS (x.drop n).s n = none := by
  unfold SS.drop
  cases hs : shasS x.s n
  · simp only [shasS] at hs
    cases hg : sgetS x.s n with
    | none => simpa using hg
    | some b => rw [hg] at hs; cases hs
  · simp [sgetS_skill, sgetS_sdel]

theorem dropButS_none (ls : List Nat) : ∀ (l : List Nat) {x : SS} {n : Nat}, (sgetS x.s n = none ∨ (n ∈ l ∧ memN n ls = false)) → sgetS (dropButS ls l x).s n = none
  | [], x, n, h => h.elim id fun h => by cases h.1
  | m :: r, x, n, h => by
    simp only [dropButS]
    rcases h with h | ⟨h1, h2⟩
    · cases memN m ls with
      | true => exact dropButS_none ls r (.inl h)
      | false => exact dropButS_none ls r (.inl (drop_none h))
    · rcases List.mem_cons.1 h1 with rfl | h1
      · rw [h2]; exact dropButS_none ls r (.inl drop_self)
      · exact dropButS_none ls r (.inr ⟨h1, h2⟩)

theorem dropButS_keys (ls : List Nat) {x : SS} {n : Nat} (h : sgetS (dropButS ls (skeys x.s) x).s n ≠ none) : n ∈ ls := by
  cases hm : memN n ls with
  | true =>
    simp only [memN, List.any_eq_true] at hm
    obtain ⟨m, h1, h2⟩ := hm
    rw [beq_eq h2]; exact h1
  | false =>
    exfalso
    apply h
    by_cases hn : sgetS x.s n = none
    · exact dropButS_none ls _ (.inl hn)
    · exact dropButS_none ls _ (.inr ⟨sget_mem hn, hm⟩)

theorem normS_rel (hx : x.ok) (h : Rel E M0 w0 N μ M a w x.cv) (lt : List Nat) (ad : List (Nat × Nat × Nat)) : ∃ μ', Rel E M0 w0 N μ' M a w (normS lt ad x).cv ∧ (normS lt ad x).ok := by
  obtain ⟨μ1, h1, h2⟩ := adoptS_rel ad hx h
  obtain ⟨h3, h4⟩ := limS_rel h2 h1 lt
  exact dropButS_rel _ _ h4 h3

theorem normE_rel (hx : x.ok) (h : Rel E M0 w0 N μ M a w x.cv) (sh : XSh) (lt : List Nat) (ad : List (Nat × Nat × Nat)) :
    (∃ μ', Rel E M0 w0 N μ' M a w (normE sh lt ad x).cv ∧ (normE sh lt ad x).ok) ∧ ∀ n, sgetS (normE sh lt ad x).s n ≠ none → n ∈ skeysB sh.2 := by
  obtain ⟨μ1, h1, h2⟩ := adoptS_rel ad hx h
  obtain ⟨h3, h4⟩ := limS_rel h2 h1 lt
  exact ⟨dropButS_rel _ _ h4 h3, fun n hn => dropButS_keys _ hn⟩

/-- Behind code: what the model's postcondition takes off what goes on. -/
def MeetsS (E : Env) (M0 : Nat → Prop) (w0 : World) (N : Nat) (k : AX → SS → Option ρ) (r : ρ) (Q : Exit → Act → World → Prop) : Prop :=
  ∀ e a w μ M Y, Rel E M0 w0 N μ M a w Y.cv → Y.ok → k e Y = some r → Q (AX.out e) a w

theorem rt_some {α : Type} {o : Option ρ} {s : α ⊕ ρ} (h : rt o = some s) : ∃ r, o = some r ∧ s = .inr r := by
  unfold rt at h
  split at h
  · rename_i r; cases h; exact ⟨r, rfl, rfl⟩
  · cases h

theorem loopD_some {α : Type} {f : α → Option (α ⊕ ρ)} {v : α} {r : ρ} (h : loopD f v = some r) : ∃ n, iterN f n v = some r := by
  unfold loopD at h
  split at h
  · rename_i hc; exact ⟨_, h⟩
  · cases h

theorem den_sound (hmix : E.P.follows .mixedOrders = true) {lp : Lp} (hlp : ∀ {α ρ : Type} (f : α → Option (α ⊕ ρ)) (v : α) (r : ρ), lp.run f v = some r → ∃ n, iterN f n v = some r) (hcl : SureD E cl) (hG : GOk E.G) {base : Nat} : ∀ (H : HC) (c : Code), comp E.P N base c = some H.ac.bare →
    ∀ {ρ : Type} (k : AX → SS → Option ρ) (r : ρ) (Q : Exit → Act → World → Prop), MeetsS E M0 w0 N k r Q →
    ∀ (μ : Mu) (M : Nat → Prop) (a : Act) (w : World) (x : SS), Rel E M0 w0 N μ M a w x.cv → x.ok → den lp cl E.G H x k = some r → c.wp E.P Q a w := by
  intro H
  induction H with
  | skip =>
    intro c hc ρ k r Q hQ μ M a w x h hx hd
    cases c <;> simp only [comp, HC.ac, AC.bare, Option.bind_eq_bind, Option.bind_eq_some_iff, Option.some.injEq, reduceCtorEq, and_false, exists_false, exists_const] at hc
    · exact wp_skip (hQ .normal _ _ _ _ _ h hx hd)
    · rename_i id ops draw
      obtain ⟨l, hl, hc⟩ := hc
      cases draw
      · simp only [cond_false, Option.some.injEq, reduceCtorEq] at hc
      · simp only [cond_true, Option.bind_eq_some_iff, Option.some.injEq, reduceCtorEq, and_false, exists_false] at hc
    · exact wp_label (hQ .normal _ _ _ _ _ h hx hd)
  | reg dr kl ops live =>
    intro c hc ρ k r Q hQ μ M a w x h hx hd
    cases c <;> simp only [comp, HC.ac, AC.bare, Option.bind_eq_bind, Option.bind_eq_some_iff, Option.some.injEq, reduceCtorEq, and_false, exists_false, exists_const] at hc
    rename_i id oops draw
    obtain ⟨l, hl, hc⟩ := hc
    have hdr := SS.drops_cv kl hx
    obtain ⟨μ', h'⟩ := Rel.drops kl h
    rw [← hdr.1] at h'
    cases draw with
    | false =>
      simp only [cond_false, Option.some.injEq, AC.reg.injEq] at hc
      obtain ⟨rfl, rfl, rfl, _⟩ := hc
      refine region_text hl h' (opsS_some hcl hG ops hdr.2 hd) fun a w μ M y hR hk => ?_
      obtain ⟨Y, rfl, h1, h2⟩ := hk
      obtain ⟨h3, h4⟩ := limS_rel h1 hR live
      exact hQ .normal _ _ _ _ _ h3 h4 h2
    | true =>
      simp only [cond_true, Option.bind_eq_some_iff, Option.some.injEq, AC.reg.injEq] at hc
      obtain ⟨dr', hd', rfl, rfl, rfl, _⟩ := hc
      have hrun := opsDS_some hcl hG ops hdr.2 FPs.nil hd
      refine region_any (K := fun y => ∃ Y : SS, y = Y.cv ∧ Y.ok ∧ k .normal ⟨restrictS live Y.t, Y.s⟩ = some r) hmix hl hd' h' (aRunD_mono (fun y l' hy => ?_) _ hrun) fun a w μ M y hR hk => ?_
      · obtain ⟨Y, m', rfl, h1, h2, h3⟩ := hy
        obtain ⟨hi, h4⟩ := cond_some h3
        exact ⟨indep_le h2 hi, Y, rfl, h1, h4⟩
      · obtain ⟨Y, rfl, h1, h2⟩ := hk
        obtain ⟨h3, h4⟩ := limS_rel h1 hR live
        exact hQ .normal _ _ _ _ _ h3 h4 h2
  | seq p q ihp ihq =>
    intro c hc ρ k r Q hQ μ M a w x h hx hd
    cases c <;> simp only [comp, HC.ac, AC.bare, Option.bind_eq_bind, Option.bind_eq_some_iff, Option.some.injEq, reduceCtorEq, and_false, exists_false, exists_const] at hc
    · rename_i id ops draw
      obtain ⟨l, hl, hc⟩ := hc
      cases draw
      · simp only [cond_false, Option.some.injEq, reduceCtorEq] at hc
      · simp only [cond_true, Option.bind_eq_some_iff, Option.some.injEq, reduceCtorEq, and_false, exists_false] at hc
    · rename_i c1 c2
      obtain ⟨A1, h1, A2, h2, hc⟩ := hc
      simp only [AC.seq.injEq] at hc
      obtain ⟨rfl, rfl⟩ := hc
      refine wp_seq (ihp _ h1 _ r _ (fun e a w μ M Y hR hY hk => ?_) μ M a w x h hx hd)
      cases e with
      | normal => exact ihq _ h2 k r Q hQ μ M a w Y hR hY hk
      | exit i => exact hQ (.exit i) _ _ _ _ _ hR hY hk
      | ret => exact hQ .ret _ _ _ _ _ hR hY hk
  | cond o p q ihp ihq =>
    intro c hc ρ k r Q hQ μ M a w x h hx hd
    cases c <;> simp only [comp, HC.ac, AC.bare, Option.bind_eq_bind, Option.bind_eq_some_iff, Option.some.injEq, reduceCtorEq, and_false, exists_false, exists_const] at hc
    · rename_i id ops draw
      obtain ⟨l, hl, hc⟩ := hc
      cases draw
      · simp only [cond_false, Option.some.injEq, reduceCtorEq] at hc
      · simp only [cond_true, Option.bind_eq_some_iff, Option.some.injEq, reduceCtorEq, and_false, exists_false] at hc
    · rename_i co c1 c2
      obtain ⟨ar, h0, A1, h1, A2, h2, hc⟩ := hc
      simp only [AC.cond.injEq] at hc
      obtain ⟨rfl, rfl, rfl⟩ := hc
      obtain ⟨hcok, hd1⟩ := cond_some hd
      have hv := arg_rel h h0
      rw [show ar.ev E.G x.cv.t = (ar.es E.G x.t).cv from (es_cv ar x.t).symm] at hv
      split at hd1
      · rename_i b hb
        rw [hb] at hv
        simp only [SD.cv, VRel] at hv
        cases b with
        | true => exact wp_cond_split hv (fun _ => ihp _ h1 k r Q hQ μ M a w x h hx hd1) (fun e => by cases e)
        | false => exact wp_cond_split hv (fun e => by cases e) (fun _ => ihq _ h2 k r Q hQ μ M a w x h hx hd1)
      · cases hd1
  | block id p ih =>
    intro c hc ρ k r Q hQ μ M a w x h hx hd
    cases c <;> simp only [comp, HC.ac, AC.bare, Option.bind_eq_bind, Option.bind_eq_some_iff, Option.some.injEq, reduceCtorEq, and_false, exists_false, exists_const] at hc
    · rename_i id ops draw
      obtain ⟨l, hl, hc⟩ := hc
      cases draw
      · simp only [cond_false, Option.some.injEq, reduceCtorEq] at hc
      · simp only [cond_true, Option.bind_eq_some_iff, Option.some.injEq, reduceCtorEq, and_false, exists_false] at hc
    · rename_i id' c1
      obtain ⟨A1, h1, hc⟩ := hc
      simp only [AC.block.injEq] at hc
      obtain ⟨rfl, rfl⟩ := hc
      refine wp_block (ih _ h1 _ r _ (fun e a w μ M Y hR hY hk => ?_) μ M a w x h hx hd)
      cases e with
      | normal => exact hQ .normal _ _ _ _ _ hR hY hk
      | exit i =>
        simp only [AX.out, Exit.inBlock]
        by_cases hi : i = id'
        · subst hi
          simp only [Nat.beq_refl, cond_true] at hk
          rw [if_pos rfl]; exact hQ .normal _ _ _ _ _ hR hY hk
        · simp only [beq_ne hi, cond_false] at hk
          rw [if_neg hi]; exact hQ (.exit i) _ _ _ _ _ hR hY hk
      | ret => exact hQ .ret _ _ _ _ _ hR hY hk
  | loop lt ad p ih =>
    intro c hc ρ k r Q hQ μ M a w x h hx hd
    cases c <;> simp only [comp, HC.ac, AC.bare, Option.bind_eq_bind, Option.bind_eq_some_iff, Option.some.injEq, reduceCtorEq, and_false, exists_false, exists_const] at hc
    · rename_i id ops draw
      obtain ⟨l, hl, hc⟩ := hc
      cases draw
      · simp only [cond_false, Option.some.injEq, reduceCtorEq] at hc
      · simp only [cond_true, Option.bind_eq_some_iff, Option.some.injEq, reduceCtorEq, and_false, exists_false] at hc
    · rename_i c1
      obtain ⟨A1, h1, hc⟩ := hc
      simp only [AC.loop.injEq] at hc
      obtain ⟨_, _, _, rfl⟩ := hc
      obtain ⟨μ1, hn1, hn2⟩ := normS_rel hx h lt ad
      simp only [den] at hd
      obtain ⟨v, h2, h3, h4⟩ := XSh.getK_rel hn2 (fun n hn => by
        show n ∈ skeysB (sshOf (normS lt ad x).s)
        rw [skeys_ssh]; exact sget_mem hn) hd hn1
      obtain ⟨n, hn⟩ := hlp _ _ _ h2
      have key : ∀ n (v : XSh.T (shOfX (normS lt ad x))) (μ : Mu) (M : Nat → Prop) (a : Act) (w : World), (XSh.pt _ v).ok → Rel E M0 w0 N μ M a w (XSh.pt _ v).cv →
          iterN (fun v => den lp cl E.G p (XSh.pt (shOfX (normS lt ad x)) v) fun e y => match e with
            | .normal => XSh.getK (shOfX (normS lt ad x)) (normE (shOfX (normS lt ad x)) lt ad y) fun w => some (.inl w)
            | e => rt (k e y)) n v = some r → Code.rounds E.P c1 Q n a w := by
        intro n
        induction n with
        | zero => intro v μ M a w _ _ hi; cases hi
        | succ n ihn =>
          intro v μ M a w hv hR hi
          rw [rounds_succ]
          simp only [iterN] at hi
          split at hi
          · rename_i w' hw
            refine ih _ h1 _ (Sum.inl w') _ (fun e a w μ M Y hR' hY hk => ?_) μ M a w _ hR hv hw
            cases e with
            | normal =>
              obtain ⟨⟨μ', h5, h6⟩, h7⟩ := normE_rel hY hR' (shOfX (normS lt ad x)) lt ad
              obtain ⟨h8, h9⟩ := XSh.getK_inl hk h6 h7 h5
              exact ihn w' μ' M a w h8 h9 hi
            | exit i => obtain ⟨_, _, hs⟩ := rt_some hk; cases hs
            | ret => obtain ⟨_, _, hs⟩ := rt_some hk; cases hs
          · rename_i r' hw
            cases hi
            refine ih _ h1 _ (Sum.inr r) _ (fun e a w μ M Y hR' hY hk => ?_) μ M a w _ hR hv hw
            cases e with
            | normal =>
              obtain ⟨⟨μ', h5, h6⟩, h7⟩ := normE_rel hY hR' (shOfX (normS lt ad x)) lt ad
              exact (XSh.getK_inr h6 hk).elim
            | exit i =>
              obtain ⟨r', h5, hs⟩ := rt_some hk
              cases hs
              exact hQ (.exit i) _ _ _ _ _ hR' hY h5
            | ret =>
              obtain ⟨r', h5, hs⟩ := rt_some hk
              cases hs
              exact hQ .ret _ _ _ _ _ hR' hY h5
          · cases hi
      exact wp_loop_rounds n (key n v μ1 M a w h3 h4 hn)
  | exit id =>
    intro c hc ρ k r Q hQ μ M a w x h hx hd
    cases c <;> simp only [comp, HC.ac, AC.bare, Option.bind_eq_bind, Option.bind_eq_some_iff, Option.some.injEq, reduceCtorEq, and_false, exists_false, exists_const] at hc
    · rename_i id ops draw
      obtain ⟨l, hl, hc⟩ := hc
      cases draw
      · simp only [cond_false, Option.some.injEq, reduceCtorEq] at hc
      · simp only [cond_true, Option.bind_eq_some_iff, Option.some.injEq, reduceCtorEq, and_false, exists_false] at hc
    · simp only [AC.exit.injEq] at hc
      subst hc
      exact wp_exit (hQ (.exit _) _ _ _ _ _ h hx hd)
  | scope p ih =>
    intro c hc ρ k r Q hQ μ M a w x h hx hd
    cases c <;> simp only [comp, HC.ac, AC.bare, Option.bind_eq_bind, Option.bind_eq_some_iff, Option.some.injEq, reduceCtorEq, and_false, exists_false, exists_const] at hc
    · rename_i id ops draw
      obtain ⟨l, hl, hc⟩ := hc
      cases draw
      · simp only [cond_false, Option.some.injEq, reduceCtorEq] at hc
      · simp only [cond_true, Option.bind_eq_some_iff, Option.some.injEq, reduceCtorEq, and_false, exists_false] at hc
    · rename_i c1
      obtain ⟨A1, h1, hc⟩ := hc
      simp only [AC.scope.injEq] at hc
      subst hc
      refine wp_scope_straight (ih _ h1 k r _ (fun e a w μ M Y hR hY hk => ?_) μ M a w x h hx hd)
      cases e with
      | normal => exact hQ .normal _ _ _ _ _ hR hY hk
      | exit i => exact hQ (.exit i) _ _ _ _ _ hR hY hk
      | ret => exact hQ .ret _ _ _ _ _ hR hY hk
  | ret =>
    intro c hc ρ k r Q hQ μ M a w x h hx hd
    cases c <;> simp only [comp, HC.ac, AC.bare, Option.bind_eq_bind, Option.bind_eq_some_iff, Option.some.injEq, reduceCtorEq, and_false, exists_false, exists_const] at hc
    · rename_i id ops draw
      obtain ⟨l, hl, hc⟩ := hc
      cases draw
      · simp only [cond_false, Option.some.injEq, reduceCtorEq] at hc
      · simp only [cond_true, Option.bind_eq_some_iff, Option.some.injEq, reduceCtorEq, and_false, exists_false] at hc
    · exact wp_ret (hQ .ret _ _ _ _ _ h hx hd)
  | cut lt tys p ih =>
    intro c hc ρ k r Q hQ μ M a w x h hx hd
    simp only [den] at hd
    unfold bj at hd
    split at hd
    · rename_i v hv
      refine ih _ hc _ (Sum.inl v) _ (fun e a w μ M Y hR hY hk => ?_) μ M a w x h hx hv
      cases e with
      | normal =>
        obtain ⟨⟨μ', h5, h6⟩, h7⟩ := normE_rel hY hR (cutT lt tys x.t, sshOf x.s) lt []
        obtain ⟨h8, h9⟩ := XSh.getK_inl hk h6 h7 h5
        exact hQ .normal _ _ _ _ _ h9 h8 hd
      | exit i => obtain ⟨_, _, hs⟩ := rt_some hk; cases hs
      | ret => obtain ⟨_, _, hs⟩ := rt_some hk; cases hs
    · rename_i r' hv
      cases hd
      refine ih _ hc _ (Sum.inr r) _ (fun e a w μ M Y hR hY hk => ?_) μ M a w x h hx hv
      cases e with
      | normal =>
        obtain ⟨⟨μ', h5, h6⟩, h7⟩ := normE_rel hY hR (cutT lt tys x.t, sshOf x.s) lt []
        exact (XSh.getK_inr h6 hk).elim
      | exit i =>
        obtain ⟨r', h5, hs⟩ := rt_some hk
        cases hs
        exact hQ (.exit i) _ _ _ _ _ hR hY h5
      | ret =>
        obtain ⟨r', h5, hs⟩ := rt_some hk
        cases hs
        exact hQ .ret _ _ _ _ _ hR hY h5
    · cases hd

end

end Iv
/- Functions: contracts from what their texts come to. Conditions: none. -/
set_option linter.unusedSimpArgs false
set_option linter.unusedVariables false
namespace Iv
open Go

theorem cOp_nz {P : Program} {nm : Nat} {o : Oper} {f : Nat} {args : List Arg} (h : cOp P nm o = some (.call true f args)) : False := by
  cases ho : o.op
  case call c =>
    simp only [cOp, ho] at h
    cases hcal : c.callee with
    | value g =>
      rw [hcal] at h
      cases g with
      | func g =>
        simp only [Option.bind_eq_bind, Option.bind_eq_some_iff] at h
        obtain ⟨fn, hfn, as, has, hc⟩ := h
        cases hcond : (fn.name == "runtime.NumGoroutine" || fn.body.isNone) <;> rw [hcond] at hc
        · simp only [cond_false, Option.some.injEq, AOp.call.injEq, Bool.false_eq_true, false_and, Option.bind_eq_some_iff, and_false, exists_false] at hc
        · cases hc
      | _ =>
        simp only [Option.bind_eq_bind, Option.bind_eq_some_iff, Option.some.injEq, reduceCtorEq, and_false, exists_false] at h
    | invoke r m => rw [hcal] at h; cases h
    | builtin b =>
      rw [hcal] at h
      dsimp only at h
      repeat' (first | contradiction | (split at h) | (simp only [Option.bind_eq_bind, Option.bind_eq_some_iff, Option.some.injEq, reduceCtorEq, and_false, exists_false] at h) | (simp [Option.bind_eq_some_iff, cond_eq_ite] at h) | (obtain ⟨_, h⟩ := h))
  all_goals
    simp only [cOp, ho] at h
    repeat' (first | contradiction | (split at h) | (simp only [Option.bind_eq_bind, Option.bind_eq_some_iff, Option.some.injEq, reduceCtorEq, and_false, exists_false] at h) | (simp [Option.bind_eq_some_iff, cond_eq_ite] at h) | (obtain ⟨_, h⟩ := h))

theorem cOp_nzv {P : Program} {nm : Nat} {o : Oper} {g : Arg} {args : List Arg} (h : cOp P nm o = some (.callv true g args)) : False := by
  cases ho : o.op
  case call c =>
    simp only [cOp, ho] at h
    cases hcal : c.callee with
    | value g =>
      rw [hcal] at h
      cases g with
      | func g =>
        simp only [Option.bind_eq_bind, Option.bind_eq_some_iff] at h
        obtain ⟨fn, hfn, as, has, hc⟩ := h
        cases hcond : (fn.name == "runtime.NumGoroutine" || fn.body.isNone) <;> rw [hcond] at hc
        · simp only [cond_false, Option.bind_eq_some_iff, Option.some.injEq, reduceCtorEq, and_false, exists_false] at hc
        · cases hc
      | _ =>
        simp only [Option.bind_eq_bind, Option.bind_eq_some_iff, Option.some.injEq, AOp.callv.injEq, Bool.false_eq_true, false_and, and_false, exists_false] at h
    | invoke r m => rw [hcal] at h; cases h
    | builtin b =>
      rw [hcal] at h
      dsimp only at h
      repeat' (first | contradiction | (split at h) | (simp only [Option.bind_eq_bind, Option.bind_eq_some_iff, Option.some.injEq, reduceCtorEq, and_false, exists_false] at h) | (simp [Option.bind_eq_some_iff, cond_eq_ite] at h) | (obtain ⟨_, h⟩ := h))
  all_goals
    simp only [cOp, ho] at h
    repeat' (first | contradiction | (split at h) | (simp only [Option.bind_eq_bind, Option.bind_eq_some_iff, Option.some.injEq, reduceCtorEq, and_false, exists_false] at h) | (simp [Option.bind_eq_some_iff, cond_eq_ite] at h) | (obtain ⟨_, h⟩ := h))

theorem cOp_bare {P : Program} {nm : Nat} {o : Oper} {a : AOp} (h : cOp P nm o = some a) : a.bare = a := by
  cases a
  case call z f args => cases z <;> first | rfl | exact (cOp_nz h).elim
  case callv z c args => cases z <;> first | rfl | exact (cOp_nzv h).elim
  all_goals rfl

theorem cOpers_bare {P : Program} {N base id : Nat} {ops : Array Oper} : ∀ {l : List Oper} {i : Nat} {as : List AOper}, cOpers P N base id ops i l = some as → as.map AOper.bare = as
  | [], i, as, h => by simp only [cOpers, Option.some.injEq] at h; subst h; rfl
  | o :: l, i, as, h => by
    simp only [cOpers, Option.bind_eq_bind, Option.bind_eq_some_iff, Option.some.injEq] at h
    obtain ⟨a, h1, l', h2, rfl⟩ := h
    simp only [List.map_cons, cOpers_bare h2]
    congr 1
    simp only [cOper, Option.bind_eq_bind, Option.bind_eq_some_iff] at h1
    obtain ⟨op, h3, g, h4, h5⟩ := h1
    obtain ⟨_, h5⟩ := cond_some h5
    cases h5
    simp only [AOper.bare, cOp_bare h3]

theorem comp_bare {P : Program} {N base : Nat} : ∀ {c : Code} {A : AC}, comp P N base c = some A → A.bare = A := by
  intro c
  induction c with
  | skip => intro A h; simp only [comp, Option.some.injEq] at h; subst h; rfl
  | label l => intro A h; simp only [comp, Option.some.injEq] at h; subst h; rfl
  | region id ops draw =>
    intro A h
    simp only [comp, Option.bind_eq_bind, Option.bind_eq_some_iff] at h
    obtain ⟨l, hl, h⟩ := h
    cases draw with
    | false =>
      simp only [cond_false, Option.some.injEq] at h
      subst h; simp only [AC.bare, cOpers_bare hl]
    | true =>
      simp only [cond_true, Option.bind_eq_some_iff, Option.some.injEq] at h
      obtain ⟨dr, _, rfl⟩ := h
      simp only [AC.bare, cOpers_bare hl]
  | seq p q ihp ihq =>
    intro A h
    simp only [comp, Option.bind_eq_bind, Option.bind_eq_some_iff, Option.some.injEq] at h
    obtain ⟨A1, h1, A2, h2, rfl⟩ := h
    simp only [AC.bare, ihp h1, ihq h2]
  | cond o p q ihp ihq =>
    intro A h
    simp only [comp, Option.bind_eq_bind, Option.bind_eq_some_iff, Option.some.injEq] at h
    obtain ⟨ar, _, A1, h1, A2, h2, rfl⟩ := h
    simp only [AC.bare, ihp h1, ihq h2]
  | block id p ih =>
    intro A h
    simp only [comp, Option.bind_eq_bind, Option.bind_eq_some_iff, Option.some.injEq] at h
    obtain ⟨A1, h1, rfl⟩ := h
    simp only [AC.bare, ih h1]
  | loop p ih =>
    intro A h
    simp only [comp, Option.bind_eq_bind, Option.bind_eq_some_iff, Option.some.injEq] at h
    obtain ⟨A1, h1, rfl⟩ := h
    simp only [AC.bare, ih h1]
  | exit id => intro A h; simp only [comp, Option.some.injEq] at h; subst h; rfl
  | scope p ih =>
    intro A h
    simp only [comp, Option.bind_eq_bind, Option.bind_eq_some_iff, Option.some.injEq] at h
    obtain ⟨A1, h1, rfl⟩ := h
    simp only [AC.bare, ih h1]
  | ret => intro A h; simp only [comp, Option.some.injEq] at h; subst h; rfl
  | _ => intro A h; simp only [comp, reduceCtorEq] at h

theorem hop_bare (e : HEnv) (o : AOper) : (hop e o).o.bare = o.bare := by
  obtain ⟨dst, op, gd⟩ := o
  cases op <;> rfl

theorem hint_bare (e : HEnv) : ∀ (A : AC) (ex : List (Nat × Nat)) (L : Nat), (hintC e ex A L).ac.bare = A.bare := by
  intro A
  induction A with
  | skip => intro ex L; rfl
  | reg d k ops live =>
    intro ex L
    simp only [hintC, HC.ac, AC.bare, List.map_map]
    congr 1
    exact List.map_congr_left fun o _ => hop_bare e o
  | seq a b iha ihb =>
    intro ex L
    simp only [hintC]
    cases (Nat.blt 1 (ways a) && Nat.blt cutSize (acSize b)) <;> simp only [cond_true, cond_false, HC.ac, AC.bare, iha, ihb]
  | cond c a b iha ihb => intro ex L; simp only [hintC, HC.ac, AC.bare, iha, ihb]
  | block i a ih => intro ex L; simp only [hintC, HC.ac, AC.bare, ih]
  | loop lt ls ad a ih => intro ex L; simp only [hintC, HC.ac, AC.bare, ih]
  | exit i => intro ex L; rfl
  | scope a ih => intro ex L; simp only [hintC, HC.ac, AC.bare, ih]
  | ret => intro ex L; rfl

theorem hintF_some {P : Program} {fn : Func} {H : HF} (h : hintF P fn = some H) : ∃ (A : AF) (c : Code), compF P 0 fn = some A ∧ fn.body = some c ∧ comp P fn.ntmps 0 c = some H.body.ac.bare ∧ H.res = A.res ∧ fn.results.toList.mapM (compRes P) = some A.res := by
  simp only [hintF, Option.bind_eq_bind, Option.bind_eq_some_iff, Option.some.injEq] at h
  obtain ⟨A, hA, c, hc, rfl⟩ := h
  refine ⟨A, c, hA, hc, ?_, rfl, ?_⟩
  all_goals
    simp only [compF, Option.bind_eq_bind, Option.bind_eq_some_iff] at hA
    obtain ⟨c', hc', b, hb, r, hr, hA⟩ := hA
    rw [hc] at hc'
    cases hc'
    have hA2 : A.body = b ∧ A.res = r := by
      cases hcond : Nat.beq fn.nfree 0 <;> rw [hcond] at hA <;> simp only [cond_true, cond_false, Option.some.injEq] at hA <;> subst hA <;> exact ⟨rfl, rfl⟩
  · simp only [hint_bare]
    rw [hA2.1, comp_bare hb]; exact hb
  · rw [hA2.2]; exact hr

section
variable {ρ : Type} {E : Env} {cl : CL}

theorem resK_some {x : SS} (hx : x.ok) : ∀ (l : List RV) {K : List SD → Option ρ} {r : ρ}, resK x l K = some r → ∃ ds : List SD, l.mapM (RV.get x.cv) = some (SD.cvs ds) ∧ SD.oks ds ∧ K ds = some r
  | [], K, r, h => ⟨[], by simp [SD.cvs], trivial, h⟩
  | rv :: l, K, r, h => by
    simp only [resK] at h
    have one : ∃ d : SD, RV.get x.cv rv = some d.cv ∧ d.ok ∧ (resK x l fun ds => K (d :: ds)) = some r := by
      cases rv with
      | tmp t => exact ⟨_, by simp only [RV.get, SS.cv, tget_cv], tgetS_ok hx.1 t, h⟩
      | cell t sz =>
        simp only [RV.getK] at h
        split at h
        · rename_i nm off hA
          obtain ⟨d, cs, o, h1, h2, h3, h4⟩ := ldK_some hx (p := .ptr nm off) trivial h
          refine ⟨d, ?_, h3, h4⟩
          have ht : tget x.cv.t t = (SD.ptr nm off).cv := by rw [← hA]; exact tget_cv x.t t
          simp only [RV.get, ht, h1, h2, Option.bind_eq_bind, Option.bind_some]
        · cases h
    obtain ⟨d, h1, h2, h3⟩ := one
    obtain ⟨ds, h4, h5, h6⟩ := resK_some hx l h3
    exact ⟨d :: ds, by simp [List.mapM_cons, h1, h4, SD.cvs], ⟨h2, h5⟩, h6⟩

theorem retS_cv : ∀ (ds : List SD), (retS ds).cv = retD (SD.cvs ds)
  | [] => rfl
  | [d] => rfl
  | d :: e :: r => rfl

theorem retS_ok {ds : List SD} (h : SD.oks ds) : (retS ds).ok := by
  match ds, h with
  | [], _ => trivial
  | [d], h => exact h.1
  | d :: e :: r, h => exact h

theorem castsK_some : ∀ (s : List Sh) (args : List D) {K : List SD → Option ρ} {r : ρ}, D.dps args = true → castsK s args K = some r → ∃ l : List SD, SD.cvs l = args ∧ SD.oks l ∧ K l = some r
  | [], [], K, r, _, h => ⟨[], rfl, trivial, h⟩
  | [], _ :: _, K, r, _, h => by cases h
  | _ :: _, [], K, r, _, h => by cases h
  | s :: sr, d :: ds, K, r, hd, h => by
    simp only [castsK] at h
    simp only [D.dps, Bool.and_eq_true] at hd
    obtain ⟨v, h1, h2⟩ := bd_some h
    have hv := Sh.gd_pt s d v h1
    obtain ⟨l, h3, h4, h5⟩ := castsK_some sr ds hd.2 h2
    exact ⟨s.pt v :: l, by simp only [SD.cvs, hv.1, h3], ⟨hv.2 hd.1, h4⟩, h5⟩

theorem argS_cv : ∀ (n : Nat) (l : List SD), cvT (argS n l) = argTm n (SD.cvs l)
  | n, [] => rfl
  | n, d :: r => by simp only [argS, cvT, SD.cvs, argTm, argS_cv (n + 1) r]

theorem argS_ok : ∀ (n : Nat) {l : List SD}, SD.oks l → ∀ p ∈ argS n l, p.2.ok
  | n, [], _, p, hp => by simp [argS] at hp
  | n, d :: r, h, p, hp => by
    simp only [argS, List.mem_cons] at hp
    rcases hp with rfl | hp
    · exact h.1
    · exact argS_ok (n + 1) h.2 p hp

/-- The contract of a function, from what its text comes to. -/
theorem runB_pure (hmix : E.P.follows .mixedOrders = true) {lp : Lp} (hlp : ∀ {α ρ : Type} (f : α → Option (α ⊕ ρ)) (v : α) (r : ρ), lp.run f v = some r → ∃ n, iterN f n v = some r) (hcl : SureD E cl) (hG : GOk E.G) {f : Nat} {fn : Func} {H : HF} (hf : E.P.funcs[f]? = some fn) (hH : hintF E.P fn = some H)
    {l : List SD} {d : D} (hl : SD.oks l) (h : runB lp cl E.G H l = some d) : PureC E f (SD.cvs l) d := by
  obtain ⟨A, c, hA, hbody, hc, hres, hr⟩ := hintF_some hH
  intro M w vals hm hg hv
  refine calls_of_wp hf hbody ?_
  have hS := start_rel (N := fn.ntmps) hm hg hv
  rw [show vals.toArray.size = vals.length by simp]
  have hcv : (SS.mk (argS 0 l) []).cv = AF.start (SD.cvs l) := by simp only [SS.cv, argS_cv, AF.start]; rfl
  rw [← hcv] at hS
  refine den_sound hmix hlp hcl hG H.body c hc _ d _ (fun e a w' μ M' Y hR hY hk => ?_) mu0 M _ w _ hS ⟨argS_ok 0 hl, fun p hp => by cases hp⟩ h
  have fin : (resK Y H.res fun ds => frK 20 Y.s (retS ds) some) = some d →
      a.defers = [] ∧ ∃ v, (results fn a.tmps).run E.P w' = .ok v w' ∧ ∃ v', Ending.returned v = .returned v' ∧ VRel M w' mu0 d v' ∧ w.heap.size ≤ w'.heap.size ∧ Env0 w w' ∧ ∀ b, b < w.heap.size → w'.heap[b]? = w.heap[b]? := fun hh => by
    obtain ⟨ds, h1, h2, h3⟩ := resK_some hY H.res hh
    obtain ⟨d', h4, h5, h6⟩ := frK_some hY.2 20 _ _ (retS_ok h2) h3
    cases h6
    rw [hres] at h1
    obtain ⟨v, h7, h8⟩ := results_run hR hr h1
    rw [retS_cv] at h4
    exact ⟨hR.defers, v, h7, v, rfl, fr_rel hR 20 _ _ _ h4 h8, hR.size, hR.env, hR.old⟩
  cases e with
  | normal => exact fin hk
  | exit i => cases hk
  | ret => exact fin hk

/-- What is known of a function: what it comes to at the arguments of which 'g' says something. -/
def Sp (E : Env) (f : Nat) (g : List D → Option D) : Prop := ∀ as d, g as = some d → PureC E f as d ∧ callable E.P f = true ∧ d.dp = true

/-- What is known of some functions, as what their calls come to. -/
def orc : List (Nat × (List D → Option D)) → CL
  | [], _, _ => none
  | (f, g) :: r, n, as => bif Nat.beq n f then g as else orc r n as

def Sps (E : Env) : List (Nat × (List D → Option D)) → Prop
  | [] => True
  | (f, g) :: r => Sp E f g ∧ Sps E r

theorem sure_orc : ∀ {l : List (Nat × (List D → Option D))}, Sps E l → SureD E (orc l)
  | [], _, f, as, d, h => by cases h
  | (n, g) :: r, hs, f, as, d, h => by
    simp only [orc] at h
    cases hb : Nat.beq f n <;> rw [hb] at h
    · exact sure_orc hs.2 f as d h
    · rw [beq_eq hb]; exact hs.1 as d h

theorem callable_of {P : Program} {f : Nat} {fn : Func} {H : HF} (hf : P.funcs[f]? = some fn) (hn : (fn.name == "runtime.NumGoroutine") = false) (hH : hintF P fn = some H) : callable P f = true := by
  obtain ⟨A, c, hA, hbody, _⟩ := hintF_some hH
  simp [callable, hf, hn, hbody]

/-- A function of which its text says something, with the oracle of what is known of others. -/
theorem sp_of (hmix : E.P.follows .mixedOrders = true) (hG : GOk E.G) {l : List (Nat × (List D → Option D))} (hl : Sps E l) {f : Nat} {g : List D → Option D}
    (hg : ∀ as d, g as = some d → d.dp = true ∧ ∃ sds : List SD, SD.cvs sds = as ∧ SD.oks sds ∧ runS lpD E.P E.G (orc l) f sds = some d) : Sp E f g := by
  intro as d h
  obtain ⟨h1, sds, rfl, h2, h3⟩ := hg as d h
  unfold runS hOf at h3
  split at h3
  · rename_i H hH
    split at hH
    · rename_i fn hf
      cases hn : fn.name == "runtime.NumGoroutine" <;> rw [hn] at hH
      · exact ⟨runB_pure hmix (lp := lpD) (fun f v r h => loopD_some h) (sure_orc hl) hG hf hH h2 h3, callable_of hf hn hH, h1⟩
      · cases hH
    · cases hH
  · cases h3

/-- What a table of functions says, one deeper. -/
def evT (W : CL → Nat → List D → Option D) : Nat → CL
  | 0, _, _ => none
  | n + 1, f, args => match W (evT W n) f args with
    | some d => bif D.dps args && d.dp then some d else none
    | none => none

/-- A table's word on a function, and what the function's text comes to. -/
def TabS (E : Env) (k : Nat) (W : CL → Nat → List D → Option D) : Prop :=
  ∀ cl f args d, W cl f args = some d → ∃ H, hOf E.P f = some H ∧ castsK H.sh args (runB (lpN k) cl E.G H) = some d

theorem castsK_gds : ∀ (s : List Sh) (args : List D) (K : List SD → Option ρ), castsK s args K = bd (Sh.gds s args) fun v => K (Sh.pts' s v)
  | [], [], K => rfl
  | [], _ :: _, K => rfl
  | _ :: _, [], K => rfl
  | s :: r, d :: ds, K => by
    simp only [castsK, Sh.gds]
    cases Sh.gd s d with
    | none => rfl
    | some v =>
      simp only [bd]
      rw [castsK_gds r ds]
      cases Sh.gds r ds <;> rfl

/-- An entry of a table. -/
def TabE (E : Env) (f : Nat) (h : Lp → CL → List D → Option D) : Prop :=
  ∀ lp cl args d, h lp cl args = some d → ∃ H, hOf E.P f = some H ∧ castsK H.sh args (runB lp cl E.G H) = some d

def shsOf (P : Program) (f : Nat) : Option (List Sh) := match hOf P f with | some H => some H.sh | none => none

theorem tab_of {f : Nat} {shs : List Sh} {F : Lp → CL → Sh.Ts shs → Option D} (h2 : shsOf E.P f = some shs) (h3 : ∀ lp cl (v : Sh.Ts shs), runS lp E.P E.G cl f (Sh.pts' shs v) = F lp cl v) :
    TabE E f fun lp cl args => bd (Sh.gds shs args) fun v => F lp cl v := by
  intro lp cl args d h
  obtain ⟨v, h4, h5⟩ := bd_some h
  have h6 := h3 lp cl v
  unfold shsOf at h2
  unfold runS at h6
  split at h2
  · rename_i H hH
    cases h2
    rw [hH] at h6
    refine ⟨H, hH, ?_⟩
    rw [castsK_gds, h4]
    exact h6.trans h5
  · cases h2

def tabW (lp : Lp) : List (Nat × (Lp → CL → List D → Option D)) → CL → Nat → List D → Option D
  | [], _, _, _ => none
  | (g, h) :: r, cl, f, args => bif Nat.beq f g then h lp cl args else tabW lp r cl f args

def TabEs (E : Env) : List (Nat × (Lp → CL → List D → Option D)) → Prop
  | [] => True
  | (g, h) :: r => TabE E g h ∧ TabEs E r

theorem tabS_of {k : Nat} : ∀ {l : List (Nat × (Lp → CL → List D → Option D))}, TabEs E l → TabS E k (tabW (lpN k) l)
  | [], _, cl, f, args, d, h => by cases h
  | (g, e) :: r, hl, cl, f, args, d, h => by
    simp only [tabW] at h
    cases hb : Nat.beq f g <;> rw [hb] at h
    · exact tabS_of hl.2 cl f args d h
    · rw [beq_eq hb]; exact hl.1 _ cl args d h

theorem evT_sound (hmix : E.P.follows .mixedOrders = true) (hG : GOk E.G) {k : Nat} {W : CL → Nat → List D → Option D} (hW : TabS E k W) : ∀ n, SureD E (evT W n)
  | 0 => fun f as d h => by cases h
  | n + 1 => fun f as d h => by
    simp only [evT] at h
    split at h
    · rename_i d' hd
      obtain ⟨h2, h3⟩ := cond_some h
      cases h3
      simp only [Bool.and_eq_true] at h2
      obtain ⟨H, hH, hc⟩ := hW _ _ _ _ hd
      obtain ⟨l, h4, h5, h6⟩ := castsK_some _ _ h2.1 hc
      unfold hOf at hH
      split at hH
      · rename_i fn hf
        cases hn : fn.name == "runtime.NumGoroutine" <;> rw [hn] at hH
        · have := runB_pure hmix (lp := lpN k) (fun f v r h => ⟨k, h⟩) (evT_sound hmix hG hW n) hG hf hH h5 h6
          rw [h4] at this
          exact ⟨this, callable_of hf hn hH, h2.2⟩
        · cases hH
      · cases hH
    · cases h

end

end Iv
