/- Functions known by what they do: slices.SortFunc at a struct of two numbers, by the first, where these differ. Conditions: the contracts given. -/
import Derived.Test.YtnpoohbeicakkaaGreatDoorCI
import Derived.Shelf.GgSortFunc.InsertionK
set_option linter.unusedVariables false
set_option linter.unusedSimpArgs false
namespace Zv
open Go Go.Sort
def row2? : List D → Option (List (Int × Int))
  | [] => some []
  | .int .i64 a :: .int .i64 b :: r => (row2? r).map ((a, b) :: ·)
  | _ => none
def en2 : List (Int × Int) → List D
  | [] => []
  | p :: r => .int .i64 p.1 :: .int .i64 p.2 :: en2 r
theorem row2_en : ∀ {cs : List D} {l : List (Int × Int)}, row2? cs = some l → cs = en2 l
  | [], l, h => by simp [row2?] at h; subst h; rfl
  | [d], l, h => by cases d <;> simp [row2?] at h <;> (rename_i k _; cases k <;> simp [row2?] at h)
  | d :: e :: r, l, h => by
    unfold row2? at h
    split at h
    · rename_i h0; cases h0
    · rename_i a b r' h0
      cases h0
      simp only [Option.map_eq_some_iff] at h
      obtain ⟨l', h1, rfl⟩ := h
      rw [row2_en h1]; rfl
    · cases h
theorem en2_row : ∀ (l : List (Int × Int)), row2? (en2 l) = some l
  | [] => rfl
  | p :: r => by simp only [en2, row2?, en2_row r, Option.map_some]
theorem en2_len : ∀ (l : List (Int × Int)), (en2 l).length = 2 * l.length
  | [] => rfl
  | p :: r => by simp only [en2, List.length_cons, en2_len r]; omega
theorem en2_nag : ∀ (l : List (Int × Int)), (en2 l).any isAg = false
  | [] => rfl
  | p :: r => by simp only [en2, List.any_cons, en2_nag r]; rfl
def cAt : List (Int × Int) → Nat → Int
  | [], _ => 0
  | p :: _, 0 => p.1
  | p :: _, 1 => p.2
  | _ :: r, t + 2 => cAt r t
theorem en2_get : ∀ (l : List (Int × Int)) (t : Nat), t < 2 * l.length → (en2 l)[t]? = some (.int .i64 (cAt l t))
  | [], t, h => by simp at h
  | p :: r, 0, h => rfl
  | p :: r, 1, h => rfl
  | p :: r, t + 2, h => by
    simp only [List.length_cons] at h
    simpa [en2, cAt] using en2_get r t (by omega)
def encP (x : Int × Int) : List Value := [.int .i64 x.1, .int .i64 x.2]
theorem cAt_get : ∀ (l : List (Int × Int)) (t : Nat), t < 2 * l.length → (encP (l.toArray[t / 2]!))[t % 2]! = .int .i64 (cAt l t)
  | [], t, h => by simp at h
  | p :: r, 0, h => by simp [encP, cAt]
  | p :: r, 1, h => by simp [encP, cAt]
  | p :: r, t + 2, h => by
    simp only [List.length_cons] at h
    have ih := cAt_get r t (by omega)
    rw [show (t + 2) / 2 = t / 2 + 1 by omega, show (t + 2) % 2 = t % 2 by omega]
    simpa [cAt] using ih
theorem flat_get (l : List (Int × Int)) (t : Nat) (h : t < 2 * l.length) : (flatK encP 2 l.toArray)[t]! = .int .i64 (cAt l t) := by
  rw [get_flatK _ _ _ _ (by simp; omega)]
  exact cAt_get l t h
def insP (x : Int × Int) : List (Int × Int) → List (Int × Int)
  | [] => [x]
  | y :: r => if x.1 < y.1 then x :: y :: r else y :: insP x r
def sortP : List (Int × Int) → List (Int × Int)
  | [] => []
  | x :: r => insP x (sortP r)
theorem insP_perm (x : Int × Int) : ∀ l, (insP x l).Perm (x :: l)
  | [] => .refl _
  | y :: r => by
    unfold insP
    split
    · exact .refl _
    · exact ((insP_perm x r).cons y).trans (.swap x y r)
theorem sortP_perm : ∀ l, (sortP l).Perm l
  | [] => .refl _
  | x :: r => (insP_perm x _).trans ((sortP_perm r).cons x)
def Asc (l : List (Int × Int)) : Prop := l.Pairwise fun a b => a.1 < b.1
theorem insP_asc (x : Int × Int) : ∀ {l : List (Int × Int)}, Asc l → (∀ y ∈ l, y.1 ≠ x.1) → Asc (insP x l)
  | [], _, _ => by simp [insP, Asc]
  | y :: r, h, hn => by
    unfold insP
    have h' := List.pairwise_cons.1 h
    split
    · rename_i hlt
      refine List.pairwise_cons.2 ⟨fun z hz => ?_, h⟩
      rcases List.mem_cons.1 hz with rfl | hz
      · exact hlt
      · have := h'.1 z hz; omega
    · rename_i hlt
      refine List.pairwise_cons.2 ⟨fun z hz => ?_, insP_asc x h'.2 fun z hz => hn z (by simp [hz])⟩
      rcases List.mem_cons.1 ((insP_perm x r).mem_iff.1 hz) with rfl | hz
      · have := hn y (by simp); omega
      · exact h'.1 z hz
theorem sortP_asc : ∀ {l : List (Int × Int)}, (l.map Prod.fst).Nodup → Asc (sortP l)
  | [], _ => List.Pairwise.nil
  | x :: r, h => by
    rw [List.map_cons, List.nodup_cons] at h
    refine insP_asc x (sortP_asc h.2) fun y hy e => h.1 ?_
    exact e ▸ List.mem_map_of_mem ((sortP_perm r).mem_iff.1 hy)
theorem asc_unique : ∀ {l l' : List (Int × Int)}, Asc l → Asc l' → l.Perm l' → l = l' := fun {l l'} h h' hp =>
  hp.eq_of_pairwise (fun a b _ _ h1 h2 => by omega) h h'
theorem sorted_is {l d : List (Int × Int)} (hn : (l.map Prod.fst).Nodup) (hp : d.Perm l) (hs : d.Pairwise fun a b => ¬ b.1 < a.1) : d = sortP l := by
  have hn' : (d.map Prod.fst).Nodup := (hp.map Prod.fst).nodup_iff.2 hn
  refine asc_unique ?_ (sortP_asc hn) (hp.trans (sortP_perm l).symm)
  have h2 : d.Pairwise fun a b => a.1 ≠ b.1 := List.pairwise_map.1 hn'
  exact hs.imp₂ (fun a b h1 h2 => by omega) h2
theorem setAt_get {α : Type} : ∀ (ds cs : List α) (off i : Nat), (setAt cs off ds)[i]? = if off ≤ i ∧ i < off + ds.length ∧ i < cs.length then ds[i - off]? else cs[i]?
  | [], cs, off, i => by simp only [setAt, List.length_nil]; rw [if_neg (by omega)]
  | d :: ds, cs, off, i => by
    simp only [setAt]
    rw [setAt_get ds _ (off + 1) i, List.length_set, List.length_cons]
    by_cases h1 : off + 1 ≤ i ∧ i < off + 1 + ds.length ∧ i < cs.length
    · rw [if_pos h1, if_pos (by omega), show i - off = (i - (off + 1)) + 1 by omega, List.getElem?_cons_succ]
    · rw [if_neg h1, List.getElem?_set]
      by_cases h2 : off = i
      · subst h2
        by_cases h3 : off < cs.length
        · rw [if_pos rfl, if_pos h3, if_pos (by omega), Nat.sub_self, List.getElem?_cons_zero]
        · rw [if_pos rfl, if_neg h3, if_neg (by omega), List.getElem?_eq_none (by omega)]
      · rw [if_neg h2, if_neg (by omega)]
theorem putCells_setAt (off : Nat) (F vs : Array Value) (h : off + F.size ≤ vs.size) : (putCells id off F vs).toList = setAt vs.toList off F.toList := by
  apply List.ext_getElem?
  intro i
  rw [setAt_get]
  simp only [Array.getElem?_toList, putCells, Array.getElem?_mapIdx, Array.length_toList]
  by_cases hi : i < vs.size
  · rw [Array.getElem?_eq_getElem hi, Option.map_some]
    by_cases h1 : off ≤ i ∧ i < off + F.size
    · rw [if_pos h1, if_pos ⟨h1.1, h1.2, hi⟩, Array.getElem?_eq_getElem (show i - off < F.size by omega)]
      simp [getElem!_pos F (i - off) (by omega)]
    · rw [if_neg h1, if_neg (by omega)]
  · rw [Array.getElem?_eq_none (by omega), Option.map_none, if_neg (by omega)]
noncomputable section
def own2 : D → Option (Nat × Nat × Nat)
  | .ms nm off 2 len _ => some (nm, off, len)
  | .gs nm off 2 (len + 1) => some (nm, off, len + 1)
  | _ => none
def sortSt (s : St) (nm off len : Nat) : Option St := match sget s nm with
  | some blk => match blkCells blk with
    | some cs => match row2? ((cs.drop off).take (2 * len)) with
      | some l => if (l.map Prod.fst).Nodup ∧ l.length = len ∧ len < 4611686018427387904 then (stB blk off (en2 (sortP l))).map fun b => sset s nm b else none
      | none => none
    | none => none
  | none => none
def spSort (g : Nat) (args : List D) (s : St) (c : Nat) : FR :=
  match args with
  | [a, .fn (.func g') [] []] => bif Nat.beq g' g then
      match own2 a with
      | some p => match sortSt s p.1 p.2.1 p.2.2 with
        | some s' => .ok (.ret (.tup [])) s' c
        | none => .no
      | none => .no
    else .no
  | _ => .no
theorem sort_spec {E : Env} {f g : Nat} (hcf : callable E.P f = true)
    (hcon : ∀ (l : List (Int × Int)) (b off cap : Nat) (w : World), HoldsK encP 2 w b off l.toArray → b < w.heap.size → l.length < 4611686018427387904 →
      Calls E.P f #[.slice (some ⟨b, off, none⟩) l.length cap, .func (.func g) #[] #[]] w fun e w' => e = .returned (.tuple #[]) ∧ ∃ (d : List (Int × Int)) (n : Nat) (os : Array Obj), d.Perm l ∧ (d.Pairwise fun a b => ¬ b.1 < a.1) ∧ w' = Go.Proofs.sortWorldK encP 2 w b off n d.toArray os) :
    SpOK E f (spSort g) := by
  intro M0 w0 μ w s c args vals o s' c' h hv hs
  refine ⟨hcf, ?_⟩
  unfold spSort at hs
  split at hs
  · rename_i a g'
    cases hg : Nat.beq g' g <;> rw [hg] at hs
    · cases hs
    have := Nat.eq_of_beq_eq_true hg
    subst this
    simp only [cond_true] at hs
    split at hs
    · rename_i p hp
      obtain ⟨nm, off, len⟩ := p
      split at hs
      · rename_i s1 hs1
        cases hs
        simp only [VRels] at hv
        obtain ⟨v, r, rfl, hv1, v2, r2, rfl, hv2, rfl⟩ := hv
        obtain ⟨va, vb, rfl, h1, h2⟩ : ∃ va vb, v2 = .func (.func g') va vb ∧ va.toList = [] ∧ vb.toList = [] := by
          simp only [VRel, VRels] at hv2; exact hv2
        have e1 : va = #[] := Array.ext' h1
        have e2 : vb = #[] := Array.ext' h2
        subst e1 e2
        obtain ⟨loc, b, cap, hl, hlb, rfl⟩ : ∃ loc b cap, μ nm = some loc ∧ loc.blk = some b ∧ v = .slice (some ⟨b, off, none⟩) len cap := by
          unfold own2 at hp
          split at hp
          · cases hp
            simp only [VRel] at hv1
            obtain ⟨loc, b, q1, q2, q3, _⟩ := hv1
            exact ⟨loc, b, _, q1, q2, q3⟩
          · cases hp
            simp only [VRel] at hv1
            obtain ⟨loc, cap, q1, q3, q4, q5, q6⟩ := hv1
            cases hb : loc.blk with
            | none => have := q6 hb; omega
            | some b => rw [hb] at q3; exact ⟨loc, b, _, q1, hb, q3⟩
          · cases hp
        unfold sortSt at hs1
        split at hs1
        · rename_i blk hblk
          split at hs1
          · rename_i cs hcs
            split at hs1
            · rename_i l hl2
              split at hs1
              · rename_i hcond
                obtain ⟨hnd, hlen, hbig⟩ := hcond
                dsimp only at hlen hbig hl2
                simp only [Option.map_eq_some_iff] at hs1
                obtain ⟨blk', hst, rfl⟩ := hs1
                subst hlen
                dsimp only at hst hblk
                obtain ⟨l', q1, _, q3⟩ := blk_cells h hl hblk hcs
                rw [hl] at q1; cases q1
                obtain ⟨hMb, hbw, vs, e, fz, hheap, hth, hle, hcap, hrel⟩ := q3 b hlb
                have hrow := row2_en hl2
                have hlens : off + 2 * l.length ≤ cs.length ∨ l.length = 0 := by
                  have := congrArg List.length hrow
                  rw [en2_len, List.length_take, List.length_drop] at this
                  omega
                have hcell : ∀ t, t < 2 * l.length → vs[off + t]? = some (.int .i64 (cAt l t)) := fun t ht => by
                  have h1 : cs[off + t]? = some (.int .i64 (cAt l t)) := by
                    have := en2_get l t ht
                    rw [← hrow, List.getElem?_take, if_pos ht, List.getElem?_drop] at this
                    exact this
                  have hlt : off + t < cs.length := by omega
                  have h2 : (vs.toList.take cs.length)[off + t]? = some vs[off + t] := by
                    rw [List.getElem?_take, if_pos hlt, Array.getElem?_toList, Array.getElem?_eq_getElem (by omega)]
                  have := hrel.at h1 h2
                  simp only [VRel] at this
                  rw [Array.getElem?_eq_getElem (by omega), this]
                have hHold : HoldsK encP 2 w b off l.toArray := fun j hj => by
                  rw [size_flatK] at hj
                  have hj' : j < 2 * l.length := by rw [List.size_toArray] at hj; omega
                  refine ⟨?_, ?_⟩
                  · rw [flat_get l j hj']
                    simp only [World.cell?, hheap]
                    exact hcell j hj'
                  · simp only [World.frozen?, hheap]
                    have := hth (off + j) (by omega)
                    simpa using this
                refine (hcon l b off cap w hHold hbw hbig).mono ?_
                rintro e' w' ⟨rfl, d, n, os, hperm, hpw, rfl⟩
                have hd := sorted_is hnd hperm hpw
                subst hd
                have hpl : (sortP l).length = l.length := (sortP_perm l).length_eq
                have hF : (flatK encP 2 (sortP l).toArray).size = 2 * l.length := by rw [size_flatK, List.size_toArray, hpl]; omega
                have hfit : off + (flatK encP 2 (sortP l).toArray).size ≤ vs.size ∨ l.length = 0 := by rw [hF]; omega
                -- the world in which the row lies in order
                have hw1 : (Go.Sort.putRowK encP 2 (Go.Sort.ahead w n) b off (sortP l).toArray).heap = w.heap.modify b (onCells (putCells id off (flatK encP 2 (sortP l).toArray))) := rfl
                have g2 : (Go.Sort.putRowK encP 2 (Go.Sort.ahead w n) b off (sortP l).toArray).heap.size = w.heap.size := by rw [hw1, Array.size_modify]
                have g3 : (Go.Sort.putRowK encP 2 (Go.Sort.ahead w n) b off (sortP l).toArray).heap[b]? = some (.cells (putCells id off (flatK encP 2 (sortP l).toArray) vs) e fz) := by
                  rw [hw1, Array.getElem?_modify, if_pos rfl, hheap]; rfl
                have g4 : ∀ k, k ≠ b → (Go.Sort.putRowK encP 2 (Go.Sort.ahead w n) b off (sortP l).toArray).heap[k]? = w.heap[k]? := fun k hk => by
                  rw [hw1, Array.getElem?_modify, if_neg (Ne.symm hk)]
                have g5 : (putCells id off (flatK encP 2 (sortP l).toArray) vs).size = vs.size := by simp [putCells]
                have hus : ∀ {M : Nat → Prop} {w' : World} {μ' : Mu}, VRels M w' μ' (en2 (sortP l)) (flatK encP 2 (sortP l).toArray).toList := fun {M w' μ'} =>
                  VRels.mk (by rw [en2_len, Array.length_toList, hF, hpl]) fun i d v hd hv => by
                    have hi : i < 2 * (sortP l).length := by rw [← en2_len]; exact (List.getElem?_eq_some_iff.1 hd).1
                    rw [en2_get _ _ hi] at hd
                    cases hd
                    have hf := flat_get (sortP l) i hi
                    rw [Array.getElem?_toList, Array.getElem?_eq_getElem (by rw [hF]; omega)] at hv
                    cases hv
                    rw [getElem!_pos _ i (by rw [hF]; omega)] at hf
                    rw [hf]; simp only [VRel]
                have hnag := en2_nag (sortP l)
                have hdl : (en2 (sortP l)).length = 2 * l.length := by rw [en2_len, hpl]
                have hlive : (sget s nm).isSome = true := by rw [hblk]; rfl
                have hw : ∀ (blk' : Blk), (Ext (Mm M0 μ) w (Mm M0 μ) (Go.Sort.putRowK encP 2 (Go.Sort.ahead w n) b off (sortP l).toArray) → BRel E.P (Mm M0 μ) (Go.Sort.putRowK encP 2 (Go.Sort.ahead w n) b off (sortP l).toArray) μ nm blk') →
                    Back E M0 w0 μ w c s (.ret (.tup [])) (sset s nm blk') c (.returned (.tuple #[])) (Go.Proofs.sortWorldK encP 2 w b off n (sortP l).toArray os) := fun blk' hB => by
                  obtain ⟨hx, hR, hF1⟩ := Rel.write (show Rel E M0 w0 0 μ ⟨#[], []⟩ w ⟨.ls [], s, c, [], none⟩ from h) nm blk' loc b (x' := ⟨.ls [], sset s nm blk', c, [], none⟩) hl hlb hlive g2 g4 (fun _ => rfl) (fun k => by rw [sget_sset]) rfl rfl hB
                  obtain ⟨hR2, hF2⟩ := Rel.more hR (w' := Go.Proofs.sortWorldK encP 2 w b off n (sortP l).toArray os) (by
                    show _ ≤ (_ ++ os).size
                    rw [Array.size_append]; exact Nat.le_add_right _ _) ⟨rfl, rfl⟩ (fun q hq => by
                    show (_ ++ os)[q]? = _
                    rw [Array.getElem?_append_left hq])
                  exact ⟨μ, hR2, hF1.trans hF2, _, rfl, by simp only [VRel]; exact ⟨#[], rfl, by simp only [VRels]⟩⟩
                unfold stB at hst
                rw [hnag, cond_false] at hst
                have hB0 := h.st nm blk loc hl hblk
                cases blk with
                | fix ty cs0 =>
                  simp only [blkCells, Option.some.injEq] at hcs
                  subst hcs
                  cases hle2 : Nat.ble (off + (en2 (sortP l)).length) cs0.length <;> simp only [hle2, cond_true, cond_false, reduceCtorEq, Option.some.injEq] at hst
                  subst hst
                  have hle3 := Nat.le_of_ble_eq_true hle2
                  rw [hdl] at hle3
                  obtain ⟨l2, b2, vs2, e2, fz2, p1, p2, p3, p4, p5, p6, p7, p8⟩ := hB0
                  rw [hl] at p1; cases p1; rw [hlb] at p2; cases p2; rw [hheap] at p5; cases p5
                  exact hw (.fix ty (setAt cs0 off (en2 (sortP l)))) fun hx => ⟨loc, b, _, e, fz, hl, hlb, by rw [setAt_length]; exact p3, p4, g3, by rw [g5]; exact p6, by
                    rw [putCells_setAt _ _ _ (by rw [hF]; omega)]
                    exact VRels.setAt off (VRels.mono hx _ _ (muLe.refl _) p7) hus, p8⟩
                | grow ty cs0 =>
                  simp only [blkCells, Option.some.injEq] at hcs
                  subst hcs
                  cases hle2 : Nat.ble (off + (en2 (sortP l)).length) cs0.length <;> simp only [hle2, cond_true, cond_false, reduceCtorEq, Option.some.injEq] at hst
                  subst hst
                  have hle3 := Nat.le_of_ble_eq_true hle2
                  rw [hdl] at hle3
                  obtain ⟨l2, p1, hh⟩ := hB0
                  rw [hl] at p1; cases p1
                  rcases hh with ⟨p2, _⟩ | ⟨b2, vs2, e2, fz2, p2, p4, p5, p6, p7, p8, p9, p10⟩
                  · rw [hlb] at p2; cases p2
                  rw [hlb] at p2; cases p2; rw [hheap] at p5; cases p5
                  exact hw (.grow ty (setAt cs0 off (en2 (sortP l)))) fun hx => ⟨loc, hl, .inr ⟨b, _, e, fz, hlb, p4, g3, by rw [g5]; exact p6, by rw [g5]; exact p7, by rw [setAt_length]; exact p8, by
                    rw [putCells_setAt _ _ _ (by rw [hF]; omega), setAt_length, setAt_take _ _ _ _ (by rw [Array.length_toList, hF]; exact hle3)]
                    exact VRels.setAt off (VRels.mono hx _ _ (muLe.refl _) p9) hus, p10⟩⟩
                | _ => simp [blkCells] at hcs
              · cases hs1
            · cases hs1
          · cases hs1
        · cases hs1
      · cases hs
    · cases hs
  · cases hs
end
end Zv
