/- What functions come to: the other check of a lattice says the same. Conditions: none. -/
import Derived.Test.YtnpoohbeicakkaaGreatDoorLA
import Derived.Test.YtnpoohbeicakkaaGreatDoorCA
set_option linter.unusedVariables false
set_option linter.unusedSimpArgs false
set_option maxRecDepth 100000
namespace Zv
open Go
noncomputable section
theorem nearD_congr {f g : Nat → Nat} {n a b : Nat} (h : ∀ c, c < n → f c = g c) (ha : a < n) (hb : b < n) : nearD f n a b = nearD g n a b := by
  unfold nearD
  refine scan_congr fun c _ hc => ?_
  unfold nearP
  rw [h a ha, h b hb, h c (by omega)]
theorem down_uM (n : Nat) (us : List Nat) {i : Nat} (h : i < n) : uM (downL n us) i = dnM (uM us) n n i := by
  show (downL n us).getD i 0 = _
  unfold downL; rw [lgetD (by simpa using h)]; simp only [List.getElem_map, List.getElem_range]
theorem down_bytes {n : Nat} (us : List Nat) (h : n ≤ 8) : Bytes8 (downL n us) := fun u hu => by
  obtain ⟨i, _, rfl⟩ := List.mem_map.1 hu
  exact dnM_u8 i h
theorem down_len (n : Nat) (us : List Nat) : (downL n us).length = n := by simp [downL]
theorem c54 (n : Nat) {ss : List (List UInt8)} {us : List Nat} {d e : D} (hd : Sl 1 strC ss d) (he : Sl 1 u8C us e) (hu : Bytes8 us) (hs : Small ss) : cl (n + 3) 54 [.agg [d, e]] = some (CHK ss us, true) := by
  rw [cl_run (A := A54) rfl (n + 3) _ rfl, show A54.body = B54 from rfl]
  simp only [B54, Ab.abq]
  rcases namesD_cases ss with ⟨h1, h2⟩ | ⟨h1, a, er, h2, h3⟩
  · have hn := namesB_iff.1 h1
    by_cases hl : us.length = ss.length
    · simp only [start_eq, argTm, ex, exb, ↓reduceIte, Nat.reduceEqDiff, Nat.reduceAdd, Nat.reduceLeDiff, reduceCtorEq, beq_self_eq_true, eq_true (show (((us.length : Nat) : Int) = (ss.length : Nat)) by omega), ne_eq, eq_self, not_true_eq_false, not_false_eq_true, hd.len, he.len, hd.nag, he.nag, fn_pure (f := 102) rfl, ex_call, hd.fz, c102 n hd hs, h2, namesD_e2]
      generalize hz : zloop KK _ _ = rl
      refine zfor rl hz ss.length (KK_lt (by omega)) (by omega) (fun i t s c => sget s 0 = some (.fix 26 [d, e]) ∧ tget t 1 = .ptr 0 0 ∧ tget t 6 = .int .i64 (ss.length : Nat) ∧ ∀ j, j < i → ordP ss.length (uM us) j = none) (by simp [ex_val]) (by simp [ex_val]) ?_
      rintro i t s c hi ⟨s0, q1, q6, hb⟩ q7
      by_cases hlt : i < ss.length
      · cases ho : ordB ss.length (uM us) i
        · simp only [start_eq, argTm, exq, ex_ls0, exb, ↓reduceIte, Nat.reduceEqDiff, Nat.reduceAdd, Nat.reduceLeDiff, reduceCtorEq, beq_self_eq_true, hd.len, he.len, hd.fz, he.fz, s0, q1, q6, q7, lt_dec hlt, fn_pure (f := 103) rfl, ex_call, c103 (n + 1) hd he hu hn.1.2 hl hlt, ho, A54]
          rw [CHK, if_pos h1, if_pos hl, ordD, scan_at hlt (by rw [ordP, ho]; rfl) hb]; rfl
        · simp only [start_eq, argTm, exq, ex_ls0, exb, ↓reduceIte, Nat.reduceEqDiff, Nat.reduceAdd, Nat.reduceLeDiff, reduceCtorEq, beq_self_eq_true, hd.len, he.len, hd.fz, he.fz, s0, q1, q6, q7, lt_dec hlt, fn_pure (f := 103) rfl, ex_call, c103 (n + 1) hd he hu hn.1.2 hl hlt, ho]
          exact ⟨hlt, trivial, trivial, trivial, trivial, trivial, trivial, none_step hb (by rw [ordP, ho]; rfl)⟩
      · have e1 : i = ss.length := by omega
        subst e1
        have hCHK : CHK ss us = latD ss.length (uM us) := by rw [CHK, if_pos h1, if_pos hl, ordD, scan_end hb]
        rw [hCHK]
        simp only [start_eq, argTm, exq, ex_ls0, exb, ↓reduceIte, Nat.reduceEqDiff, Nat.reduceAdd, Nat.reduceLeDiff, reduceCtorEq, beq_self_eq_true, hd.len, he.len, hd.fz, he.fz, s0, q1, q6, q7, ge_dec (Nat.le_refl ss.length), fn_pure (f := 51) rfl, ex_call, c51 (n + 1) hd he hu hn.1.2 hl]
        generalize hz2 : zloop KK _ _ = rl2
        have hS8 : Sl 1 u8C (downL ss.length us) (.sl true ss.length (cells8 (dnM (uM us) ss.length ss.length) ss.length)) := Sl8 _ _
        generalize hdw : D.sl true ss.length (cells8 (dnM (uM us) ss.length ss.length) ss.length) = dw at hS8 hz2
        refine zfor rl2 hz2 ss.length (KK_lt (by omega)) (by omega) (fun i t s c => sget s 0 = some (.fix 26 [d, e]) ∧ tget t 1 = .ptr 0 0 ∧ tget t 6 = .int .i64 (ss.length : Nat) ∧ tget t 8 = dw ∧ ∀ j, j < i → latP ss.length (uM us) j = none) (by simp [ex_val]) (by simp [ex_val, s0, q1, q6]) ?_
        rintro i t s c hi ⟨s0, q1, q6, q8, hb2⟩ q9
        by_cases hlt : i < ss.length
        · simp only [start_eq, argTm, ex, exb, ↓reduceIte, Nat.reduceEqDiff, Nat.reduceAdd, Nat.reduceLeDiff, reduceCtorEq, beq_self_eq_true, s0, q1, q6, q8, q9, lt_dec hlt]
          generalize hz3 : zloop KK _ _ = rl3
          refine zfor rl3 hz3 ss.length (KK_lt (by omega)) (by omega) (fun j t s c => sget s 0 = some (.fix 26 [d, e]) ∧ tget t 1 = .ptr 0 0 ∧ tget t 6 = .int .i64 (ss.length : Nat) ∧ tget t 8 = dw ∧ tget t 9 = .int .i64 (i : Nat) ∧ ∀ k, k < j → lat2 ss.length (uM us) i k = true) (by simp [ex_val]) (by simp [ex_val, s0, q1, q6, q8, q9]) ?_
          rintro j t s c hj ⟨s0, q1, q6, q8, q9, hob⟩ q10
          by_cases hjl : j < ss.length
          · have hbad : lat2 ss.length (uM us) i j = false → latD ss.length (uM us) = e2 i 4 := fun h => by
              rw [latD, scan_at hlt (by rw [latP, latB, allN_not hjl h]; rfl) hb2]
            have r1 := c52 (n + 2) he hu (by omega) (show i < us.length by omega) (show j < us.length by omega)
            have r2 := c52 (n + 2) hS8 (down_bytes us hn.1.2) (by rw [down_len]; omega) (show i < (downL ss.length us).length by rw [down_len]; omega) (show j < (downL ss.length us).length by rw [down_len]; omega)
            rw [hl] at r1
            rw [down_len, nearD_congr (fun c hc => down_uM _ us hc) hlt hjl] at r2
            cases hn1 : decide (nearD (uM us) ss.length i j < 0)
            · cases hn2 : decide (nearD (dnM (uM us) ss.length ss.length) ss.length i j < 0)
              · have h : lat2 ss.length (uM us) i j = true := by rw [lat2, hn1, hn2]; rfl
                simp only [start_eq, argTm, ex, exb, ↓reduceIte, Nat.reduceEqDiff, Nat.reduceAdd, Nat.reduceLeDiff, reduceCtorEq, beq_self_eq_true, s0, q1, q6, q8, q9, q10, lt_dec hjl, fn_pure (f := 52) rfl, ex_call, he.fz, hS8.fz, r1, r2, hn1, hn2]
                refine ⟨hjl, trivial, trivial, trivial, trivial, trivial, trivial, trivial, trivial, fun k hk => ?_⟩
                rcases Nat.lt_succ_iff_lt_or_eq.1 hk with h1 | rfl
                · exact hob k h1
                · exact h
              · have h : lat2 ss.length (uM us) i j = false := by rw [lat2, hn1, hn2]; rfl
                simp only [start_eq, argTm, ex, exb, ↓reduceIte, Nat.reduceEqDiff, Nat.reduceAdd, Nat.reduceLeDiff, reduceCtorEq, beq_self_eq_true, s0, q1, q6, q8, q9, q10, lt_dec hjl, fn_pure (f := 52) rfl, ex_call, he.fz, hS8.fz, r1, r2, hn1, hn2, A54]
                rw [hbad h]; rfl
            · have h : lat2 ss.length (uM us) i j = false := by rw [lat2, hn1]; rfl
              simp only [start_eq, argTm, ex, exb, ↓reduceIte, Nat.reduceEqDiff, Nat.reduceAdd, Nat.reduceLeDiff, reduceCtorEq, beq_self_eq_true, s0, q1, q6, q8, q9, q10, lt_dec hjl, fn_pure (f := 52) rfl, ex_call, he.fz, hS8.fz, r1, r2, hn1, A54]
              rw [hbad h]; rfl
          · have hp : latP ss.length (uM us) i = none := by rw [latP, latB, allN_iff.2 fun k hk => hob k (by omega)]; rfl
            simp only [start_eq, argTm, ex, exb, ↓reduceIte, Nat.reduceEqDiff, Nat.reduceAdd, Nat.reduceLeDiff, reduceCtorEq, beq_self_eq_true, s0, q1, q6, q8, q9, q10, ge_dec (show ss.length ≤ j by omega)]
            exact ⟨hlt, trivial, trivial, trivial, trivial, trivial, trivial, trivial, none_step hb2 hp⟩
        · have e1 : i = ss.length := by omega
          subst e1
          simp only [start_eq, argTm, ex, exb, ↓reduceIte, Nat.reduceEqDiff, Nat.reduceAdd, Nat.reduceLeDiff, reduceCtorEq, beq_self_eq_true, s0, q1, q6, q8, q9, ge_dec (Nat.le_refl ss.length), A54]
          rw [latD, scan_end hb2]; rfl
    · simp only [start_eq, argTm, ex, exb, ↓reduceIte, Nat.reduceEqDiff, Nat.reduceAdd, Nat.reduceLeDiff, reduceCtorEq, beq_self_eq_true, eq_false (show ¬(((us.length : Nat) : Int) = (ss.length : Nat)) by omega), ne_eq, eq_self, not_true_eq_false, not_false_eq_true, hd.len, he.len, hd.nag, he.nag, fn_pure (f := 102) rfl, ex_call, hd.fz, c102 n hd hs, h2, namesD_e2, A54]
      rw [CHK, if_pos h1, if_neg hl]; rfl
  · simp only [start_eq, argTm, ex, exb, ↓reduceIte, Nat.reduceEqDiff, Nat.reduceAdd, Nat.reduceLeDiff, reduceCtorEq, beq_self_eq_true, eq_false h3, ne_eq, not_true_eq_false, not_false_eq_true, hd.len, he.len, hd.nag, he.nag, fn_pure (f := 102) rfl, ex_call, hd.fz, c102 n hd hs, h2, namesD_e2, A54]
    rw [CHK, if_neg (by rw [h1]; decide), h2]; rfl
end
end Zv
namespace Zv
open Go
noncomputable section
-- without what a part of a row is
theorem ex_ls1 : (∀ (a : D) (l : List D), (a :: l).length = l.length + 1) ∧ (([] : List D).length = 0) ∧ (∀ (a v : D) (l : List D), (a :: l).set 0 v = v :: l) ∧ (∀ (a v : D) (l : List D) (n : Nat), (a :: l).set (n + 1) v = a :: l.set n v) ∧
    (∀ (a : D) (l : List D), (a :: l)[0]? = some a) ∧ (∀ (a : D) (l : List D) (n : Nat), (a :: l)[n + 1]? = l[n]?) ∧ (∀ (n : Nat), ([] : List D)[n]? = none) ∧ (∀ (a : D) (l : List D), (a :: l).any isAg = (isAg a || l.any isAg)) ∧ (([] : List D).any isAg = false) ∧
    (∀ (l : List D), l.drop 0 = l) ∧ (∀ (a : D) (l : List D) (n : Nat), (a :: l).drop (n + 1) = l.drop n) ∧ (∀ (l : List D), l.take 0 = []) ∧ (∀ (a : D) (l : List D) (n : Nat), (a :: l).take (n + 1) = a :: l.take n) ∧ (∀ (n : Nat), ([] : List D).take n = []) ∧ (∀ (n : Nat), ([] : List D).drop n = []) ∧
    (∀ (G : List (Nat × List D)) (t : Tm), parts G t [] = []) ∧ (∀ (G : List (Nat × List D)) (t : Tm) (o n : Nat) (a : Arg) (l : List (Nat × Nat × Arg)), parts G t ((o, n, a) :: l) = (o, n, a.ev G t) :: parts G t l) ∧
    (∀ (cs : List D), place cs [] = some cs) ∧ (∀ (cells : List D) (off n : Nat) (d : D) (r : List (Nat × Nat × D)), place cells ((off, n, d) :: r) = (match d.cells? with
      | some cs => bif Nat.beq cs.length n && Nat.ble (off + n) cells.length then place (setAt cells off cs) r else none
      | none => none)) ∧
    (∀ (ty off : Nat) (cs vs : List D), stB (.fix ty cs) off vs = bif vs.any isAg then none else bif Nat.ble (off + vs.length) cs.length then some (.fix ty (setAt cs off vs)) else none) := by
  refine ⟨fun _ _ => rfl, rfl, fun _ _ _ => rfl, fun _ _ _ _ => rfl, fun _ _ => rfl, fun _ _ _ => rfl, fun _ => rfl, fun _ _ => rfl, rfl, fun _ => rfl, fun _ _ _ => rfl, fun _ => rfl, fun _ _ _ => rfl, fun _ => List.take_nil, fun _ => List.drop_nil, fun _ _ => rfl, fun _ _ _ _ _ _ => rfl, fun _ => rfl, fun _ _ _ _ _ => rfl, fun _ _ _ _ => rfl⟩
def siteC (p : Int × Int) : List D := [.int .i64 p.1, .int .i64 p.2]
def LargeB (ss : List (List UInt8)) (us : List Nat) : Bool := (List.range (min ss.length 30)).any (fun i => decide (50 < (ss.getD i []).length)) || (decide (20 < ss.length) || decide (20 < us.length))
theorem c47 (n : Nat) {ss : List (List UInt8)} {us : List Nat} {d e : D} (hd : Sl 1 strC ss d) (he : Sl 1 u8C us e) (a : Int) :
    cl n 47 [.agg [d, e], .int .i64 a] = some (.bool (decide (0 ≤ a) && decide (a < (ss.length : Int))), true) := by
  rw [cl_run (A := A47) rfl n _ rfl, show A47.body = B47 from rfl]
  simp only [B47, Ab.abq]
  cases h : decide (0 ≤ a)
  · simp only [start_eq, argTm, ex, exb, ↓reduceIte, Nat.reduceEqDiff, Nat.reduceAdd, Nat.reduceLeDiff, reduceCtorEq, beq_self_eq_true, hd.len, hd.nag, he.nag, h, A47]; rfl
  · simp only [start_eq, argTm, ex, exb, ↓reduceIte, Nat.reduceEqDiff, Nat.reduceAdd, Nat.reduceLeDiff, reduceCtorEq, beq_self_eq_true, hd.len, hd.nag, he.nag, h, A47]; rfl
theorem c69 (n : Nat) {us : List Nat} {e : D} (he : Sl 1 u8C us e) (hl : us.length < 9223372036854775807) (a b : Nat) :
    cl n 69 [e, .int .u8 ((uM us a &&& uM us b : Nat) : Int)] = some (.int .i64 (nearD (uM us) us.length a b), true) := by
  rw [cl_run (A := A69) rfl n _ rfl, show A69.body = B69 from rfl]
  simp only [B69, Ab.abq]
  have hx : ∀ c (hc : c < us.length), us[c] = uM us c := fun c hc => (lgetD hc 0).symm
  simp only [start_eq, argTm, ex, exb, ↓reduceIte, Nat.reduceEqDiff, Nat.reduceAdd, Nat.reduceLeDiff, reduceCtorEq, beq_self_eq_true, he.len]
  generalize hz : zloop KK _ _ = rl
  refine zrange rl hz us.length (KK_lt hl) hl (fun i t s c => tget t 0 = e ∧ tget t 1 = .int .u8 ((uM us a &&& uM us b : Nat) : Int) ∧ ∀ j, j < i → nearP (uM us) a b j = none) (by decide) (by simp [ex_val]) (by simp [ex_val]) (by simp [ex_val]) ?_ ?_
  · rintro i t s c hi ⟨q0, q1, hn⟩ hti htn
    by_cases e1 : uM us a &&& uM us b = uM us i
    · have hp : nearP (uM us) a b i = some (i : Int) := by unfold nearP; rw [← e1, Nat.beq_refl]; rfl
      simp only [start_eq, argTm, ex, exb, ↓reduceIte, Nat.reduceEqDiff, Nat.reduceAdd, Nat.reduceLeDiff, reduceCtorEq, beq_self_eq_true, q0, q1, hti, htn, he.ia1 hi, he.at1 hi, u8C, hx _ hi, eq_nat, decide_eq_true e1, A69]
      unfold nearD
      rw [scan_at hi hp hn]; rfl
    · have hp : nearP (uM us) a b i = none := by unfold nearP; rw [beq_ne (Ne.symm e1)]; rfl
      simp only [start_eq, argTm, ex, exb, ↓reduceIte, Nat.reduceEqDiff, Nat.reduceAdd, Nat.reduceLeDiff, reduceCtorEq, beq_self_eq_true, q0, q1, hti, htn, he.ia1 hi, he.at1 hi, u8C, hx _ hi, eq_nat, decide_eq_false e1]
      exact ⟨trivial, trivial, trivial, .inr (.inr trivial), nofun, nofun, trivial, trivial, none_step hn hp⟩
  · rintro t s c ⟨q0, q1, hn⟩ hti htn
    simp only [start_eq, argTm, ex, exb, ↓reduceIte, Nat.reduceEqDiff, Nat.reduceAdd, Nat.reduceLeDiff, reduceCtorEq, beq_self_eq_true, q0, q1, hti, htn, A69]
    unfold nearD
    rw [scan_end hn]; rfl
def upD (us : List Nat) (a b : Nat) : Int := scan (nearP (uM us) a b) (a : Int) us.length 0
theorem c113 (n : Nat) {ss : List (List UInt8)} {us : List Nat} {d e : D} (hd : Sl 1 strC ss d) (he : Sl 1 u8C us e) (hu : Bytes8 us) (hl : us.length < 9223372036854775807) {a b : Nat} (ha : a < us.length) (hb : b < us.length) :
    cl n 113 [.agg [d, e], .int .i64 (a : Int), .int .i64 (b : Int)] = some (.int .i64 (upD us a b), true) := by
  rw [cl_run (A := A113) rfl n _ rfl, show A113.body = B113 from rfl]
  simp only [B113, Ab.abq]
  have hx : ∀ c (hc : c < us.length), us[c] = uM us c := fun c hc => (lgetD hc 0).symm
  simp only [start_eq, argTm, ex, exb, ↓reduceIte, Nat.reduceEqDiff, Nat.reduceAdd, Nat.reduceLeDiff, reduceCtorEq, beq_self_eq_true, hd.nag, he.nag]
  generalize hz : zloop KK _ _ = rl
  refine zfor rl hz us.length (KK_lt hl) hl (fun i t s c => sget s 0 = some (.fix 26 [d, e]) ∧ tget t 3 = .ptr 0 0 ∧ tget t 1 = .int .i64 (a : Nat) ∧ tget t 2 = .int .i64 (b : Nat) ∧ ∀ j, j < i → nearP (uM us) a b j = none) (by simp [ex_val]) (by simp [ex_val]) ?_
  rintro i t s c hi ⟨s0, q3, q1, q2, hn⟩ q7
  by_cases hlt : i < us.length
  · by_cases e1 : uM us i = uM us a &&& uM us b
    · have hp : nearP (uM us) a b i = some (i : Int) := by unfold nearP; rw [e1, Nat.beq_refl]; rfl
      simp only [start_eq, argTm, ex, exb, ↓reduceIte, Nat.reduceEqDiff, Nat.reduceAdd, Nat.reduceLeDiff, reduceCtorEq, beq_self_eq_true, he.len, s0, q1, q2, q3, q7, lt_dec hlt, zipO, killT, zAny_w, AOp.kd, step_mv, step_fa, step_iaS, step_ld, step_bin, List.take_zero, List.all_nil, he.ia1 ha, he.at1 ha, he.ia1 hb, he.at1 hb, he.ia1 hlt, he.at1 hlt, u8C, hx _ ha, hx _ hb, hx _ hlt, b_and_u8 (uM_lt hu a) (uM_lt hu b), eq_nat, decide_eq_true e1, A113]
      unfold upD
      rw [scan_at hlt hp hn]; rfl
    · have hp : nearP (uM us) a b i = none := by unfold nearP; rw [beq_ne e1]; rfl
      simp only [start_eq, argTm, ex, exb, ↓reduceIte, Nat.reduceEqDiff, Nat.reduceAdd, Nat.reduceLeDiff, reduceCtorEq, beq_self_eq_true, he.len, s0, q1, q2, q3, q7, lt_dec hlt, zipO, killT, zAny_w, AOp.kd, step_mv, step_fa, step_iaS, step_ld, step_bin, List.take_zero, List.all_nil, he.ia1 ha, he.at1 ha, he.ia1 hb, he.at1 hb, he.ia1 hlt, he.at1 hlt, u8C, hx _ ha, hx _ hb, hx _ hlt, b_and_u8 (uM_lt hu a) (uM_lt hu b), eq_nat, decide_eq_false e1]
      exact ⟨hlt, trivial, trivial, trivial, trivial, trivial, trivial, trivial, none_step hn hp⟩
  · have e1 : i = us.length := by omega
    subst e1
    simp only [start_eq, argTm, ex, exb, ↓reduceIte, Nat.reduceEqDiff, Nat.reduceAdd, Nat.reduceLeDiff, reduceCtorEq, beq_self_eq_true, he.len, s0, q1, q2, q3, q7, ge_dec (Nat.le_refl us.length), A113]
    unfold upD
    rw [scan_end hn]; rfl
def labP (l : List (Int × Int)) (x : Int) (i : Nat) : Option D := if (l.getD i (0, 0)).1 = x then some (e2 (l.getD i (0, 0)).2 0) else none
def labD (l : List (Int × Int)) (x : Int) : D := scan (labP l x) (e2 0 4) l.length 0
theorem c31 (n : Nat) {l : List (Int × Int)} {a : D} (ha : Sl 2 siteC l a) (hl : l.length < 9223372036854775807) (x : Int) : cl n 31 [a, .int .i64 x] = some (labD l x, true) := by
  rw [cl_run (A := A31) rfl n _ rfl, show A31.body = B31 from rfl]
  simp only [B31, Ab.abq]
  simp only [start_eq, argTm, ex, exb, ↓reduceIte, Nat.reduceEqDiff, Nat.reduceAdd, Nat.reduceLeDiff, reduceCtorEq, beq_self_eq_true, ha.len]
  generalize hz : zloop KK _ _ = rl
  refine zrange rl hz l.length (KK_lt hl) hl (fun i t s c => tget t 8 = a ∧ tget t 1 = .int .i64 x ∧ ∀ j, j < i → labP l x j = none) (by decide) (by simp [ex_val]) (by simp [ex_val]) (by simp [ex_val]) ?_ ?_
  · rintro i t s c hi ⟨q0, q1, hn⟩ hti htn
    have hrow := ha.row hi
    by_cases e1 : l[i].1 = x
    · have hp : labP l x i = some (e2 l[i].2 0) := by unfold labP; rw [lgetD hi, if_pos e1]
      simp only [start_eq, argTm, exq, ex_ls1, exb, ↓reduceIte, Nat.reduceEqDiff, Nat.reduceAdd, Nat.reduceLeDiff, reduceCtorEq, beq_self_eq_true, q0, q1, hti, htn, ha.ia hi, hrow, siteC, e1, A31]
      unfold labD
      rw [scan_at hi hp hn]; rfl
    · have hp : labP l x i = none := by unfold labP; rw [lgetD hi, if_neg e1]
      simp only [start_eq, argTm, exq, ex_ls1, exb, ↓reduceIte, Nat.reduceEqDiff, Nat.reduceAdd, Nat.reduceLeDiff, reduceCtorEq, beq_self_eq_true, q0, q1, hti, htn, ha.ia hi, hrow, siteC, decide_eq_false e1]
      exact ⟨trivial, trivial, trivial, .inr (.inr trivial), nofun, nofun, trivial, trivial, none_step hn hp⟩
  · rintro t s c ⟨q0, q1, hn⟩ hti htn
    simp only [start_eq, argTm, ex, exb, ↓reduceIte, Nat.reduceEqDiff, Nat.reduceAdd, Nat.reduceLeDiff, reduceCtorEq, beq_self_eq_true, q0, q1, hti, htn, A31]
    unfold labD
    rw [scan_end hn]; rfl
theorem c32 (n : Nat) {l : List (Int × Int)} {a : D} (ha : Sl 2 siteC l a) (hl : l.length < 9223372036854775807) (x : Int) : cl n 32 [a, .int .i64 x] = some (labD l x, true) := by
  rw [cl_run (A := A32) rfl n _ rfl, show A32.body = B32 from rfl]
  simp only [B32, Ab.abq]
  simp only [start_eq, argTm, ex, exb, ↓reduceIte, Nat.reduceEqDiff, Nat.reduceAdd, Nat.reduceLeDiff, reduceCtorEq, beq_self_eq_true]
  generalize hz : zloop KK _ _ = rl
  refine zfor rl hz l.length (KK_lt hl) hl (fun i t s c => tget t 0 = a ∧ tget t 1 = .int .i64 x ∧ ∀ j, j < i → labP l x j = none) (by simp [ex_val]) (by simp [ex_val]) ?_
  rintro i t s c hi ⟨q0, q1, hn⟩ q6
  by_cases hlt : i < l.length
  · have h0 := ha.cell hlt (show 0 < 2 by omega)
    have h1 := ha.cell hlt (show 1 < 2 by omega)
    by_cases e1 : l[i].1 = x
    · have hp : labP l x i = some (e2 l[i].2 0) := by unfold labP; rw [lgetD hlt, if_pos e1]
      simp only [start_eq, argTm, exq, ex_ls1, exb, ↓reduceIte, Nat.reduceEqDiff, Nat.reduceAdd, Nat.reduceLeDiff, reduceCtorEq, beq_self_eq_true, q0, q1, q6, ha.len, lt_dec hlt, ha.ia hlt, h0, h1, siteC, e1, A32]
      unfold labD
      rw [scan_at hlt hp hn]; rfl
    · have hp : labP l x i = none := by unfold labP; rw [lgetD hlt, if_neg e1]
      simp only [start_eq, argTm, exq, ex_ls1, exb, ↓reduceIte, Nat.reduceEqDiff, Nat.reduceAdd, Nat.reduceLeDiff, reduceCtorEq, beq_self_eq_true, q0, q1, q6, ha.len, lt_dec hlt, ha.ia hlt, h0, h1, siteC, decide_eq_false e1]
      exact ⟨hlt, trivial, trivial, trivial, trivial, trivial, none_step hn hp⟩
  · have e1 : i = l.length := by omega
    subst e1
    simp only [start_eq, argTm, exq, ex_ls1, exb, ↓reduceIte, Nat.reduceEqDiff, Nat.reduceAdd, Nat.reduceLeDiff, reduceCtorEq, beq_self_eq_true, q0, q1, q6, ha.len, ge_dec (Nat.le_refl l.length), A32]
    unfold labD
    rw [scan_end hn]; rfl
theorem cmp_site (p : Int × Int) : cmpD (.ty (.parts [(0, none, .int), (1, none, .int)])) (.agg (siteC p)) (.agg (siteC p)) = some true := by
  simp [cmpD, eqT, eqTs, takeAt, siteC]
theorem c33 (n : Nat) {l : List (Int × Int)} {a b : D} (ha : Sl 2 siteC l a) (hb : Sl 2 siteC l b) (hl : l.length < 9223372036854775807) : cl n 33 [a, b] = some (.bool true, true) := by
  rw [cl_run (A := A33) rfl n _ rfl, show A33.body = B33 from rfl]
  simp only [B33, Ab.abq]
  simp only [start_eq, argTm, ex, exb, ↓reduceIte, Nat.reduceEqDiff, Nat.reduceAdd, Nat.reduceLeDiff, reduceCtorEq, beq_self_eq_true]
  generalize hz : zloop KK _ _ = rl
  refine zfor rl hz l.length (KK_lt hl) hl (fun i t s c => tget t 0 = a ∧ tget t 1 = b) (by simp [ex_val]) (by simp [ex_val]) ?_
  rintro i t s c hi ⟨q0, q1⟩ q5
  by_cases hlt : i < l.length
  · have h0 := ha.row hlt
    have h1 := hb.row hlt
    simp only [start_eq, argTm, exq, ex_ls1, exb, ↓reduceIte, Nat.reduceEqDiff, Nat.reduceAdd, Nat.reduceLeDiff, reduceCtorEq, beq_self_eq_true, q0, q1, q5, ha.len, hb.len, lt_dec hlt, zipO, killT, zAny_w, AOp.kd, step_mv, step_fa, step_iaS, step_ld, step_bin, step_cmp, List.take_zero, List.all_nil, ha.ia hlt, hb.ia hlt, h0, h1, cmp_site]
    exact ⟨hlt, trivial, trivial, trivial, trivial, trivial⟩
  · simp only [start_eq, argTm, exq, ex_ls1, exb, ↓reduceIte, Nat.reduceEqDiff, Nat.reduceAdd, Nat.reduceLeDiff, reduceCtorEq, beq_self_eq_true, q0, q1, q5, ha.len, hb.len, ge_dec (show l.length ≤ i by omega), A33]
    rfl
def ordP2 (l : List (Int × Int)) (i : Nat) : Option D := if 0 < i ∧ (l.getD i (0, 0)).1 ≤ (l.getD (i - 1) (0, 0)).1 then some (.int .i64 6) else none
def rngP (n : Nat) (l : List (Int × Int)) (i : Nat) : Option D := bif decide (0 ≤ (l.getD i (0, 0)).2) && decide ((l.getD i (0, 0)).2 < (n : Int)) then none else some (.int .i64 7)
def sitesD (n : Nat) (l : List (Int × Int)) : D := scan (ordP2 l) (scan (rngP n l) (.int .i64 0) l.length 0) l.length 0
theorem c70 (n : Nat) {ss : List (List UInt8)} {us : List Nat} {d e : D} (hd : Sl 1 strC ss d) (he : Sl 1 u8C us e) {l : List (Int × Int)} {a : D} (ha : Sl 2 siteC l a) (hl : l.length < 9223372036854775807) :
    cl (n + 1) 70 [.agg [d, e], a] = some (sitesD ss.length l, true) := by
  rw [cl_run (A := A70) rfl (n + 1) _ rfl, show A70.body = B70 from rfl]
  simp only [B70, Ab.abq]
  simp only [start_eq, argTm, ex, exb, ↓reduceIte, Nat.reduceEqDiff, Nat.reduceAdd, Nat.reduceLeDiff, reduceCtorEq, beq_self_eq_true, hd.nag, he.nag]
  generalize hz : zloop KK _ _ = rl
  refine zfor rl hz l.length (KK_lt hl) hl (fun i t s c => sget s 0 = some (.fix 26 [d, e]) ∧ tget t 2 = .ptr 0 0 ∧ tget t 1 = a ∧ ∀ j, j < i → ordP2 l j = none) (by simp [ex_val]) (by simp [ex_val]) ?_
  rintro i t s c hi ⟨s0, q2, q1, hn⟩ q5
  by_cases hlt : i < l.length
  · cases h0 : decide ((0 : Int) < (i : Int))
    · have hp : ordP2 l i = none := by unfold ordP2; rw [if_neg (by rw [decide_eq_false_iff_not] at h0; omega)]
      simp only [start_eq, argTm, exq, ex_ls1, exb, ↓reduceIte, Nat.reduceEqDiff, Nat.reduceAdd, Nat.reduceLeDiff, reduceCtorEq, beq_self_eq_true, s0, q1, q2, q5, ha.len, lt_dec hlt, h0, zipO, killT, zAny_w, zAny_g, AOp.kd, step_mv, step_pick, step_fa, step_iaS, step_ld, step_bin, step_cmp, List.take_zero, List.all_nil]
      exact ⟨hlt, trivial, trivial, trivial, trivial, trivial, trivial, none_step hn hp⟩
    · have hi0 : 0 < i := by rw [decide_eq_true_eq] at h0; omega
      have hlt2 : i - 1 < l.length := by omega
      have hw : wrapD .i64 ((i : Int) - 1) = ((i - 1 : Nat) : Int) := by rw [wrapD_i64 (by omega) (by omega)]; omega
      have g0 := ha.cell hlt (show 0 < 2 by omega)
      have g1 := ha.cell hlt2 (show 0 < 2 by omega)
      cases hle : decide (l[i].1 ≤ l[i - 1].1)
      · have hp : ordP2 l i = none := by unfold ordP2; rw [lgetD hlt, lgetD hlt2, if_neg (by rw [decide_eq_false_iff_not] at hle; omega)]
        simp only [start_eq, argTm, exq, ex_ls1, exb, ↓reduceIte, Nat.reduceEqDiff, Nat.reduceAdd, Nat.reduceLeDiff, reduceCtorEq, beq_self_eq_true, s0, q1, q2, q5, ha.len, lt_dec hlt, h0, zipO, killT, zAny_w, zAny_g, AOp.kd, step_mv, step_pick, step_fa, step_iaS, step_ld, step_bin, step_cmp, List.take_zero, List.all_nil, ha.ia hlt, ha.ia hlt2, hw, g0, g1, siteC, hle]
        exact ⟨hlt, trivial, trivial, trivial, trivial, trivial, trivial, none_step hn hp⟩
      · have hp : ordP2 l i = some (.int .i64 6) := by unfold ordP2; rw [lgetD hlt, lgetD hlt2, if_pos (by rw [decide_eq_true_eq] at hle; omega)]
        simp only [start_eq, argTm, exq, ex_ls1, exb, ↓reduceIte, Nat.reduceEqDiff, Nat.reduceAdd, Nat.reduceLeDiff, reduceCtorEq, beq_self_eq_true, s0, q1, q2, q5, ha.len, lt_dec hlt, h0, zipO, killT, zAny_w, zAny_g, AOp.kd, step_mv, step_pick, step_fa, step_iaS, step_ld, step_bin, step_cmp, List.take_zero, List.all_nil, ha.ia hlt, ha.ia hlt2, hw, g0, g1, siteC, hle, A70]
        unfold sitesD
        rw [scan_at hlt hp hn]; rfl
  · have e1 : i = l.length := by omega
    subst e1
    have hS : sitesD ss.length l = scan (rngP ss.length l) (.int .i64 0) l.length 0 := by unfold sitesD; rw [scan_end hn]
    rw [hS]
    simp only [start_eq, argTm, exq, ex_ls1, exb, ↓reduceIte, Nat.reduceEqDiff, Nat.reduceAdd, Nat.reduceLeDiff, reduceCtorEq, beq_self_eq_true, s0, q1, q2, q5, ha.len, ge_dec (Nat.le_refl l.length)]
    generalize hz2 : zloop KK _ _ = rl2
    refine zfor rl2 hz2 l.length (KK_lt hl) hl (fun i t s c => sget s 0 = some (.fix 26 [d, e]) ∧ tget t 2 = .ptr 0 0 ∧ tget t 1 = a ∧ ∀ j, j < i → rngP ss.length l j = none) (by simp [ex_val]) (by simp [ex_val, s0, q1, q2]) ?_
    rintro i t s c hi ⟨s0, q2, q1, hn⟩ q6
    by_cases hlt : i < l.length
    · have g1 := ha.cell hlt (show 1 < 2 by omega)
      have htk : takeAt [d, e] 0 (some 2) = some (.agg [d, e]) := rfl
      cases hr : decide (0 ≤ l[i].2) && decide (l[i].2 < (ss.length : Int))
      · have hp : rngP ss.length l i = some (.int .i64 7) := by unfold rngP; rw [lgetD hlt, hr]; rfl
        simp only [start_eq, argTm, exq, ex_ls1, exb, ↓reduceIte, Nat.reduceEqDiff, Nat.reduceAdd, Nat.reduceLeDiff, reduceCtorEq, beq_self_eq_true, s0, q1, q2, q6, ha.len, lt_dec hlt, htk, zipO, killT, zAny_w, zAny_g, AOp.kd, step_mv, step_un, step_pick, step_fa, step_iaS, step_ld, step_bin, step_cmp, List.take_zero, List.all_nil, ha.ia hlt, g1, siteC, fn_pure (f := 47) rfl, ex_call, hd.fz, he.fz, c47 n hd he, hr, A70]
        rw [scan_at hlt hp hn]; rfl
      · have hp : rngP ss.length l i = none := by unfold rngP; rw [lgetD hlt, hr]; rfl
        simp only [start_eq, argTm, exq, ex_ls1, exb, ↓reduceIte, Nat.reduceEqDiff, Nat.reduceAdd, Nat.reduceLeDiff, reduceCtorEq, beq_self_eq_true, s0, q1, q2, q6, ha.len, lt_dec hlt, htk, zipO, killT, zAny_w, zAny_g, AOp.kd, step_mv, step_un, step_pick, step_fa, step_iaS, step_ld, step_bin, step_cmp, List.take_zero, List.all_nil, ha.ia hlt, g1, siteC, fn_pure (f := 47) rfl, ex_call, hd.fz, he.fz, c47 n hd he, hr]
        exact ⟨hlt, trivial, trivial, trivial, trivial, trivial, trivial, none_step hn hp⟩
    · have e1 : i = l.length := by omega
      subst e1
      simp only [start_eq, argTm, exq, ex_ls1, exb, ↓reduceIte, Nat.reduceEqDiff, Nat.reduceAdd, Nat.reduceLeDiff, reduceCtorEq, beq_self_eq_true, s0, q1, q2, q6, ha.len, ge_dec (Nat.le_refl l.length), A70]
      rw [scan_end hn]; rfl
end
end Zv
namespace Zv
open Go
noncomputable section
def putAt (l : List (Int × Int)) (x : Int) : Nat := match l with
  | [] => 0
  | p :: r => if p.1 < x then putAt r x + 1 else 0
theorem putAt_le : ∀ (l : List (Int × Int)) (x : Int), putAt l x ≤ l.length
  | [], x => Nat.le_refl 0
  | p :: r, x => by
    unfold putAt
    split
    · have := putAt_le r x; simp only [List.length_cons]; omega
    · exact Nat.zero_le _
theorem putAt_lt : ∀ (l : List (Int × Int)) (x : Int) (j : Nat) (h : j < l.length), j < putAt l x → l[j].1 < x
  | p :: r, x, 0, h, hj => by
    unfold putAt at hj
    split at hj
    · assumption
    · omega
  | p :: r, x, j + 1, h, hj => by
    unfold putAt at hj
    split at hj
    · simp only [List.getElem_cons_succ]
      exact putAt_lt r x j (by simpa using h) (by omega)
    · omega
theorem putAt_ge : ∀ (l : List (Int × Int)) (x : Int) (h : putAt l x < l.length), ¬ l[putAt l x].1 < x
  | p :: r, x, h => by
    by_cases hp : p.1 < x
    · have e : putAt (p :: r) x = putAt r x + 1 := by rw [putAt, if_pos hp]
      have := putAt_ge r x (by simp only [List.length_cons] at h; omega)
      simp only [e, List.getElem_cons_succ]
      exact this
    · have e : putAt (p :: r) x = 0 := by rw [putAt, if_neg hp]
      simp only [e, List.getElem_cons_zero]
      exact hp
theorem putAt_uniq {l : List (Int × Int)} {x : Int} {i : Nat} (hi : i ≤ l.length) (h1 : ∀ j (h : j < l.length), j < i → l[j].1 < x) (h2 : ∀ h : i < l.length, ¬ l[i].1 < x) : i = putAt l x := by
  rcases Nat.lt_trichotomy i (putAt l x) with h | h | h
  · have := putAt_le l x
    exact absurd (putAt_lt l x i (by omega) h) (h2 (by omega))
  · exact h
  · have : putAt l x < l.length := by omega
    exact absurd (h1 _ this h) (putAt_ge l x this)
theorem c28 (n : Nat) {ss : List (List UInt8)} {us : List Nat} {d e : D} (hd : Sl 1 strC ss d) (he : Sl 1 u8C us e) :
    cl n 28 [.agg [d, e]] = some (.bool (LargeB ss us), true) := by
  rw [cl_run (A := A28) rfl n _ rfl, show A28.body = B28 from rfl]
  simp only [B28, Ab.abq]
  simp only [start_eq, argTm, ex, exb, ↓reduceIte, Nat.reduceEqDiff, Nat.reduceAdd, Nat.reduceLeDiff, reduceCtorEq, beq_self_eq_true, hd.nag, he.nag]
  generalize hz : zloop KK _ _ = rl
  refine zfor rl hz (min ss.length 30) (KK_lt (by omega)) (by omega) (fun i t s c => sget s 0 = some (.fix 26 [d, e]) ∧ tget t 1 = .ptr 0 0 ∧ ∀ j, j < i → decide (50 < (ss.getD j []).length) = false) (by simp [ex_val]) (by simp [ex_val]) ?_
  rintro i t s c hi ⟨s0, q1, hn⟩ q3
  by_cases hlt : i < min ss.length 30
  · have hl1 : i < ss.length := by omega
    have h30 : decide ((i : Int) < 30) = true := by rw [decide_eq_true_eq]; omega
    cases h50 : decide ((50 : Int) < ((ss[i]).length : Int))
    · have h : decide (50 < (ss.getD i []).length) = false := by rw [lgetD hl1]; rw [decide_eq_false_iff_not] at h50 ⊢; omega
      simp only [start_eq, argTm, ex, exb, ↓reduceIte, Nat.reduceEqDiff, Nat.reduceAdd, Nat.reduceLeDiff, reduceCtorEq, beq_self_eq_true, s0, q1, q3, hd.len, lt_dec hl1, h30, hd.ia1 hl1, hd.at1 hl1, strC, h50]
      refine ⟨hlt, trivial, trivial, trivial, trivial, trivial, fun j hj => ?_⟩
      rcases Nat.lt_succ_iff_lt_or_eq.1 hj with h1 | rfl
      · exact hn j h1
      · exact h
    · have h : decide (50 < (ss.getD i []).length) = true := by rw [lgetD hl1]; rw [decide_eq_true_eq] at h50 ⊢; omega
      simp only [start_eq, argTm, ex, exb, ↓reduceIte, Nat.reduceEqDiff, Nat.reduceAdd, Nat.reduceLeDiff, reduceCtorEq, beq_self_eq_true, s0, q1, q3, hd.len, lt_dec hl1, h30, hd.ia1 hl1, hd.at1 hl1, strC, h50, A28]
      have : LargeB ss us = true := by
        rw [LargeB, List.any_eq_true.2 ⟨i, List.mem_range.2 hlt, h⟩]; rfl
      rw [this]; rfl
  · have e1 : i = min ss.length 30 := by omega
    have hany : (List.range (min ss.length 30)).any (fun i => decide (50 < (ss.getD i []).length)) = false := by
      rw [List.any_eq_false]
      intro j hj
      rw [hn j (by rw [e1]; exact List.mem_range.1 hj)]; decide
    have hstop : decide ((i : Int) < (ss.length : Int)) = false ∨ (decide ((i : Int) < (ss.length : Int)) = true ∧ decide ((i : Int) < 30) = false) := by
      by_cases h : i < ss.length
      · exact .inr ⟨lt_dec h, by rw [decide_eq_false_iff_not]; omega⟩
      · exact .inl (ge_dec (by omega))
    have h20 : decide ((20 : Int) < (ss.length : Int)) = decide (20 < ss.length) := by rw [Bool.eq_iff_iff, decide_eq_true_eq, decide_eq_true_eq]; omega
    have h21 : decide ((20 : Int) < (us.length : Int)) = decide (20 < us.length) := by rw [Bool.eq_iff_iff, decide_eq_true_eq, decide_eq_true_eq]; omega
    rw [LargeB, hany, Bool.false_or]
    cases h22 : decide (20 < ss.length)
    · rcases hstop with hs | ⟨hs, hs2⟩
      · simp only [start_eq, argTm, ex, exb, ↓reduceIte, Nat.reduceEqDiff, Nat.reduceAdd, Nat.reduceLeDiff, reduceCtorEq, beq_self_eq_true, s0, q1, q3, hd.len, he.len, hs, h20, h21, h22, A28]; rfl
      · simp only [start_eq, argTm, ex, exb, ↓reduceIte, Nat.reduceEqDiff, Nat.reduceAdd, Nat.reduceLeDiff, reduceCtorEq, beq_self_eq_true, s0, q1, q3, hd.len, he.len, hs, hs2, h20, h21, h22, A28]; rfl
    · rcases hstop with hs | ⟨hs, hs2⟩
      · simp only [start_eq, argTm, ex, exb, ↓reduceIte, Nat.reduceEqDiff, Nat.reduceAdd, Nat.reduceLeDiff, reduceCtorEq, beq_self_eq_true, s0, q1, q3, hd.len, he.len, hs, h20, h21, h22, A28]; rfl
      · simp only [start_eq, argTm, ex, exb, ↓reduceIte, Nat.reduceEqDiff, Nat.reduceAdd, Nat.reduceLeDiff, reduceCtorEq, beq_self_eq_true, s0, q1, q3, hd.len, he.len, hs, hs2, h20, h21, h22, A28]; rfl
end
end Zv
namespace Zv
open Go
noncomputable section
theorem en2_flat : ∀ (l : List (Int × Int)), (l.map siteC).flatten = en2 l
  | [] => rfl
  | p :: r => by rw [List.map_cons, List.flatten_cons, en2_flat r]; rfl
theorem en2_app : ∀ (l l' : List (Int × Int)), en2 (l ++ l') = en2 l ++ en2 l'
  | [], _ => rfl
  | p :: r, l' => by rw [List.cons_append]; simp only [en2, en2_app r l', List.cons_append]
theorem Sl.sc2 {l : List (Int × Int)} {a : D} (ha : Sl 2 siteC l a) (s : St) : sliceCells s 2 a = some (en2 l, l.length) := by
  obtain ⟨_, ⟨rfl, h⟩ | ⟨ex, rfl⟩⟩ := ha
  · rw [List.map_eq_nil_iff] at h; subst h; rfl
  · simp only [sliceCells, List.length_map, en2_flat]
    rw [Nat.ble_eq_true_of_le (by rw [en2_len]; omega), cond_true, List.take_of_length_le (by rw [en2_len]; omega)]
def OwnS (B : Nat) (s : St) (q : D) (l : List (Int × Int)) : Prop :=
  (∃ m, B ≤ m ∧ q = .ms m 0 2 0 0 ∧ sget s m = some (.fix 0 []) ∧ l = []) ∨ (∃ m ty, B ≤ m ∧ q = .gs m 0 2 l.length ∧ sget s m = some (.grow ty (en2 l)) ∧ l ≠ [])
theorem OwnS.frz (p : Bool) {B : Nat} {s : St} {q : D} {l : List (Int × Int)} (h : OwnS B s q l) : ∃ r, (∀ k, Zv.frz p (k + 2) s q = some r) ∧ Sl 2 siteC l r := by
  have hm : ∀ (l : List (Int × Int)) (k : Nat), (en2 l).mapM (Zv.frz p (k + 1) s) = some (en2 l) := fun l k => by
    induction l with
    | nil => rfl
    | cons p r ih => simp only [en2, List.mapM_cons, ih]; rfl
  rcases h with ⟨m, _, rfl, hs, rfl⟩ | ⟨m, ty, _, rfl, hs, hne⟩
  · exact ⟨.sl true 0 [], fun k => by rw [frz_ms, hs]; rfl, fun r hr => by simp at hr, .inr ⟨true, rfl⟩⟩
  · refine ⟨.sl false l.length (en2 l), ?_, fun r hr => ?_, .inr ⟨false, by rw [en2_flat, List.length_map]⟩⟩
    · intro k
      rw [frz_gs, hs]
      simp only [Nat.zero_add, List.drop_zero]
      rw [Nat.ble_eq_true_of_le (by rw [en2_len]; omega), cond_true, List.take_of_length_le (by rw [en2_len]; omega), hm]; rfl
    · obtain ⟨p, _, rfl⟩ := List.mem_map.1 hr; rfl
theorem own_app {B : Nat} {x : AS} {q b : D} {l l' : List (Int × Int)} (h : OwnS B x.s q l) (hb : sliceCells x.s 2 b = some (en2 l', l'.length)) (hlen : l.length + l'.length ≤ 4294967296) (hc : B ≤ x.c) (hfr : ∀ m, x.c ≤ m → sget x.s m = none) :
    ∃ q' s' c', appD x 2 16 50 q b = some (q', ⟨x.t, s', c', x.d, x.r⟩) ∧ OwnS B s' q' (l ++ l') ∧ x.c ≤ c' ∧ (∀ nm, nm < B → sget s' nm = sget x.s nm) ∧ ∀ m, c' ≤ m → sget s' m = none := by
  unfold appD
  rw [hb]
  simp only [Option.bind_eq_bind, Option.bind_some]
  rcases h with ⟨m, hm, rfl, hs, rfl⟩ | ⟨m, ty, hm, rfl, hs, hne⟩
  · simp only [hs, Nat.beq_refl, cond_true, Nat.zero_add, Nat.zero_mul, List.drop_zero, List.take_zero, List.nil_append, List.length_nil]
    cases l' with
    | nil =>
      refine ⟨.ms m 0 2 0 0, sset x.s m (.fix 0 []), x.c, rfl, .inl ⟨m, hm, rfl, by rw [sget_sset, if_pos rfl], rfl⟩, Nat.le_refl _, fun nm hn => by rw [sget_sset, if_neg (by omega)], fun k hk => by
        have hmc : m < x.c := Nat.lt_of_not_le fun h => by rw [hfr m h] at hs; cases hs
        rw [sget_sset, if_neg (by omega)]; exact hfr k hk⟩
    | cons p r =>
      have hr : room (p :: r).length 16 = true := by
        unfold room; rw [Nat.ble_eq_true_of_le (by simp only [List.length_nil] at hlen; omega)]; rfl
      rw [show Nat.ble (p :: r).length 0 = false from rfl, cond_false, hr]
      refine ⟨.gs x.c 0 2 (p :: r).length, sadd x.s x.c (.grow 50 (en2 (p :: r))), x.c + 1, rfl, .inr ⟨x.c, 50, hc, rfl, by rw [sget_sadd, if_pos rfl], nofun⟩, by omega, fun nm hn => by rw [sget_sadd, if_neg (by omega)], fun k hk => by rw [sget_sadd, if_neg (by omega)]; exact hfr k (by omega)⟩
  · simp only [hs]
    cases l' with
    | nil =>
      refine ⟨.gs m 0 2 l.length, x.s, x.c, rfl, .inr ⟨m, ty, hm, by rw [List.append_nil], by rw [List.append_nil]; exact hs, by rw [List.append_nil]; exact hne⟩, Nat.le_refl _, fun nm hn => rfl, hfr⟩
    | cons p r =>
      have hr : room (l.length + (p :: r).length) 16 = true := by
        unfold room; rw [Nat.ble_eq_true_of_le hlen]; rfl
      have h1 : Nat.ble (0 + (l.length + (p :: r).length) * 2) (en2 l).length = false := by
        rw [← Bool.not_eq_true, Nat.ble_eq, en2_len, List.length_cons]; omega
      have h2 : Nat.ble (l.length * 2) (en2 l).length = true := Nat.ble_eq_true_of_le (by rw [en2_len]; omega)
      have htk : (en2 l).take (l.length * 2) = en2 l := List.take_of_length_le (by rw [en2_len]; omega)
      rw [show Nat.beq (p :: r).length 0 = false from rfl, cond_false, en2_nag, Nat.beq_refl, Bool.not_false, Bool.and_true, cond_true, h1, cond_false, h2, hr, Nat.beq_refl, htk]
      simp only [Bool.and_true, cond_true]
      refine ⟨_, _, _, rfl, .inr ⟨x.c, _, hc, by rw [List.length_append], by rw [sget_sadd, if_pos rfl, en2_app], by simp⟩, Nat.le_succ _, fun nm hn => ?_, fun k hk => ?_⟩
      · rw [sget_sadd, if_neg (by omega), sget_sdel, if_neg (by omega)]
      · rw [sget_sadd, if_neg (by have : x.c + 1 ≤ k := hk; omega), sget_sdel]
        split
        · rfl
        · exact hfr k (by have : x.c + 1 ≤ k := hk; omega)
end
end Zv
namespace Zv
open Go Ab
noncomputable section
theorem own_app_of {B : Nat} {x : AS} {q b : D} {l l' : List (Int × Int)} {A : Option (D × AS)} (hA : appD x 2 16 50 q b = A) (h : OwnS B x.s q l) (hb : sliceCells x.s 2 b = some (en2 l', l'.length)) (hlen : l.length + l'.length ≤ 4294967296) (hc : B ≤ x.c) (hfr : ∀ m, x.c ≤ m → sget x.s m = none) :
    ∃ q' s' c', A = some (q', ⟨x.t, s', c', x.d, x.r⟩) ∧ OwnS B s' q' (l ++ l') ∧ x.c ≤ c' ∧ (∀ nm, nm < B → sget s' nm = sget x.s nm) ∧ ∀ m, c' ≤ m → sget s' m = none := by
  subst hA; exact own_app h hb hlen hc hfr
theorem OwnS.mono {B : Nat} {s s' : St} {q : D} {l : List (Int × Int)} (h : OwnS B s q l) (hs : ∀ m b, B ≤ m → sget s m = some b → sget s' m = some b) : OwnS B s' q l := by
  rcases h with ⟨m, h1, h2, h3, h4⟩ | ⟨m, ty, h1, h2, h3, h4⟩
  · exact .inl ⟨m, h1, h2, hs _ _ h1 h3, h4⟩
  · exact .inr ⟨m, ty, h1, h2, hs _ _ h1 h3, h4⟩
theorem sd_or (z : D) : (sameD 1000 z z || @decide (z = z) (Classical.propDecidable _)) = true := by simp
def eqAt (l : List (Int × Int)) (x : Int) : Bool := match l[putAt l x]? with | some p => decide (p.1 = x) | none => false
def putL (us : List Nat) (l : List (Int × Int)) (x : Int) (lab : Nat) : List (Int × Int) :=
  l.take (putAt l x) ++ [(x, bif eqAt l x then upD us lab ((l.getD (putAt l x) (0, 0)).2).toNat else (lab : Int))] ++ l.drop (bif eqAt l x then putAt l x + 1 else putAt l x)
def F71 : AC := (s (.reg (some [(0,0),(1,0),(2,0),(3,0),(4,1),(5,1),(6,1),(7,0),(8,0)]) [m 56 8,u 57 (.ld (some 2) (.t 5)),u 58 (.bsl 1 2 [(i 0),(i 0)] [(0,2,(.t 57))]),u 59 (.app 2 16 50 (.t 56) (.t 58)),m 60 1,m 61 7,u 62 (.slV 2 (.t 60) (some (.t 61)) none none),u 63 (.app 2 16 50 (.t 59) (.t 62)),m 6 63]) .ret)
theorem B71_eq : B71 = (.seq (.reg none [⟨(some 3), (.new 26 (.t 0)), none⟩, ⟨(some 5), (.new 50 (.t 2)), none⟩, ⟨(some 6), (.mv (.c .nils)), none⟩]) (.seq (.reg none [⟨(some 7), (.mv (.c (.int .i64 0))), none⟩]) (.seq (.block 0 (.loop (.seq (.seq (.reg (some [(0, 0), (1, 0), (2, 0), (3, 0), (4, 0), (5, 0), (6, 0), (7, 0), (8, 0), (9, 0), (10, 0), (11, 0), (12, 0), (13, 0)]) [⟨(some 9), (.mv (.t 7)), none⟩, ⟨(some 10), (.mv (.t 1)), none⟩, ⟨(some 11), (.len false (.t 10)), none⟩, ⟨(some 12), (.bin .lss (.t 9) (.t 11)), none⟩, ⟨(some 13), (.mv (.t 12)), none⟩, ⟨(some 14), (.mv (.t 1)), (some (13, true))⟩, ⟨(some 15), (.mv (.t 7)), (some (13, true))⟩, ⟨(some 16), (.iaS 2 (.t 14) (.t 15)), (some (13, true))⟩, ⟨(some 17), (.fa 0 (.t 16)), (some (13, true))⟩, ⟨(some 18), (.ld none (.t 17)), (some (13, true))⟩, ⟨(some 19), (.fa 0 (.t 5)), (some (13, true))⟩, ⟨(some 20), (.ld none (.t 19)), (some (13, true))⟩, ⟨(some 21), (.bin .lss (.t 18) (.t 20)), (some (13, true))⟩, ⟨(some 22), (.pick (.t 13) (.t 21) (.c (.bool false))), none⟩]) (.cond (.t 22) .skip (.exit 0))) (.block 2 (.reg none [⟨(some 23), (.mv (.t 7)), none⟩, ⟨(some 24), (.bin .add (.t 23) (.c (.int .i64 1))), none⟩, ⟨(some 7), (.mv (.t 24)), none⟩]))))) (.seq (.reg none [⟨(some 25), (.bsl 0 2 [] []), none⟩, ⟨(some 26), (.mv (.t 1)), none⟩, ⟨(some 27), (.mv (.t 7)), none⟩, ⟨(some 28), (.slV 2 (.t 26) none (some (.t 27)) none), none⟩, ⟨(some 29), (.app 2 16 50 (.t 25) (.t 28)), none⟩, ⟨(some 8), (.mv (.t 29)), none⟩]) (.seq (.seq (.reg (some [(0, 0), (1, 0), (2, 0), (3, 0), (4, 0), (5, 0), (6, 0), (7, 0), (8, 0), (9, 0), (10, 0), (11, 0), (12, 0), (13, 0)]) [⟨(some 30), (.mv (.t 7)), none⟩, ⟨(some 31), (.mv (.t 1)), none⟩, ⟨(some 32), (.len false (.t 31)), none⟩, ⟨(some 33), (.bin .lss (.t 30) (.t 32)), none⟩, ⟨(some 34), (.mv (.t 33)), none⟩, ⟨(some 35), (.mv (.t 1)), (some (34, true))⟩, ⟨(some 36), (.mv (.t 7)), (some (34, true))⟩, ⟨(some 37), (.iaS 2 (.t 35) (.t 36)), (some (34, true))⟩, ⟨(some 38), (.fa 0 (.t 37)), (some (34, true))⟩, ⟨(some 39), (.ld none (.t 38)), (some (34, true))⟩, ⟨(some 40), (.fa 0 (.t 5)), (some (34, true))⟩, ⟨(some 41), (.ld none (.t 40)), (some (34, true))⟩, ⟨(some 42), (.bin .eql (.t 39) (.t 41)), (some (34, true))⟩, ⟨(some 43), (.pick (.t 34) (.t 42) (.c (.bool false))), none⟩]) (.cond (.t 43) (.seq (.reg (some [(0, 0), (1, 0), (2, 0), (3, 0), (4, 0), (5, 0), (6, 0), (7, 0), (8, 0), (9, 0), (10, 0)]) [⟨(some 44), (.ld (some 2) (.t 3)), none⟩, ⟨(some 45), (.fa 1 (.t 5)), none⟩, ⟨(some 46), (.ld none (.t 45)), none⟩, ⟨(some 47), (.mv (.t 1)), none⟩, ⟨(some 48), (.mv (.t 7)), none⟩, ⟨(some 49), (.iaS 2 (.t 47) (.t 48)), none⟩, ⟨(some 50), (.fa 1 (.t 49)), none⟩, ⟨(some 51), (.ld none (.t 50)), none⟩, ⟨(some 52), (.call 113 [(.t 44), (.t 46), (.t 51)]), none⟩, ⟨(some 53), (.fa 1 (.t 5)), none⟩, ⟨none, (.st 1 (.t 53) (.t 52)), none⟩]) (.reg none [⟨(some 54), (.mv (.t 7)), none⟩, ⟨(some 55), (.bin .add (.t 54) (.c (.int .i64 1))), none⟩, ⟨(some 7), (.mv (.t 55)), none⟩])) .skip)) F71))))) := rfl
theorem fin71 (n : Nat) {l L : List (Int × Int)} {a q : D} (ha : Sl 2 siteC l a) (hl : l.length < 1000) (hL : L.length < 1000) {x v : Int} {k : Nat} (hk : k ≤ l.length) {t : Tm} {s : St} {c : Nat} (hc : 2 ≤ c) (hfree : ∀ m, c ≤ m → sget s m = none)
    (s1 : sget s 1 = some (.fix 50 [.int .i64 x, .int .i64 v])) (hO : OwnS 2 s q L) (q1 : tget t 1 = a) (q5 : tget t 5 = .ptr 1 0) (q7 : tget t 7 = .int .i64 (k : Nat)) (q8 : tget t 8 = q) :
    ∃ r, pout (zbody (dfn (n + 1) MM) A71 (zC F71 (cxn (n + 1)) (fn (n + 1) 4096) KK ⟨t, s, c, [], none⟩)) = some (r, true) ∧ Sl 2 siteC (L ++ [(x, v)] ++ l.drop k) r := by
  simp only [F71, Ab.abq]
  obtain ⟨d2, hd1, hd2⟩ := ha.tail (i := k) hk (k := .i64)
  have htk : takeAt [D.int .i64 x, .int .i64 v] 0 (some 2) = some (.agg [.int .i64 x, .int .i64 v]) := rfl
  have hno : sget s (c + 2) = none := hfree _ (by omega)
  simp only [start_eq, argTm, exq, ex_ls1, exb, ↓reduceIte, Nat.reduceEqDiff, Nat.reduceAdd, Nat.reduceLeDiff, reduceCtorEq, beq_self_eq_true, s1, q1, q5, q7, q8, zipO, killT, zAny_w, zAny_g, AOp.kd, step_mv, step_pick, step_fa, step_iaS, step_slV, step_ld, step_bin, step_len, List.take_zero, List.take_succ_cons, List.all_nil, List.all_cons, htk, allocOf, hno, Option.isNone_none, hd1]
  generalize hA : appD _ 2 16 50 _ _ = A
  obtain ⟨q', s', c', rfl, hO', hc', hfr, hfree'⟩ := own_app_of (B := 2) (l := L) (l' := [(x, v)]) hA (hO.mono (fun m b _ hb => by simp only [ex_val]; rw [if_neg (by intro e; rw [e, hno] at hb; cases hb)]; exact hb)) (by simp only [sliceCells, ex_val, ↓reduceIte]; rfl) (by simp only [List.length_cons, List.length_nil]; omega) (by simp only; omega)
    (fun m hm => by simp only at hm; simp only [ex_val]; rw [if_neg (by simp only [List.length_cons, List.length_nil] at hm; omega)]; exact hfree m (by omega))
  clear hA
  simp only [start_eq, argTm, exq, ex_ls1, exb, ↓reduceIte, Nat.reduceEqDiff, Nat.reduceAdd, Nat.reduceLeDiff, reduceCtorEq, beq_self_eq_true, q1, q5, q7, q8, zipO, killT, zAny_w, zAny_g, AOp.kd, step_mv, step_pick, step_fa, step_iaS, step_slV, step_ld, step_bin, step_len, List.take_zero, List.take_succ_cons, List.all_nil, List.all_cons, hd1, sameStep, sd_or]
  generalize hA : appD _ 2 16 50 _ _ = A
  obtain ⟨q2, s2, c2, rfl, hO2, hc2, hfr2, hfree2⟩ := own_app_of (B := 2) (l := L ++ [(x, v)]) (l' := l.drop k) hA hO' (hd2.sc2 _) (by rw [List.length_append, List.length_drop]; simp only [List.length_cons, List.length_nil]; omega) (by simp only at hc' ⊢; omega) hfree'
  clear hA
  simp only [start_eq, argTm, exq, ex_ls1, exb, ↓reduceIte, Nat.reduceEqDiff, Nat.reduceAdd, Nat.reduceLeDiff, reduceCtorEq, beq_self_eq_true, zAny_w, AOp.kd, step_mv, List.take_zero, List.all_nil, A71]
  obtain ⟨r, hr1, hr2⟩ := hO2.frz true
  refine ⟨r, ?_, hr2⟩
  unfold pout
  simp only [hr1 18]
theorem c71 (n : Nat) {ss : List (List UInt8)} {us : List Nat} {d e : D} (hd : Sl 1 strC ss d) (he : Sl 1 u8C us e) (hu : Bytes8 us) (hul : us.length < 9223372036854775807) {l : List (Int × Int)} {a : D} (ha : Sl 2 siteC l a) (hl : l.length < 1000)
    {x : Int} {lab : Nat} (hlab : lab < us.length) (hls : ∀ p ∈ l, ∃ k : Nat, p.2 = k ∧ k < us.length) :
    ∃ r, cl (n + 1) 71 [.agg [d, e], a, .agg [.int .i64 x, .int .i64 (lab : Int)]] = some (r, true) ∧ Sl 2 siteC (putL us l x lab) r := by
  rw [cl_run (A := A71) rfl (n + 1) _ rfl, show A71.body = B71 from rfl]
  rw [B71_eq]
  simp only [start_eq, argTm, ex, exb, ↓reduceIte, Nat.reduceEqDiff, Nat.reduceAdd, Nat.reduceLeDiff, reduceCtorEq, beq_self_eq_true, hd.nag, he.nag]
  generalize hz : zloop KK _ _ = rl
  refine zwhile rl hz l.length (KK_lt (by omega)) (fun i z => ∃ t s c, z = ⟨t, s, c, [], none⟩ ∧ sget s 0 = some (.fix 26 [d, e]) ∧ sget s 1 = some (.fix 50 [.int .i64 x, .int .i64 (lab : Int)]) ∧ 2 ≤ c ∧ (∀ m, 2 ≤ m → sget s m = none) ∧ tget t 1 = a ∧ tget t 3 = .ptr 0 0 ∧ tget t 5 = .ptr 1 0 ∧ tget t 7 = .int .i64 (i : Nat) ∧ ∀ j (h : j < l.length), j < i → l[j].1 < x)
    ⟨_, _, _, rfl, by simp [ex_val], by simp [ex_val], Nat.le_refl _, fun m hm => by simp only [ex_val]; rw [if_neg (by omega), if_neg (by omega)]; exact sget_st0 m, by simp [ex_val], by simp [ex_val], by simp [ex_val], by simp [ex_val], nofun⟩ ?_
  rintro i z hi ⟨t, s, c, rfl, s0, s1, hc, hfree, q1, q3, q5, q7, hn⟩
  by_cases hgo : ∃ h : i < l.length, l[i].1 < x
  · obtain ⟨hlt, hx⟩ := hgo
    have g0 := ha.cell hlt (show 0 < 2 by omega)
    simp only [start_eq, argTm, exq, ex_ls1, exb, ↓reduceIte, Nat.reduceEqDiff, Nat.reduceAdd, Nat.reduceLeDiff, reduceCtorEq, beq_self_eq_true, s0, s1, q1, q3, q5, q7, ha.len, lt_dec hlt, zipO, killT, zAny_w, zAny_g, AOp.kd, step_mv, step_pick, step_fa, step_iaS, step_ld, step_bin, step_cmp, step_len, List.take_zero, List.all_nil, ha.ia hlt, g0, siteC, decide_eq_true hx, inc_i64 (show i < 9223372036854775807 by omega)]
    refine ⟨hlt, _, _, _, rfl, s0, s1, by omega, hfree, by simp [ex_val, q1], by simp [ex_val, q3], by simp [ex_val, q5], by simp [ex_val], fun j hj hj2 => ?_⟩
    rcases Nat.lt_succ_iff_lt_or_eq.1 hj2 with h1 | rfl
    · exact hn j hj h1
    · exact hx
  · have hk : i = putAt l x := putAt_uniq hi hn fun h hx => hgo ⟨h, hx⟩
    obtain ⟨d1, hd1, hd2⟩ := ha.head (j := i) hi (k := .i64)
    have hrun : ∃ g : Bool, decide ((i : Int) < (l.length : Int)) = g := ⟨_, rfl⟩
    have hsm : ∀ (z : D), @decide (z = z) (Classical.propDecidable _) = true := fun z => by simp
    by_cases hlt : i < l.length
    · have hx : ¬ l[i].1 < x := fun h => hgo ⟨hlt, h⟩
      have g0 := ha.cell hlt (show 0 < 2 by omega)
      have g1 := ha.cell hlt (show 1 < 2 by omega)
      simp only [start_eq, argTm, exq, ex_ls1, exb, ↓reduceIte, Nat.reduceEqDiff, Nat.reduceAdd, Nat.reduceLeDiff, reduceCtorEq, beq_self_eq_true, s0, s1, q1, q3, q5, q7, ha.len, lt_dec hlt, zipO, killT, zAny_w, zAny_g, AOp.kd, step_mv, step_pick, step_fa, step_iaS, step_ld, step_bin, step_cmp, step_len, List.take_zero, List.all_nil, ha.ia hlt, g0, siteC, decide_eq_false hx, hd1]
      generalize hA : appD _ 2 16 50 _ _ = A
      obtain ⟨q', s', c', rfl, hO, hc', hfr, hfree'⟩ := own_app_of (B := 2) (l := []) (l' := l.take i) hA (.inl ⟨_, by omega, rfl, by simp [ex_val], rfl⟩) (hd2.sc2 _) (by rw [List.length_take]; simp only [List.length_nil]; omega) (by simp only; omega) (fun m hm => by simp only at hm; simp only [ex_val]; rw [if_neg (by omega)]; exact hfree m (by omega))
      clear hA
      dsimp only at hc'
      have s0' : sget s' 0 = some (.fix 26 [d, e]) := by rw [hfr 0 (by omega)]; simp only [ex_val]; rw [if_neg (by omega)]; exact s0
      have s1' : sget s' 1 = some (.fix 50 [.int .i64 x, .int .i64 (lab : Int)]) := by rw [hfr 1 (by omega)]; simp only [ex_val]; rw [if_neg (by omega)]; exact s1
      have hget : l[putAt l x]? = some l[i] := by rw [← hk]; exact List.getElem?_eq_getElem hlt
      have hgetD : l.getD (putAt l x) (0, 0) = l[i] := by rw [← hk]; exact lgetD hlt _
      by_cases heq : l[i].1 = x
      · have hE : eqAt l x = true := by unfold eqAt; rw [hget]; exact decide_eq_true heq
        obtain ⟨kl, hkl, hklt⟩ := hls _ (List.getElem_mem hlt)
        have h113 := c113 n hd he hu hul hlab hklt
        have htk : takeAt [d, e] 0 (some 2) = some (.agg [d, e]) := rfl
        simp only [start_eq, argTm, exq, ex_ls1, exb, ↓reduceIte, Nat.reduceEqDiff, Nat.reduceAdd, Nat.reduceLeDiff, reduceCtorEq, beq_self_eq_true, s0', s1', q1, q3, q5, q7, ha.len, lt_dec hlt, zipO, killT, zAny_w, zAny_g, AOp.kd, step_mv, step_pick, step_fa, step_iaS, step_ld, step_bin, step_len, List.take_zero, List.all_nil, ha.ia hlt, g0, g1, siteC, decide_eq_true heq, htk, hkl, fn_pure (f := 113) rfl, ex_call, hd.fz, he.fz, h113, inc_i64 (show i < 9223372036854775807 by omega)]
        have hput : putL us l x lab = [] ++ l.take i ++ [(x, upD us lab kl)] ++ l.drop (i + 1) := by
          unfold putL; rw [hE, hgetD, ← hk, hkl, Int.toNat_natCast]; rfl
        rw [hput]
        refine fin71 n ha hl (by rw [List.length_append, List.length_take]; simp only [List.length_nil]; omega) (k := i + 1) (by omega) (by omega) (fun m hm => by rw [sget_sset, if_neg (by omega)]; exact hfree' m (by omega)) (by simp [ex_val]) (hO.mono fun m b hm hb => by rw [sget_sset, if_neg (by omega)]; exact hb) ?_ ?_ ?_ ?_
        all_goals (simp [ex_val, q1, q5, q7])
      · have hE : eqAt l x = false := by unfold eqAt; rw [hget]; exact decide_eq_false heq
        have hput : putL us l x lab = [] ++ l.take i ++ [(x, (lab : Int))] ++ l.drop i := by
          unfold putL; rw [hE, ← hk]; rfl
        rw [hput]
        simp only [start_eq, argTm, exq, ex_ls1, exb, ↓reduceIte, Nat.reduceEqDiff, Nat.reduceAdd, Nat.reduceLeDiff, reduceCtorEq, beq_self_eq_true, s0', s1', q1, q3, q5, q7, ha.len, lt_dec hlt, zipO, killT, zAny_w, zAny_g, AOp.kd, step_mv, step_pick, step_fa, step_iaS, step_ld, step_bin, step_len, List.take_zero, List.all_nil, ha.ia hlt, g0, siteC, decide_eq_false heq]
        refine fin71 n ha hl (by rw [List.length_append, List.length_take]; simp only [List.length_nil]; omega) (k := i) hi ?_ ?_ s1' hO ?_ ?_ ?_ ?_
        · omega
        · exact fun m hm => hfree' m (by omega)
        all_goals (simp [ex_val, q1, q5, q7])
    · have e1 : i = l.length := by omega
      have hE : eqAt l x = false := by unfold eqAt; rw [← hk, List.getElem?_eq_none (by omega)]
      have hput : putL us l x lab = [] ++ l.take i ++ [(x, (lab : Int))] ++ l.drop i := by
        unfold putL; rw [hE, ← hk]; rfl
      rw [hput]
      simp only [start_eq, argTm, exq, ex_ls1, exb, ↓reduceIte, Nat.reduceEqDiff, Nat.reduceAdd, Nat.reduceLeDiff, reduceCtorEq, beq_self_eq_true, s0, s1, q1, q3, q5, q7, ha.len, ge_dec (show l.length ≤ i by omega), zipO, killT, zAny_w, zAny_g, AOp.kd, step_mv, step_pick, step_fa, step_iaS, step_ld, step_bin, step_cmp, step_len, List.take_zero, List.all_nil, hd1]
      generalize hA : appD _ 2 16 50 _ _ = A
      obtain ⟨q', s', c', rfl, hO, hc', hfr, hfree'⟩ := own_app_of (B := 2) (l := []) (l' := l.take i) hA (.inl ⟨_, by omega, rfl, by simp [ex_val], rfl⟩) (hd2.sc2 _) (by rw [List.length_take]; simp only [List.length_nil]; omega) (by simp only; omega) (fun m hm => by simp only at hm; simp only [ex_val]; rw [if_neg (by omega)]; exact hfree m (by omega))
      clear hA
      dsimp only at hc'
      have s1' : sget s' 1 = some (.fix 50 [.int .i64 x, .int .i64 (lab : Int)]) := by rw [hfr 1 (by omega)]; simp only [ex_val]; rw [if_neg (by omega)]; exact s1
      simp only [start_eq, argTm, exq, ex_ls1, exb, ↓reduceIte, Nat.reduceEqDiff, Nat.reduceAdd, Nat.reduceLeDiff, reduceCtorEq, beq_self_eq_true, s1', q1, q3, q5, q7, ha.len, ge_dec (show l.length ≤ i by omega), zipO, killT, zAny_w, zAny_g, AOp.kd, step_mv, step_pick, step_fa, step_iaS, step_ld, step_bin, step_len, List.take_zero, List.all_nil]
      refine fin71 n ha hl (by rw [List.length_append, List.length_take]; simp only [List.length_nil]; omega) (k := i) hi ?_ ?_ s1' hO ?_ ?_ ?_ ?_
      · omega
      · exact fun m hm => hfree' m (by omega)
      all_goals (simp [ex_val, q1, q5, q7])
end
end Zv
namespace Zv
open Go
noncomputable section
def LabOK (us : List Nat) (l : List (Int × Int)) : Prop := ∀ p ∈ l, ∃ k : Nat, p.2 = k ∧ k < us.length
theorem upD_nat (us : List Nat) {a b : Nat} (ha : a < us.length) : ∃ k : Nat, upD us a b = k ∧ k < us.length := by
  rcases scan_cases (nearP (uM us) a b) (a : Int) us.length 0 with ⟨_, h⟩ | ⟨m, r, _, h2, h3, _, h5⟩
  · exact ⟨a, h, ha⟩
  · refine ⟨m, ?_, by omega⟩
    unfold upD
    rw [h5]
    unfold nearP at h3
    split at h3
    · cases h3; rfl
    · cases h3
theorem putL_ok {us : List Nat} {l : List (Int × Int)} {x : Int} {lab : Nat} (h : LabOK us l) (hl : lab < us.length) : LabOK us (putL us l x lab) := fun p hp => by
  unfold putL at hp
  rcases List.mem_append.1 hp with hp | hp
  · rcases List.mem_append.1 hp with hp | hp
    · exact h p (List.mem_of_mem_take hp)
    · rw [List.mem_singleton.1 hp]
      cases eqAt l x
      · exact ⟨lab, rfl, hl⟩
      · exact upD_nat us hl
  · exact h p (List.mem_of_mem_drop hp)
theorem putL_len {us : List Nat} (l : List (Int × Int)) (x : Int) (lab : Nat) : (putL us l x lab).length ≤ l.length + 1 := by
  have := putAt_le l x
  unfold putL
  rw [List.length_append, List.length_append, List.length_take, List.length_drop, List.length_singleton]
  cases eqAt l x
  · simp only [cond_false]; omega
  · simp only [cond_true]; omega
def mergeL (us : List Nat) (l : List (Int × Int)) (l2 : List (Int × Int)) : List (Int × Int) := l2.foldl (fun l p => putL us l p.1 p.2.toNat) l
theorem e2_inj {a e a' e' : Int} (h : e2 a e = e2 a' e') : a = a' ∧ e = e' := by
  unfold e2 at h; cases h; exact ⟨rfl, rfl⟩
theorem latD_cases (n : Nat) (u : Nat → Nat) : latD n u = e2 0 0 ∨ ∃ a : Int, latD n u = e2 a 4 := by
  unfold latD
  rcases scan_cases (latP n u) (e2 0 0) n 0 with ⟨_, h⟩ | ⟨m, r, _, h2, h3, _, h5⟩
  · exact .inl h
  · rw [h5]; unfold latP at h3
    cases hb : latB n u m <;> rw [hb] at h3
    · cases h3; exact .inr ⟨m, rfl⟩
    · cases h3
theorem CHK_cases (ss : List (List UInt8)) (us : List Nat) : (CHK ss us = e2 0 0 ∧ us.length = ss.length ∧ 1 ≤ ss.length ∧ ss.length ≤ 8 ∧ (∀ a, a < ss.length → ordB ss.length (uM us) a = true)) ∨ ∃ a er : Int, CHK ss us = e2 a er ∧ er ≠ 0 := by
  unfold CHK
  rcases namesD_cases ss with ⟨h1, h2⟩ | ⟨h1, a, er, h2, h3⟩
  · rw [if_pos h1]
    have hn := namesB_iff.1 h1
    by_cases hl : us.length = ss.length
    · rw [if_pos hl]
      unfold ordD
      rcases scan_cases (ordP ss.length (uM us)) (latD ss.length (uM us)) ss.length 0 with ⟨hb, h⟩ | ⟨m, r, _, h2, h3, _, h5⟩
      · rw [h]
        rcases latD_cases ss.length (uM us) with h' | ⟨a, h'⟩
        · refine .inl ⟨h', hl, hn.1.1, hn.1.2, fun a ha => ?_⟩
          have := hb a (by omega) (by omega)
          unfold ordP at this
          cases ho : ordB ss.length (uM us) a
          · rw [ho] at this; cases this
          · rfl
        · exact .inr ⟨a, 4, h', by decide⟩
      · rw [h5]; unfold ordP at h3
        cases hb : ordB ss.length (uM us) m <;> rw [hb] at h3
        · cases h3; exact .inr ⟨_, _, rfl, by decide⟩
        · cases h3
    · rw [if_neg hl]; exact .inr ⟨_, _, rfl, by decide⟩
  · rw [if_neg (by rw [h1]; decide)]; exact .inr ⟨a, er, h2, h3⟩
theorem sites_cases (n : Nat) (l : List (Int × Int)) : (sitesD n l = .int .i64 0 ∧ (∀ i, i < l.length → ordP2 l i = none) ∧ ∀ p ∈ l, 0 ≤ p.2 ∧ p.2 < (n : Int)) ∨ ∃ z : Int, sitesD n l = .int .i64 z ∧ z ≠ 0 := by
  unfold sitesD
  rcases scan_cases (ordP2 l) (scan (rngP n l) (.int .i64 0) l.length 0) l.length 0 with ⟨hb, h⟩ | ⟨m, r, _, h2, h3, _, h5⟩
  · rw [h]
    rcases scan_cases (rngP n l) (.int .i64 0) l.length 0 with ⟨hb2, h'⟩ | ⟨m, r, _, h2, h3, _, h5⟩
    · refine .inl ⟨h', fun i hi => hb i (by omega) (by omega), fun p hp => ?_⟩
      obtain ⟨i, hi, rfl⟩ := List.mem_iff_getElem.1 hp
      have := hb2 i (by omega) (by omega)
      unfold rngP at this
      rw [lgetD hi] at this
      cases hc : decide (0 ≤ l[i].2) && decide (l[i].2 < (n : Int))
      · rw [hc] at this; cases this
      · simpa using hc
    · rw [h5]; unfold rngP at h3
      cases hc : (decide (0 ≤ (l.getD m (0, 0)).2) && decide ((l.getD m (0, 0)).2 < (n : Int))) <;> rw [hc] at h3 <;> cases h3
      exact .inr ⟨_, rfl, by decide⟩
  · rw [h5]; unfold ordP2 at h3
    split at h3
    · cases h3; exact .inr ⟨_, rfl, by decide⟩
    · cases h3
theorem merge_step (us : List Nat) (l l2 : List (Int × Int)) {i : Nat} (h : i < l2.length) : mergeL us l (l2.take (i + 1)) = putL us (mergeL us l (l2.take i)) l2[i].1 l2[i].2.toNat := by
  unfold mergeL
  rw [List.take_succ_eq_append_getElem h, List.foldl_append]; rfl
theorem merge_ok {us : List Nat} {l : List (Int × Int)} (h : LabOK us l) : ∀ {l2 : List (Int × Int)}, LabOK us l2 → LabOK us (mergeL us l l2) ∧ (mergeL us l l2).length ≤ l.length + l2.length := by
  intro l2
  induction l2 generalizing l with
  | nil => intro _; exact ⟨h, Nat.le_add_right _ _⟩
  | cons p r ih =>
    intro h2
    obtain ⟨k, hk, hkl⟩ := h2 p (by simp)
    have hp := putL_ok (x := p.1) h (show p.2.toNat < us.length by rw [hk]; exact hkl)
    have := ih hp fun q hq => h2 q (by simp [hq])
    refine ⟨this.1, ?_⟩
    have h3 := putL_len (us := us) l p.1 p.2.toNat
    have h4 := this.2
    simp only [mergeL, List.foldl_cons, List.length_cons] at h4 ⊢
    omega
def mgE (ss : List (List UInt8)) (us : List Nat) (l1 l2 : List (Int × Int)) (z : Int) : Prop :=
  (∃ a, CHK ss us = e2 a z ∧ z ≠ 0) ∨ (CHK ss us = e2 0 0 ∧ sitesD ss.length l1 = .int .i64 z ∧ z ≠ 0) ∨ (CHK ss us = e2 0 0 ∧ sitesD ss.length l1 = .int .i64 0 ∧ sitesD ss.length l2 = .int .i64 z ∧ z ≠ 0)
theorem c30e (n : Nat) {ss : List (List UInt8)} {us : List Nat} {d e : D} (hd : Sl 1 strC ss d) (he : Sl 1 u8C us e) (hu : Bytes8 us) (hs : Small ss) {l1 l2 : List (Int × Int)} {a b : D} (ha : Sl 2 siteC l1 a) (hb : Sl 2 siteC l2 b) (hl1 : l1.length < 300) (hl2 : l2.length < 300)
    {z : Int} (hz : mgE ss us l1 l2 z) : cl (n + 5) 30 [.agg [d, e], a, b] = some (.tup [.nils, .int .i64 z], true) := by
  rw [cl_run (A := A30) rfl (n + 5) _ rfl, show A30.body = B30 from rfl]
  simp only [B30, Ab.abq]
  have htk : takeAt [d, e] 0 (some 2) = some (.agg [d, e]) := rfl
  rcases hz with ⟨x, h1, h2⟩ | ⟨h1, h2, h3⟩ | ⟨h1, h2, h3, h4⟩
  · simp only [start_eq, argTm, exq, ex_ls1, exb, ↓reduceIte, Nat.reduceEqDiff, Nat.reduceAdd, Nat.reduceLeDiff, reduceCtorEq, beq_self_eq_true, hd.nag, he.nag, htk, fn_pure (f := 54) rfl, ex_call, hd.fz, he.fz, c54 (n + 1) hd he hu hs, h1, namesD_e2, eq_false h2, ne_eq, not_true_eq_false, not_false_eq_true, A30]
    rfl
  · simp only [start_eq, argTm, exq, ex_ls1, exb, ↓reduceIte, Nat.reduceEqDiff, Nat.reduceAdd, Nat.reduceLeDiff, reduceCtorEq, beq_self_eq_true, hd.nag, he.nag, htk, fn_pure (f := 54) rfl, fn_pure (f := 70) rfl, ex_call, hd.fz, he.fz, ha.fz, c54 (n + 1) hd he hu hs, h1, c70 (n + 3) hd he ha (by omega), h2, namesD_e2, eq_false h3, ne_eq, not_true_eq_false, not_false_eq_true, eq_self, A30]
    rfl
  · simp only [start_eq, argTm, exq, ex_ls1, exb, ↓reduceIte, Nat.reduceEqDiff, Nat.reduceAdd, Nat.reduceLeDiff, reduceCtorEq, beq_self_eq_true, hd.nag, he.nag, htk, fn_pure (f := 54) rfl, fn_pure (f := 70) rfl, ex_call, hd.fz, he.fz, ha.fz, hb.fz, c54 (n + 1) hd he hu hs, h1, c70 (n + 3) hd he ha (by omega), c70 (n + 3) hd he hb (by omega), h2, h3, namesD_e2, eq_false h4, ne_eq, not_true_eq_false, not_false_eq_true, eq_self, A30]
    rfl
def SiteV (s : St) (q : D) (l : List (Int × Int)) : Prop := (∃ r, (∀ k, frz false (k + 2) s q = some r) ∧ Sl 2 siteC l r) ∧ (q.pure = true ∨ OwnS 1 s q l)
theorem c30 (n : Nat) {ss : List (List UInt8)} {us : List Nat} {d e : D} (hd : Sl 1 strC ss d) (he : Sl 1 u8C us e) (hu : Bytes8 us) (hs : Small ss) {l1 l2 : List (Int × Int)} {a b : D} (ha : Sl 2 siteC l1 a) (hb : Sl 2 siteC l2 b) (hl1 : l1.length < 300) (hl2 : l2.length < 300)
    (h1 : CHK ss us = e2 0 0) (h2 : sitesD ss.length l1 = .int .i64 0) (h3 : sitesD ss.length l2 = .int .i64 0) (hul : us.length < 9223372036854775807) (hk1 : LabOK us l1) (hk2 : LabOK us l2) :
    ∃ r f, cl (n + 5) 30 [.agg [d, e], a, b] = some (.tup [r, .int .i64 0], f) ∧ Sl 2 siteC (mergeL us l1 l2) r := by
  rw [cl_run (A := A30) rfl (n + 5) _ rfl, show A30.body = B30 from rfl]
  simp only [B30, Ab.abq]
  have htk : takeAt [d, e] 0 (some 2) = some (.agg [d, e]) := rfl
  simp only [start_eq, argTm, exq, ex_ls1, exb, ↓reduceIte, Nat.reduceEqDiff, Nat.reduceAdd, Nat.reduceLeDiff, reduceCtorEq, beq_self_eq_true, hd.nag, he.nag, htk, fn_pure (f := 54) rfl, fn_pure (f := 70) rfl, ex_call, hd.fz, he.fz, ha.fz, hb.fz, c54 (n + 1) hd he hu hs, h1, c70 (n + 3) hd he ha (by omega), c70 (n + 3) hd he hb (by omega), h2, h3, namesD_e2, ne_eq, not_true_eq_false, not_false_eq_true, eq_self]
  generalize hA : appD _ 2 16 50 _ _ = A
  obtain ⟨q', s', c', rfl, hO, hc', hfr, hfree'⟩ := own_app_of (B := 1) (l := []) (l' := l1) hA (.inl ⟨_, by omega, rfl, by simp [ex_val], rfl⟩) (ha.sc2 _) (by simp only [List.length_nil]; omega) (by simp only; omega) (fun m hm => by simp only at hm; simp only [ex_val]; rw [if_neg (by omega), if_neg (by omega)]; exact sget_st0 m)
  clear hA
  have s0 : sget s' 0 = some (.fix 26 [d, e]) := by rw [hfr 0 (by omega)]; simp [ex_val]
  have hV : SiteV s' q' l1 := ⟨hO.frz false, .inr hO⟩
  simp only [start_eq, argTm, exq, ex_ls1, exb, ↓reduceIte, Nat.reduceEqDiff, Nat.reduceAdd, Nat.reduceLeDiff, reduceCtorEq, beq_self_eq_true]
  generalize hz : zloop KK _ _ = rl
  refine zfor rl hz l2.length (KK_lt (by omega)) (by omega) (fun i t s c => sget s 0 = some (.fix 26 [d, e]) ∧ tget t 3 = .ptr 0 0 ∧ tget t 2 = b ∧ SiteV s (tget t 10) (mergeL us l1 (l2.take i))) (by simp [ex_val]) (by simp [ex_val, s0, mergeL, hV]) ?_
  rintro i t s c hi ⟨s0, q3, q2, hV⟩ q11
  by_cases hlt : i < l2.length
  · obtain ⟨⟨r0, hr1, hr2⟩, _⟩ := hV
    obtain ⟨k, hk, hkl⟩ := hk2 _ (List.getElem_mem hlt)
    have hmo := merge_ok hk1 (l2 := l2.take i) fun p hp => hk2 p (List.mem_of_mem_take hp)
    have hrow := hb.row hlt
    obtain ⟨r, hc, hS⟩ := c71 (n + 3) hd he hu hul hr2 (by have := hmo.2; rw [List.length_take] at this; omega) (x := l2[i].1) (lab := k) hkl hmo.1
    rw [siteC, hk] at hrow
    generalize hq : tget t 10 = q at hr1
    have hms := merge_step us l1 l2 hlt
    rw [hk, Int.toNat_natCast] at hms
    simp only [start_eq, argTm, exq, ex_ls1, exb, ↓reduceIte, Nat.reduceEqDiff, Nat.reduceAdd, Nat.reduceLeDiff, reduceCtorEq, beq_self_eq_true, s0, q2, q3, q11, hq, hb.len, lt_dec hlt, zipO, killT, zAny_w, zAny_g, AOp.kd, step_mv, step_pick, step_fa, step_iaS, step_ld, step_bin, step_len, List.take_zero, List.all_nil, hb.ia hlt, htk, hrow, fn_pure (f := 71) rfl, ex_call, hd.fz, he.fz, hr1 18, hc]
    have htake : l2.take (i + 1) = l2.take i ++ [l2[i]] := List.take_succ_eq_append_getElem hlt
    exact ⟨hlt, trivial, trivial, trivial, trivial, trivial, trivial, ⟨r, fun k => hS.fz _ _, by rw [hms]; exact hS⟩, .inl hS.pure⟩
  · have e1 : i = l2.length := by omega
    subst e1
    rw [List.take_length] at hV
    obtain ⟨⟨r0, hr1, hr2⟩, hp⟩ := hV
    generalize hq : tget t 10 = q at hr1 hp
    simp only [start_eq, argTm, exq, ex_ls1, exb, ↓reduceIte, Nat.reduceEqDiff, Nat.reduceAdd, Nat.reduceLeDiff, reduceCtorEq, beq_self_eq_true, s0, q2, q3, q11, hq, hb.len, ge_dec (Nat.le_refl l2.length), A30]
    have hfr : ∀ p, frz p 20 s (.tup [q, .int .i64 0]) = (frz p 19 s q).map fun r => D.tup [r, .int .i64 0] := fun p => by
      show ([q, D.int .i64 0].mapM (frz p 19 s)).map D.tup = _
      simp only [ex_call]
      cases frz p 19 s q <;> rfl
    unfold pout
    simp only [hfr]
    rcases hp with hp | hO
    · rw [hr1 17]
      cases hT : frz true 19 s q with
      | none => exact ⟨r0, false, rfl, hr2⟩
      | some r1 =>
        have h0 := frz_pure 19 q r0 hp (hr1 17)
        subst h0
        obtain ⟨hw, ⟨rfl, h⟩ | ⟨ex, rfl⟩⟩ := id hr2
        · cases hT; exact ⟨.nils, true, rfl, hr2⟩
        · cases hT
    · obtain ⟨r1, hr3, hr4⟩ := hO.frz true
      rw [hr3 17]
      exact ⟨r1, true, rfl, hr4⟩
end
end Zv
