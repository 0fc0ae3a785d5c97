/- Sites in a map. Conditions: none. -/
import Derived.Test.YtnpoohbeicakkaaGreatDoorLB
import Derived.Test.YtnpoohbeicakkaaGreatDoorCA
set_option linter.unusedVariables false
set_option linter.unusedSimpArgs false
set_option maxRecDepth 100000
namespace Zv
open Go
noncomputable section
theorem latD_good {n : Nat} {u : Nat → Nat} (h : latD n u = e2 0 0) : ∀ a, a < n → ∀ b, b < n → lat2 n u a b = true := by
  unfold latD at h
  rcases scan_cases (latP n u) (e2 0 0) n 0 with ⟨hb, _⟩ | ⟨m, r, _, h2, h3, _, h5⟩
  · intro a ha
    have := hb a (by omega) (by omega)
    unfold latP at this
    cases hl : latB n u a
    · rw [hl] at this; cases this
    · exact allN_iff.1 hl
  · rw [h5] at h
    unfold latP at h3
    cases hb : latB n u m <;> rw [hb] at h3
    · cases h3; exact absurd (e2_inj h).2 (by decide)
    · cases h3
theorem CHK_lat {ss : List (List UInt8)} {us : List Nat} (h : CHK ss us = e2 0 0) : latD ss.length (uM us) = e2 0 0 := by
  have h0 := h
  unfold CHK at h
  rcases namesD_cases ss with ⟨h1, h2⟩ | ⟨h1, a, er, h2, h3⟩
  · rw [if_pos h1] at h
    by_cases hl : us.length = ss.length
    · rw [if_pos hl] at h
      unfold ordD at h
      rcases scan_cases (ordP ss.length (uM us)) (latD ss.length (uM us)) ss.length 0 with ⟨hb, h'⟩ | ⟨m, r, _, h2, h3, _, h5⟩
      · rw [h'] at h; exact h
      · rw [h5] at h; unfold ordP at h3
        cases hb : ordB ss.length (uM us) m <;> rw [hb] at h3
        · cases h3; exact absurd (e2_inj h).2 (by decide)
        · cases h3
    · rw [if_neg hl] at h; exact absurd (e2_inj h).2 (by decide)
  · rw [if_neg (by rw [h1]; decide), h2] at h; exact absurd (e2_inj h).2 h3
theorem near_nat {ss : List (List UInt8)} {us : List Nat} (h : CHK ss us = e2 0 0) {a b : Nat} (ha : a < ss.length) (hb : b < ss.length) : ∃ k : Nat, nearD (uM us) ss.length a b = k ∧ k < ss.length := by
  have h1 := latD_good (CHK_lat h) a ha b hb
  unfold lat2 at h1
  simp only [Bool.and_eq_true, Bool.not_eq_true', decide_eq_false_iff_not] at h1
  unfold nearD at h1 ⊢
  rcases scan_cases (nearP (uM us) a b) (-1) ss.length 0 with ⟨_, h'⟩ | ⟨m, r, _, h2, h3, _, h5⟩
  · rw [h'] at h1; exact absurd (by decide) h1.1
  · refine ⟨m, ?_, by omega⟩
    rw [h5]
    unfold nearP at h3
    split at h3
    · cases h3; rfl
    · cases h3
theorem upD_near {ss : List (List UInt8)} {us : List Nat} (h : CHK ss us = e2 0 0) (hl : us.length = ss.length) {a b : Nat} (ha : a < ss.length) (hb : b < ss.length) : upD us a b = nearD (uM us) ss.length a b := by
  obtain ⟨k, hk, _⟩ := near_nat h ha hb
  unfold upD nearD at *
  rw [hl]
  rcases scan_cases (nearP (uM us) a b) (-1) ss.length 0 with ⟨h1, h'⟩ | ⟨m, r, _, h2, h3, h4, h5⟩
  · rw [h'] at hk; omega
  · rw [h5, scan_at (by omega) h3 fun j hj => h4 j (by omega) hj]
/-! Sites in a map. -/
def mpE : Nat → List (Int × Int) → List MEnt
  | _, [] => []
  | k, p :: r => (.int .i64 p.1, .int .i64 p.2, k) :: mpE (k + 1) r
def posM : List (Int × Int) → Int → Nat → Option (Nat × Int)
  | [], _, _ => none
  | p :: r, x, n => if x = p.1 then some (n, p.2) else posM r x (n + 1)
def setM : List (Int × Int) → Nat → Int → List (Int × Int)
  | [], _, _ => []
  | p :: r, 0, v => (p.1, v) :: r
  | p :: r, n + 1, v => p :: setM r n v
theorem mfind_mpE (x : Int) : ∀ (l : List (Int × Int)) (k n : Nat), mfind .int (.int .i64 x) (mpE k l) n = some ((posM l x n).map fun q => (q.1, .int .i64 q.2))
  | [], k, n => rfl
  | p :: r, k, n => by
    have h : keyEq .int (.int .i64 x) (.int .i64 p.1) = some (decide (x = p.1)) := by
      show (if IntKind.i64 = IntKind.i64 then some (x == p.1) else none) = _
      rw [if_pos rfl]; congr 1
    simp only [mpE, mfind, h, posM]
    by_cases e : x = p.1
    · rw [if_pos e, decide_eq_true e]; rfl
    · rw [if_neg e, decide_eq_false e]
      exact mfind_mpE x r (k + 1) (n + 1)
theorem mset_mpE : ∀ (l : List (Int × Int)) (k j : Nat) (v : Int), mset (mpE k l) j (.int .i64 v) = mpE k (setM l j v)
  | [], _, _, _ => rfl
  | p :: r, k, 0, v => rfl
  | p :: r, k, j + 1, v => by simp only [mpE, mset, setM, mset_mpE r]
theorem mpE_snoc : ∀ (l : List (Int × Int)) (k : Nat) (p : Int × Int), mpE k l ++ [(.int .i64 p.1, .int .i64 p.2, k + l.length)] = mpE k (l ++ [p])
  | [], k, p => rfl
  | q :: r, k, p => by
    simp only [mpE, List.cons_append, List.length_cons]
    rw [show k + (r.length + 1) = k + 1 + r.length by omega, mpE_snoc r (k + 1) p]
theorem mpE_len : ∀ (l : List (Int × Int)) (k : Nat), (mpE k l).length = l.length
  | [], _ => rfl
  | p :: r, k => by simp only [mpE, List.length_cons, mpE_len r]
theorem setM_len : ∀ (l : List (Int × Int)) (j : Nat) (v : Int), (setM l j v).length = l.length
  | [], _, _ => rfl
  | p :: r, 0, v => rfl
  | p :: r, j + 1, v => by simp only [setM, List.length_cons, setM_len r]
theorem setM_keys : ∀ (l : List (Int × Int)) (j : Nat) (v : Int), (setM l j v).map Prod.fst = l.map Prod.fst
  | [], _, _ => rfl
  | p :: r, 0, v => rfl
  | p :: r, j + 1, v => by simp only [setM, List.map_cons, setM_keys r]
theorem posM_none : ∀ {l : List (Int × Int)} {x : Int} {n : Nat}, posM l x n = none → x ∉ l.map Prod.fst
  | [], _, _, _ => by simp
  | p :: r, x, n, h => by
    unfold posM at h
    split at h
    · cases h
    · rename_i hne
      rw [List.map_cons, List.mem_cons, not_or]
      exact ⟨hne, posM_none h⟩
theorem mpE_borns : ∀ (l : List (Int × Int)) (k : Nat), borns (mpE k l) = (List.range l.length).map (· + k)
  | [], _ => rfl
  | p :: r, k => by
    have ih := mpE_borns r (k + 1)
    unfold borns at ih ⊢
    simp only [mpE, List.map_cons, ih, List.length_cons, List.range_succ_eq_map, List.map_map, Nat.zero_add]
    congr 1
    apply List.map_congr_left
    intro a _
    simp only [Function.comp]; omega
theorem mpE_nodup (l : List (Int × Int)) : (borns (mpE 0 l)).Nodup := by
  rw [mpE_borns]
  simp only [Nat.add_zero, List.map_id']
  exact List.nodup_range
theorem mpE_lt (l : List (Int × Int)) : ∀ e ∈ mpE 0 l, e.2.2 < l.length := fun e he => by
  have : e.2.2 ∈ borns (mpE 0 l) := List.mem_map_of_mem he
  rw [mpE_borns] at this
  simpa using this
def insM (us : List Nat) (n : Nat) (l : List (Int × Int)) (p : Int × Int) : List (Int × Int) := match posM l p.1 0 with
  | some q => setM l q.1 (nearD (uM us) n q.2.toNat p.2.toNat)
  | none => l ++ [p]
end
end Zv
namespace Zv
open Go Ab
noncomputable section
def P0 : AC := (r [u 3 (.new 26 (.t 0)),c 6 .nils,c 7 (i 0)])
def P1 : AC := (s (r [u 24 (.ld (some 2) (.t 3)),u 25 (.call 59 [(.t 24)]),m 23 25,e 26 0 23,e 27 1 23,m 8 26,m 9 27]) (s (r [m 28 9,d 29 .neq 28 (i 0)]) (.cond (.t 29) (s (r [m 30 9,c 6 .nils,m 7 30]) .ret) .skip)))
def P2 : AC := (r [u 31 .mkm,m 10 31])
def P3 : AC := (s (r [m 32 1,m 33 2,u 34 (.bsl 2 1 [.nils,.nils] [(0,1,(.t 32)),(1,1,(.t 33))]),u 35 (.len false (.t 34)),c 36 (i 0)]) (.block 0 (.loop (s (r [b 37 .lss 36 35]) (s (.cond (.t 37) .skip (.exit 0)) (s (.block 2 (s (r [u 38 (.iaS 1 (.t 34) (.t 36)),l 39 38,m 12 39]) (s (s (r [m 40 12,u 41 (.len false (.t 40)),c 42 (i 0)]) (.block 4 (.loop (s (r [b 43 .lss 42 41]) (s (.cond (.t 43) .skip (.exit 4)) (s (.block 6 (s (r [m 44 42,m 13 44]) (s (.reg (some [(0,0),(1,0),(2,0),(3,0),(4,0),(5,0),(6,0),(7,0),(8,0),(9,0),(10,0),(11,0),(12,0),(13,0),(14,0),(15,0)]) [m 45 13,d 46 .gtr 45 (i 0),m 47 46,my 48 12 47,my 49 13 47,y 50 47 (.iaS 2 (.t 48) (.t 49)),y 51 47 (.fa 0 (.t 50)),y 52 47 (.ld none (.t 51)),my 53 12 47,my 54 13 47,y 55 47 (.bin .sub (.t 54) (.c (i 1))),y 56 47 (.iaS 2 (.t 53) (.t 55)),y 57 47 (.fa 0 (.t 56)),y 58 47 (.ld none (.t 57)),y 59 47 (.bin .leq (.t 52) (.t 58)),u 60 (.pick (.t 47) (.t 59) (.c (.bool false)))]) (.cond (.t 60) (s (r [c 6 .nils,c 7 (i 6)]) .ret) .skip)))) (r [d 61 .add 42 (i 1),m 42 61]))))))) (s (s (r [m 62 12,u 63 (.len false (.t 62)),c 64 (i 0)]) (.block 8 (.loop (s (r [b 65 .lss 64 63]) (s (.cond (.t 65) .skip (.exit 8)) (s (.block 10 (s (r [u 66 (.iaS 2 (.t 62) (.t 64)),u 67 (.ld (some 2) (.t 66)),u 15 (.new 50 (.c (.agg [(i 0),(i 0)]))),w (.st 2 (.t 15) (.t 67))]) (s (r [f 68 1 15,l 69 68,d 70 .lss 69 (i 0),m 71 70,n 72 71 (.fa 1 (.t 15)),n 73 71 (.ld none (.t 72)),n 74 71 (.fa 0 (.t 3)),n 75 71 (.ld none (.t 74)),n 76 71 (.len false (.t 75)),n 77 71 (.bin .geq (.t 73) (.t 76)),u 78 (.pick (.t 71) (.c (.bool true)) (.t 77))]) (.cond (.t 78) (s (r [c 6 .nils,c 7 (i 7)]) .ret) .skip)))) (r [d 79 .add 64 (i 1),m 64 79]))))))) (s (r [m 80 12,u 81 (.len false (.t 80)),c 82 (i 0)]) (.block 12 (.loop (s (r [b 83 .lss 82 81]) (s (.cond (.t 83) .skip (.exit 12)) (s (.block 14 (s (r [u 84 (.iaS 2 (.t 80) (.t 82)),u 85 (.ld (some 2) (.t 84)),u 17 (.new 50 (.c (.agg [(i 0),(i 0)]))),w (.st 2 (.t 17) (.t 85))]) (s (s (r [m 87 10,f 88 0 17,l 89 88,u 90 (.mlk (i 0) true .int (.t 87) (.t 89)),m 86 90,e 91 0 86,e 92 1 86,m 18 91,m 19 92]) (s (r [m 93 19]) (.cond (.t 93) (.reg (some [(0,0),(1,0),(2,0),(3,0),(4,0),(5,0),(6,0),(7,0),(8,0),(9,0),(10,0),(11,0),(12,0),(13,0),(14,0),(15,0),(16,0)]) [f 94 1 3,l 95 94,f 96 1 3,l 97 96,m 98 18,u 99 (.iaS 1 (.t 97) (.t 98)),l 100 99,f 101 1 3,l 102 101,f 103 1 17,l 104 103,u 105 (.iaS 1 (.t 102) (.t 104)),l 106 105,b 107 .and 100 106,u 108 (.call 69 [(.t 95),(.t 107)]),f 109 1 17,w (.st 1 (.t 109) (.t 108))]) .skip))) (r [m 110 10,f 111 0 17,l 112 111,f 113 1 17,l 114 113,w (.mup .int (.t 110) (.t 112) (.t 114))])))) (r [d 115 .add 82 (i 1),m 82 115]))))))))))) (r [d 116 .add 36 (i 1),m 36 116])))))))
def P4 : AC := (r [m 117 10,u 118 (.mln (.t 117)),u 119 (.mks 2 16 [(i 0),(i 0)] (.c (i 0)) (.t 118)),m 20 119])
def P5 : AC := (s (r [m 120 10,u 121 (.rgm (.t 120))]) (.block 16 (.loop (s (r [u 122 (.nxm (.t 121)),e 123 0 122]) (s (.cond (.t 123) .skip (.exit 16)) (.block 18 (s (r [u 124 (.ent (.t 121)),e 125 0 124,e 126 1 124,m 21 125,m 22 126]) (r [m 127 20,m 128 21,m 129 22,u 130 (.bld [(i 0),(i 0)] [(0,1,(.t 128)),(1,1,(.t 129))]),u 131 (.bsl 1 2 [(i 0),(i 0)] [(0,2,(.t 130))]),u 132 (.app 2 16 50 (.t 127) (.t 131)),m 20 132]))))))))
def P6 : AC := (r [m 133 20,u 134 (.call 45 [(.t 133),(.f 46)])])
def P7 : AC := (s (r [m 135 20,m 6 135,c 7 (i 0)]) .ret)
theorem B29_eq : B29 = (.seq P0 (.seq P1 (.seq P2 (.seq P3 (.seq P4 (.seq P5 (.seq P6 P7))))))) := rfl
def fill (l : List (Int × Int)) (n : Nat) : List D := en2 l ++ rep (n - l.length) [.int .i64 0, .int .i64 0]
theorem rep_len2 (n : Nat) : (rep n [.int .i64 0, .int .i64 0]).length = 2 * n := by
  unfold rep; simp; omega
theorem rep_succ (n : Nat) (z : List D) : rep (n + 1) z = z ++ rep n z := by unfold rep; rw [List.replicate_succ, List.flatten_cons]
theorem fill_len {l : List (Int × Int)} {n : Nat} (h : l.length ≤ n) : (fill l n).length = 2 * n := by
  unfold fill; rw [List.length_append, en2_len, rep_len2]; omega
theorem fill_step {l : List (Int × Int)} {n : Nat} (h : l.length < n) (p : Int × Int) : setAt (fill l n) (l.length * 2) [.int .i64 p.1, .int .i64 p.2] = fill (l ++ [p]) n := by
  unfold fill
  obtain ⟨k, hk⟩ : ∃ k, n - l.length = k + 1 := ⟨n - l.length - 1, by omega⟩
  rw [hk, rep_succ, List.length_append, List.length_singleton, show n - (l.length + 1) = k by omega, en2_app]
  rw [show l.length * 2 = (en2 l).length by rw [en2_len]; omega, setAt_append _ _ (by simp)]
  simp [en2]
def pairM (e : MEnt) : Int × Int := match e with | (.int _ a, .int _ b, _) => (a, b) | _ => (0, 0)
theorem pairM_mpE : ∀ (l : List (Int × Int)) (k : Nat), (mpE k l).map pairM = l
  | [], _ => rfl
  | p :: r, k => by simp only [mpE, List.map_cons, pairM_mpE r]; rfl
theorem mpE_form : ∀ (l : List (Int × Int)) (k : Nat), ∀ e ∈ mpE k l, e = (.int .i64 (pairM e).1, .int .i64 (pairM e).2, e.2.2)
  | [], _, e, h => by simp [mpE] at h
  | p :: r, k, e, h => by
    simp only [mpE, List.mem_cons] at h
    rcases h with rfl | h
    · rfl
    · exact mpE_form r (k + 1) e h
theorem born_filter : ∀ {es : List MEnt} {e : MEnt}, (borns es).Nodup → e ∈ es → ∃ r, (es.filter fun x => Nat.beq x.2.2 e.2.2) = e :: r
  | [], e, _, h => by simp at h
  | x :: l, e, hn, h => by
    simp only [borns, List.map_cons, List.nodup_cons] at hn
    rcases List.mem_cons.1 h with rfl | h
    · exact ⟨_, by rw [List.filter_cons, Nat.beq_refl]; rfl⟩
    · have hne : x.2.2 ≠ e.2.2 := fun h' => hn.1 (by rw [h']; exact List.mem_map_of_mem h)
      obtain ⟨r, hr⟩ := born_filter hn.2 h
      exact ⟨r, by rw [List.filter_cons, beq_ne hne]; exact hr⟩
theorem en2_frz (p : Bool) (k : Nat) (s : St) : ∀ (l : List (Int × Int)), (en2 l).mapM (frz p (k + 1) s) = some (en2 l)
  | [] => rfl
  | q :: r => by simp only [en2, List.mapM_cons, en2_frz p k s r]; rfl
theorem sort_row {L : List (Int × Int)} {s : St} {c : Nat} (hs : sget s c = some (.fix 0 (en2 L))) (hn : (L.map Prod.fst).Nodup) (hl : L.length < 1000) : sortSt s c 0 L.length = some (sset s c (.fix 0 (en2 (sortP L)))) := by
  unfold sortSt
  rw [hs]
  simp only [blkCells, List.drop_zero]
  rw [List.take_of_length_le (by rw [en2_len]; exact Nat.le_refl _), en2_row]
  simp only
  rw [if_pos ⟨hn, trivial, by omega⟩, stB_full (by rw [en2_len, en2_len, (sortP_perm L).length_eq]) (en2_nag _)]
  rfl
theorem tail29 (n : Nat) {lm : List (Int × Int)} (hk : (lm.map Prod.fst).Nodup) (hlen : lm.length < 1000) {t : Tm} {s : St} {c m : Nat} (hm : m < c) (q10 : tget t 10 = .mp m) (hs : sget s m = some (.mp (mpE 0 lm) lm.length)) :
    BAll (bC (cxn n) (fn n 4096) KK (.seq P4 (.seq P5 (.seq P6 P7))) ⟨t, s, c, [], none⟩) (fun r => pout (zbody (dfn n MM) A29 r) = some (.tup [.sl true lm.length (en2 (sortP lm)), .int .i64 0], true)) := by
  have hmk : (0 ≤ (0 : Int) ∧ (0 : Int) ≤ (lm.length : Int) ∧ ((16 : Nat) : Int) * (lm.length : Int) ≤ 1099511627776 ∧ (lm.length : Int) ≤ 4294967296) = True := eq_true (by omega)
  rw [W_seq1 (by rfl) (by rfl)]
  simp only [P4, Ab.abq]
  simp only [start_eq, argTm, ex, exb, ↓reduceIte, Nat.reduceEqDiff, Nat.reduceAdd, Nat.reduceLeDiff, reduceCtorEq, beq_self_eq_true, q10, hs, mpE_len, hmk, Int.toNat_natCast, zq_law, Int.toNat_zero]
  rw [W_seq (by rfl)]
  simp only [P5, Ab.abq]
  rw [W_seq1 (by rfl) (by rfl)]
  have hmc : (m = c) = False := eq_false (by omega)
  simp only [start_eq, argTm, ex, exb, ↓reduceIte, Nat.reduceEqDiff, Nat.reduceAdd, Nat.reduceLeDiff, reduceCtorEq, beq_self_eq_true, q10, hs, hmc, zq_law, show (m = c + 1) = False from eq_false (by omega)]
  rw [W_block (by rfl)]
  have hel : (mpE 0 lm).length = lm.length := mpE_len lm 0
  refine bmap (es := mpE 0 lm) (c0 := lm.length) (nI := c + 1) (nM := m) (by rfl) (by rw [hel]; exact KK_lt (by omega)) (mpE_lt lm) (mpE_nodup lm)
    (fun done t s c' => c + 2 ≤ c' ∧ sget s c = some (.fix 0 (fill (done.map pairM) lm.length)) ∧ tget t 20 = .ms c 0 2 done.length lm.length) (by decide) (by simp [ex_val]) (by simp only [ex_val]; rw [if_neg (by omega), if_neg (by omega)]; exact hs) (by simp [ex_val]) (by omega) ⟨by omega, by simp only [ex_val]; rw [if_neg (by omega), if_pos trivial]; rfl, by simp [ex_val]⟩ ?_ ?_
  · rintro done e t s c' ⟨hc', hsc, q20⟩ he hsub hnd hd1 hti hsM hsI
    rw [hel] at hd1
    obtain ⟨rr, hf⟩ := born_filter (mpE_nodup lm) he
    have hform := mpE_form lm 0 e he
    have hgl : (borns (done ++ [e])).getLast? = some e.2.2 := by simp [borns]
    have hI2 : ∀ {b : Blk}, sget (sset s (c + 1) b) m = some (.mp (mpE 0 lm) lm.length) := by intro b; rw [sget_sset, if_neg (by omega)]; exact hsM
    have hC2 : ∀ {b : Blk}, sget (sset s (c + 1) b) c = some (.fix 0 (fill (done.map pairM) lm.length)) := by intro b; rw [sget_sset, if_neg (by omega)]; exact hsc
    have hfl : stB (.fix 0 (fill (done.map pairM) lm.length)) (done.length * 2) [.int .i64 (pairM e).1, .int .i64 (pairM e).2] = some (.fix 0 (fill ((done ++ [e]).map pairM) lm.length)) := by
      have h1 := fill_step (l := done.map pairM) (n := lm.length) (by simpa using hd1) (pairM e)
      rw [List.length_map] at h1
      simp only [stB, List.length_cons, List.length_nil, Nat.zero_add, Nat.reduceAdd]
      rw [h1, List.map_append]
      rw [show Nat.ble (done.length * 2 + 2) (fill (done.map pairM) lm.length).length = true from Nat.ble_eq_true_of_le (by rw [fill_len (by simp; omega)]; omega)]
      rfl
    have hf2 : ((mpE 0 lm).filter fun x => Nat.beq x.2.2 e.2.2) = (.int .i64 (pairM e).1, .int .i64 (pairM e).2, e.2.2) :: rr := by rw [hf]; exact congrArg (· :: rr) hform
    have hble : decide (done.length + 1 ≤ lm.length) = true := decide_eq_true hd1
    have hbd : (fun x : MEnt => Nat.beq x.2.2 e.2.2) = fun x => decide (x.2.2 = e.2.2) := by funext x; rw [Bool.eq_iff_iff]; simp [Nat.beq_eq]
    rw [hbd] at hf2
    simp only [start_eq, argTm, exq, ex_ls0, exb, ↓reduceIte, Nat.reduceEqDiff, Nat.reduceAdd, Nat.reduceLeDiff, reduceCtorEq, beq_self_eq_true, hti, q20, hsM, hsI, hI2, hC2, hgl, hf2, Nat.beq_refl, show (c + 1 = m) = False from eq_false (by omega), show (c + 1 = c) = False from eq_false (by omega), show (m = c + 1) = False from eq_false (by omega), show (c = c + 1) = False from eq_false (by omega), show (m = c') = False from eq_false (by omega), show (c = c') = False from eq_false (by omega), show (c + 1 = c') = False from eq_false (by omega), appD, sliceCells, show decide (1 * 2 ≤ 2) = true from rfl, hble, hfl]
    exact ⟨trivial, trivial, trivial, by rw [if_neg (by omega)], trivial, by omega, trivial, by rw [List.length_append]; rfl⟩
  · rintro done t s c' ⟨hc', hsc, q20⟩ hperm hti hsM
    have hL : (done.map pairM).Perm lm := by have := hperm.map pairM; rwa [pairM_mpE] at this
    have hdl : done.length = lm.length := by have := hperm.length_eq; rwa [hel] at this
    have hsp : sortP (done.map pairM) = sortP lm := by
      have hk2 : ((done.map pairM).map Prod.fst).Nodup := (hL.map Prod.fst).nodup_iff.2 hk
      exact asc_unique (sortP_asc hk2) (sortP_asc hk) ((sortP_perm _).trans (hL.trans (sortP_perm lm).symm))
    have hss : sortSt s c 0 lm.length = some (sset s c (.fix 0 (en2 (sortP lm)))) := by
      have := sort_row (L := done.map pairM) (s := s) (c := c) (by rw [hsc]; unfold fill; rw [List.length_map, hdl, Nat.sub_self]; simp [rep]) ((hL.map Prod.fst).nodup_iff.2 hk) (by rw [List.length_map]; omega)
      rwa [List.length_map, hdl, hsp] at this
    rw [show (done.length) = lm.length from hdl] at q20
    simp only [ex_code, ↓reduceIte, zq_law]
    rw [W_plain (by rfl)]
    simp only [P6, P7, Ab.abq]
    simp only [start_eq, argTm, exq, ex_ls0, exb, ↓reduceIte, Nat.reduceEqDiff, Nat.reduceAdd, Nat.reduceLeDiff, reduceCtorEq, beq_self_eq_true, q20, fn_spec (f := 45) (g := spSort 46) rfl rfl, spSort, own2, hss, A29]
    have hpl : (en2 (sortP lm)).length = 2 * lm.length := by rw [en2_len, (sortP_perm lm).length_eq]
    have hf : frz true 19 (sset s c (.fix 0 (en2 (sortP lm)))) (.ms c 0 2 lm.length lm.length) = some (.sl true lm.length (en2 (sortP lm))) := by
      rw [frz_ms, sget_sset, if_pos rfl]
      simp only [Nat.zero_add, List.drop_zero]
      rw [Nat.ble_eq_true_of_le (by rw [hpl]; omega), cond_true, List.take_of_length_le (by rw [hpl]; omega), en2_frz, Nat.beq_refl]
      rfl
    have hf2 : frz true 20 (sset s c (.fix 0 (en2 (sortP lm)))) (.tup [.ms c 0 2 lm.length lm.length, .int .i64 0]) = some (.tup [.sl true lm.length (en2 (sortP lm)), .int .i64 0]) := by
      show ([D.ms c 0 2 lm.length lm.length, D.int .i64 0].mapM (frz true 19 _)).map D.tup = _
      simp only [ex_call, hf, ex_opt]
    unfold pout
    simp only [hf2]
end
end Zv
namespace Zv
open Go Ab
noncomputable section
def Q0 : AC := (r [u 38 (.iaS 1 (.t 34) (.t 36)),l 39 38,m 12 39])
def QA : AC := (s (r [m 40 12,u 41 (.len false (.t 40)),c 42 (i 0)]) (.block 4 (.loop (s (r [b 43 .lss 42 41]) (s (.cond (.t 43) .skip (.exit 4)) (s (.block 6 (s (r [m 44 42,m 13 44]) (s (.reg (some [(0,0),(1,0),(2,0),(3,0),(4,0),(5,0),(6,0),(7,0),(8,0),(9,0),(10,0),(11,0),(12,0),(13,0),(14,0),(15,0)]) [m 45 13,d 46 .gtr 45 (i 0),m 47 46,my 48 12 47,my 49 13 47,y 50 47 (.iaS 2 (.t 48) (.t 49)),y 51 47 (.fa 0 (.t 50)),y 52 47 (.ld none (.t 51)),my 53 12 47,my 54 13 47,y 55 47 (.bin .sub (.t 54) (.c (i 1))),y 56 47 (.iaS 2 (.t 53) (.t 55)),y 57 47 (.fa 0 (.t 56)),y 58 47 (.ld none (.t 57)),y 59 47 (.bin .leq (.t 52) (.t 58)),u 60 (.pick (.t 47) (.t 59) (.c (.bool false)))]) (.cond (.t 60) (s (r [c 6 .nils,c 7 (i 6)]) .ret) .skip)))) (r [d 61 .add 42 (i 1),m 42 61])))))))
def QB : AC := (s (r [m 62 12,u 63 (.len false (.t 62)),c 64 (i 0)]) (.block 8 (.loop (s (r [b 65 .lss 64 63]) (s (.cond (.t 65) .skip (.exit 8)) (s (.block 10 (s (r [u 66 (.iaS 2 (.t 62) (.t 64)),u 67 (.ld (some 2) (.t 66)),u 15 (.new 50 (.c (.agg [(i 0),(i 0)]))),w (.st 2 (.t 15) (.t 67))]) (s (r [f 68 1 15,l 69 68,d 70 .lss 69 (i 0),m 71 70,n 72 71 (.fa 1 (.t 15)),n 73 71 (.ld none (.t 72)),n 74 71 (.fa 0 (.t 3)),n 75 71 (.ld none (.t 74)),n 76 71 (.len false (.t 75)),n 77 71 (.bin .geq (.t 73) (.t 76)),u 78 (.pick (.t 71) (.c (.bool true)) (.t 77))]) (.cond (.t 78) (s (r [c 6 .nils,c 7 (i 7)]) .ret) .skip)))) (r [d 79 .add 64 (i 1),m 64 79])))))))
def QC : AC := (s (r [m 80 12,u 81 (.len false (.t 80)),c 82 (i 0)]) (.block 12 (.loop (s (r [b 83 .lss 82 81]) (s (.cond (.t 83) .skip (.exit 12)) (s (.block 14 (s (r [u 84 (.iaS 2 (.t 80) (.t 82)),u 85 (.ld (some 2) (.t 84)),u 17 (.new 50 (.c (.agg [(i 0),(i 0)]))),w (.st 2 (.t 17) (.t 85))]) (s (s (r [m 87 10,f 88 0 17,l 89 88,u 90 (.mlk (i 0) true .int (.t 87) (.t 89)),m 86 90,e 91 0 86,e 92 1 86,m 18 91,m 19 92]) (s (r [m 93 19]) (.cond (.t 93) (.reg (some [(0,0),(1,0),(2,0),(3,0),(4,0),(5,0),(6,0),(7,0),(8,0),(9,0),(10,0),(11,0),(12,0),(13,0),(14,0),(15,0),(16,0)]) [f 94 1 3,l 95 94,f 96 1 3,l 97 96,m 98 18,u 99 (.iaS 1 (.t 97) (.t 98)),l 100 99,f 101 1 3,l 102 101,f 103 1 17,l 104 103,u 105 (.iaS 1 (.t 102) (.t 104)),l 106 105,b 107 .and 100 106,u 108 (.call 69 [(.t 95),(.t 107)]),f 109 1 17,w (.st 1 (.t 109) (.t 108))]) .skip))) (r [m 110 10,f 111 0 17,l 112 111,f 113 1 17,l 114 113,w (.mup .int (.t 110) (.t 112) (.t 114))])))) (r [d 115 .add 82 (i 1),m 82 115])))))))
def Inv29 (d e a b : D) (av : D) (lm : List (Int × Int)) (k : Nat) (t : Tm) (s : St) (c : Nat) : Prop :=
  sget s 0 = some (.fix 26 [d, e]) ∧ sget s 1 = some (.mp (mpE 0 lm) lm.length) ∧ sget s 2 = some (.fix 0 [a, b]) ∧ 3 ≤ c ∧
  tget t 3 = .ptr 0 0 ∧ tget t 10 = .mp 1 ∧ tget t 12 = av ∧ tget t 34 = .ms 2 0 1 2 2 ∧ tget t 35 = .int .i64 2 ∧ tget t 36 = .int .i64 (k : Nat)
theorem QA_run (n : Nat) {d e a b av : D} {lm : List (Int × Int)} {l : List (Int × Int)} (hav : Sl 2 siteC l av) (hl : l.length < 1000) {k : Nat} {t : Tm} {s : St} {c : Nat} (hI : Inv29 d e a b av lm k t s c) :
    (∃ i t' s' c', i < l.length ∧ ordP2 l i = some (.int .i64 6) ∧ (∀ j, j < i → ordP2 l j = none) ∧ zC QA (cxn n) (fn n 4096) KK ⟨t, s, c, [], none⟩ = .ok .ret ⟨t', s', c', [], none⟩ ∧ tget t' 6 = .nils ∧ tget t' 7 = .int .i64 6) ∨
    ((∀ j, j < l.length → ordP2 l j = none) ∧ ∃ t' s' c', zC QA (cxn n) (fn n 4096) KK ⟨t, s, c, [], none⟩ = .ok .normal ⟨t', s', c', [], none⟩ ∧ Inv29 d e a b av lm k t' s' c') := by
  obtain ⟨s0, s1, s2, hc, q3, q10, q12, q34, q35, q36⟩ := hI
  simp only [QA, Ab.abq]
  simp only [start_eq, argTm, exq, ex_ls1, exb, ↓reduceIte, Nat.reduceEqDiff, Nat.reduceAdd, Nat.reduceLeDiff, reduceCtorEq, beq_self_eq_true, q12, hav.len]
  generalize hz : zloop KK _ _ = rl
  refine zrange rl hz l.length (KK_lt (by omega)) (by omega) (fun i t s c => Inv29 d e a b av lm k t s c ∧ ∀ j, j < i → ordP2 l j = none) (by decide) (by simp [ex_val]) (by simp [ex_val]) ?_ ?_ ?_
  · exact ⟨⟨s0, s1, s2, hc, by simp [ex_val, q3], by simp [ex_val, q10], by simp [ex_val, q12], by simp [ex_val, q34], by simp [ex_val, q35], by simp [ex_val, q36]⟩, nofun⟩
  · rintro i t s c hlt ⟨⟨s0, s1, s2, hc, q3, q10, q12, q34, q35, q36⟩, hn⟩ hti htn
    cases h0 : decide ((0 : Int) < (i : Int))
    · have hp : ordP2 l i = none := by unfold ordP2; rw [if_neg (by rw [decide_eq_false_iff_not] at h0; omega)]
      simp only [start_eq, argTm, exq, ex_ls1, exb, ↓reduceIte, Nat.reduceEqDiff, Nat.reduceAdd, Nat.reduceLeDiff, reduceCtorEq, beq_self_eq_true, q12, hti, htn, h0, zipO, killT, zAny_w, zAny_g, AOp.kd, step_mv, step_pick, step_fa, step_iaS, step_ld, step_bin, List.take_zero, List.all_nil]
      exact ⟨trivial, trivial, trivial, .inr (.inr trivial), nofun, nofun, ⟨s0, s1, s2, by omega, by simp [ex_val, q3], by simp [ex_val, q10], by simp [ex_val, q12], by simp [ex_val, q34], by simp [ex_val, q35], by simp [ex_val, q36]⟩, none_step hn hp⟩
    · have hi0 : 0 < i := by rw [decide_eq_true_eq] at h0; omega
      have hlt2 : i - 1 < l.length := by omega
      have hw : wrapD .i64 ((i : Int) - 1) = ((i - 1 : Nat) : Int) := by rw [wrapD_i64 (by omega) (by omega)]; omega
      have g0 := hav.cell hlt (show 0 < 2 by omega)
      have g1 := hav.cell hlt2 (show 0 < 2 by omega)
      cases hle : decide (l[i].1 ≤ l[i - 1].1)
      · have hp : ordP2 l i = none := by unfold ordP2; rw [lgetD hlt, lgetD hlt2, if_neg (by rw [decide_eq_false_iff_not] at hle; omega)]
        simp only [start_eq, argTm, exq, ex_ls1, exb, ↓reduceIte, Nat.reduceEqDiff, Nat.reduceAdd, Nat.reduceLeDiff, reduceCtorEq, beq_self_eq_true, q12, hti, htn, h0, zipO, killT, zAny_w, zAny_g, AOp.kd, step_mv, step_pick, step_fa, step_iaS, step_ld, step_bin, List.take_zero, List.all_nil, hav.ia hlt, hav.ia hlt2, hw, g0, g1, siteC, hle]
        exact ⟨trivial, trivial, trivial, .inr (.inr trivial), nofun, nofun, ⟨s0, s1, s2, by omega, by simp [ex_val, q3], by simp [ex_val, q10], by simp [ex_val, q12], by simp [ex_val, q34], by simp [ex_val, q35], by simp [ex_val, q36]⟩, none_step hn hp⟩
      · have hp : ordP2 l i = some (.int .i64 6) := by unfold ordP2; rw [lgetD hlt, lgetD hlt2, if_pos (by rw [decide_eq_true_eq] at hle; omega)]
        simp only [start_eq, argTm, exq, ex_ls1, exb, ↓reduceIte, Nat.reduceEqDiff, Nat.reduceAdd, Nat.reduceLeDiff, reduceCtorEq, beq_self_eq_true, q12, hti, htn, h0, zipO, killT, zAny_w, zAny_g, AOp.kd, step_mv, step_pick, step_fa, step_iaS, step_ld, step_bin, List.take_zero, List.all_nil, hav.ia hlt, hav.ia hlt2, hw, g0, g1, siteC, hle]
        exact .inl ⟨i, _, _, _, hlt, hp, hn, rfl, by simp [ex_val], by simp [ex_val]⟩
  · rintro t s c ⟨hI, hn⟩ hti htn
    obtain ⟨s0, s1, s2, hc, q3, q10, q12, q34, q35, q36⟩ := hI
    simp only [ex_code, ↓reduceIte]
    exact .inr ⟨hn, _, _, _, rfl, s0, s1, s2, by omega, by simp [ex_val, q3], by simp [ex_val, q10], by simp [ex_val, q12], by simp [ex_val, q34], by simp [ex_val, q35], by simp [ex_val, q36]⟩
end
end Zv
namespace Zv
open Go
noncomputable section
theorem QB_run (n : Nat) {ss : List (List UInt8)} {d e a b av : D} (hd : Sl 1 strC ss d) {lm : List (Int × Int)} {l : List (Int × Int)} (hav : Sl 2 siteC l av) (hl : l.length < 1000) {k : Nat} {t : Tm} {s : St} {c : Nat} (hI : Inv29 d e a b av lm k t s c) :
    (∃ i t' s' c', i < l.length ∧ rngP ss.length l i = some (.int .i64 7) ∧ (∀ j, j < i → rngP ss.length l j = none) ∧ zC QB (cxn n) (fn n 4096) KK ⟨t, s, c, [], none⟩ = .ok .ret ⟨t', s', c', [], none⟩ ∧ tget t' 6 = .nils ∧ tget t' 7 = .int .i64 7) ∨
    ((∀ j, j < l.length → rngP ss.length l j = none) ∧ ∃ t' s' c', zC QB (cxn n) (fn n 4096) KK ⟨t, s, c, [], none⟩ = .ok .normal ⟨t', s', c', [], none⟩ ∧ Inv29 d e a b av lm k t' s' c') := by
  obtain ⟨s0, s1, s2, hc, q3, q10, q12, q34, q35, q36⟩ := hI
  simp only [QB, Ab.abq]
  simp only [start_eq, argTm, exq, ex_ls1, exb, ↓reduceIte, Nat.reduceEqDiff, Nat.reduceAdd, Nat.reduceLeDiff, reduceCtorEq, beq_self_eq_true, q12, hav.len]
  generalize hz : zloop KK _ _ = rl
  refine zrange rl hz l.length (KK_lt (by omega)) (by omega) (fun i t s c => Inv29 d e a b av lm k t s c ∧ tget t 62 = av ∧ ∀ j, j < i → rngP ss.length l j = none) (by decide) (by simp [ex_val]) (by simp [ex_val]) ?_ ?_ ?_
  · exact ⟨⟨s0, s1, s2, hc, by simp [ex_val, q3], by simp [ex_val, q10], by simp [ex_val, q12], by simp [ex_val, q34], by simp [ex_val, q35], by simp [ex_val, q36]⟩, by simp [ex_val], nofun⟩
  · rintro i t s c hlt ⟨⟨s0, s1, s2, hc, q3, q10, q12, q34, q35, q36⟩, q62, hn⟩ hti htn
    have hrow := hav.row hlt
    have f0 : (0 = c) = False := eq_false (by omega)
    have hk0 : ∀ {b b' : Blk} {j : Nat}, j < 3 → sget (sset (sadd s c b) c b') j = sget s j := fun {b b' j} hj => by rw [sget_sset, if_neg (by omega), sget_sadd, if_neg (by omega)]
    cases hr : decide (l[i].2 < 0)
    · cases hr2 : decide ((ss.length : Int) ≤ l[i].2)
      · have hp : rngP ss.length l i = none := by
          unfold rngP; rw [lgetD hlt]
          rw [decide_eq_false_iff_not] at hr hr2
          rw [decide_eq_true (show 0 ≤ l[i].2 by omega), decide_eq_true (show l[i].2 < (ss.length : Int) by omega)]; rfl
        simp only [start_eq, argTm, exq, ex_ls1, exb, ↓reduceIte, Nat.reduceEqDiff, Nat.reduceAdd, Nat.reduceLeDiff, reduceCtorEq, beq_self_eq_true, q3, q12, q62, hti, htn, hav.ia hlt, hrow, siteC, f0, s0, hd.len, hr, hr2]
        exact ⟨trivial, trivial, trivial, .inr (.inr trivial), nofun, nofun, ⟨by rw [hk0 (by omega)]; exact s0, by rw [hk0 (by omega)]; exact s1, by rw [hk0 (by omega)]; exact s2, by omega, by simp [ex_val, q3], by simp [ex_val, q10], by simp [ex_val, q12], by simp [ex_val, q34], by simp [ex_val, q35], by simp [ex_val, q36]⟩, trivial, none_step hn hp⟩
      · have hp : rngP ss.length l i = some (.int .i64 7) := by
          unfold rngP; rw [lgetD hlt]
          rw [decide_eq_true_eq] at hr2
          rw [decide_eq_false (show ¬ l[i].2 < (ss.length : Int) by omega), Bool.and_false]; rfl
        simp only [start_eq, argTm, exq, ex_ls1, exb, ↓reduceIte, Nat.reduceEqDiff, Nat.reduceAdd, Nat.reduceLeDiff, reduceCtorEq, beq_self_eq_true, q3, q12, q62, hti, htn, hav.ia hlt, hrow, siteC, f0, s0, hd.len, hr, hr2]
        exact .inl ⟨i, _, _, _, hlt, hp, hn, rfl, by simp [ex_val], by simp [ex_val]⟩
    · have hp : rngP ss.length l i = some (.int .i64 7) := by
        unfold rngP; rw [lgetD hlt]
        rw [decide_eq_true_eq] at hr
        rw [decide_eq_false (show ¬ 0 ≤ l[i].2 by omega)]; rfl
      simp only [start_eq, argTm, exq, ex_ls1, exb, ↓reduceIte, Nat.reduceEqDiff, Nat.reduceAdd, Nat.reduceLeDiff, reduceCtorEq, beq_self_eq_true, q3, q12, q62, hti, htn, hav.ia hlt, hrow, siteC, f0, s0, hd.len, hr]
      exact .inl ⟨i, _, _, _, hlt, hp, hn, rfl, by simp [ex_val], by simp [ex_val]⟩
  · rintro t s c ⟨hI, q62, hn⟩ hti htn
    obtain ⟨s0, s1, s2, hc, q3, q10, q12, q34, q35, q36⟩ := hI
    simp only [ex_code, ↓reduceIte]
    exact .inr ⟨hn, _, _, _, rfl, s0, s1, s2, by omega, by simp [ex_val, q3], by simp [ex_val, q10], by simp [ex_val, q12], by simp [ex_val, q34], by simp [ex_val, q35], by simp [ex_val, q36]⟩
end
end Zv
namespace Zv
open Go
noncomputable section
def allM (us : List Nat) (n : Nat) (lm l : List (Int × Int)) : List (Int × Int) := l.foldl (insM us n) lm
theorem allM_step (us : List Nat) (n : Nat) (lm l : List (Int × Int)) {i : Nat} (h : i < l.length) : allM us n lm (l.take (i + 1)) = insM us n (allM us n lm (l.take i)) l[i] := by
  unfold allM
  rw [List.take_succ_eq_append_getElem h, List.foldl_append]; rfl
theorem setM_mem : ∀ {l : List (Int × Int)} {j : Nat} {v : Int} {p : Int × Int}, p ∈ setM l j v → p ∈ l ∨ p.2 = v
  | [], _, _, _, h => by simp [setM] at h
  | q :: r, 0, v, p, h => by
    simp only [setM, List.mem_cons] at h
    rcases h with rfl | h
    · exact .inr rfl
    · exact .inl (by simp [h])
  | q :: r, j + 1, v, p, h => by
    simp only [setM, List.mem_cons] at h
    rcases h with rfl | h
    · exact .inl (by simp)
    · rcases setM_mem h with h | h
      · exact .inl (by simp [h])
      · exact .inr h
theorem posM_some : ∀ {l : List (Int × Int)} {x : Int} {n : Nat} {q : Nat × Int}, posM l x n = some q → ∃ p ∈ l, p.1 = x ∧ p.2 = q.2
  | [], _, _, _, h => by cases h
  | p :: r, x, n, q, h => by
    unfold posM at h
    split at h
    · rename_i e; cases h; exact ⟨p, by simp, e.symm, rfl⟩
    · obtain ⟨p', h1, h2⟩ := posM_some h
      exact ⟨p', by simp [h1], h2⟩
theorem insM_ok {ss : List (List UInt8)} {us : List Nat} (hC : CHK ss us = e2 0 0) (hl : us.length = ss.length) {lm : List (Int × Int)} {p : Int × Int} (h : LabOK us lm) (hp : ∃ k : Nat, p.2 = k ∧ k < us.length) (hn : (lm.map Prod.fst).Nodup) :
    LabOK us (insM us ss.length lm p) ∧ ((insM us ss.length lm p).map Prod.fst).Nodup ∧ (insM us ss.length lm p).length ≤ lm.length + 1 := by
  unfold insM
  cases hq : posM lm p.1 0 with
  | none =>
    refine ⟨fun q hq => ?_, ?_, by simp⟩
    · rcases List.mem_append.1 hq with hq | hq
      · exact h q hq
      · rw [List.mem_singleton.1 hq]; exact hp
    · rw [List.map_append, List.nodup_append]
      refine ⟨hn, by simp, fun a ha b hb => ?_⟩
      simp only [List.map_cons, List.map_nil, List.mem_singleton] at hb
      subst hb
      exact fun e => posM_none hq (e ▸ ha)
  | some q =>
    obtain ⟨p', h1, h2, h3⟩ := posM_some hq
    obtain ⟨k, hk, hkl⟩ := hp
    obtain ⟨k', hk', hkl'⟩ := h p' h1
    refine ⟨fun r hr => ?_, by rw [setM_keys]; exact hn, by rw [setM_len]; omega⟩
    rcases setM_mem hr with hr | hr
    · exact h r hr
    · rw [hr]
      obtain ⟨k2, hk2, hkl2⟩ := near_nat hC (a := q.2.toNat) (b := p.2.toNat) (by rw [← h3, hk', Int.toNat_natCast]; omega) (by rw [hk, Int.toNat_natCast]; omega)
      exact ⟨k2, hk2, by omega⟩
theorem allM_ok {ss : List (List UInt8)} {us : List Nat} (hC : CHK ss us = e2 0 0) (hl : us.length = ss.length) : ∀ {l lm : List (Int × Int)}, LabOK us lm → LabOK us l → (lm.map Prod.fst).Nodup →
    LabOK us (allM us ss.length lm l) ∧ ((allM us ss.length lm l).map Prod.fst).Nodup ∧ (allM us ss.length lm l).length ≤ lm.length + l.length
  | [], lm, h, _, hn => ⟨h, hn, Nat.le_refl _⟩
  | p :: r, lm, h, h2, hn => by
    obtain ⟨a1, a2, a3⟩ := insM_ok hC hl h (h2 p (by simp)) hn
    obtain ⟨b1, b2, b3⟩ := allM_ok hC hl (l := r) a1 (fun q hq => h2 q (by simp [hq])) a2
    refine ⟨b1, b2, ?_⟩
    have : (allM us ss.length lm (p :: r)).length ≤ (insM us ss.length lm p).length + r.length := b3
    simp only [List.length_cons]; omega
theorem QC_run (n : Nat) {ss : List (List UInt8)} {us : List Nat} {d e a b av : D} (hd : Sl 1 strC ss d) (he : Sl 1 u8C us e) (hu : Bytes8 us) (hC : CHK ss us = e2 0 0) (hul : us.length = ss.length) (hs8 : ss.length ≤ 8) {lm l : List (Int × Int)} (hav : Sl 2 siteC l av) (hl : l.length < 1000)
    (hk : LabOK us l) (hkm : LabOK us lm) (hnm : (lm.map Prod.fst).Nodup) {k : Nat} {t : Tm} {s : St} {c : Nat} (hI : Inv29 d e a b av lm k t s c) :
    ∃ t' s' c', zC QC (cxn (n + 1)) (fn (n + 1) 4096) KK ⟨t, s, c, [], none⟩ = .ok .normal ⟨t', s', c', [], none⟩ ∧ Inv29 d e a b av (allM us ss.length lm l) k t' s' c' := by
  obtain ⟨s0, s1, s2, hc, q3, q10, q12, q34, q35, q36⟩ := hI
  simp only [QC, Ab.abq]
  simp only [start_eq, argTm, exq, ex_ls1, exb, ↓reduceIte, Nat.reduceEqDiff, Nat.reduceAdd, Nat.reduceLeDiff, reduceCtorEq, beq_self_eq_true, q12, hav.len]
  generalize hz : zloop KK _ _ = rl
  refine zrange rl hz l.length (KK_lt (by omega)) (by omega) (fun i t s c => Inv29 d e a b av (allM us ss.length lm (l.take i)) k t s c ∧ tget t 80 = av) (by decide) (by simp [ex_val]) (by simp [ex_val]) ?_ ?_ ?_
  · exact ⟨⟨s0, s1, s2, hc, by simp [ex_val, q3], by simp [ex_val, q10], by simp [ex_val, q12], by simp [ex_val, q34], by simp [ex_val, q35], by simp [ex_val, q36]⟩, by simp [ex_val]⟩
  · rintro i t s c hlt ⟨⟨s0, s1, s2, hc, q3, q10, q12, q34, q35, q36⟩, q80⟩ hti htn
    have hrow := hav.row hlt
    obtain ⟨kl, hkl, hkl2⟩ := hk _ (List.getElem_mem hlt)
    obtain ⟨o1, o2, o3⟩ := allM_ok hC hul (l := l.take i) hkm (fun p hp => hk p (List.mem_of_mem_take hp)) hnm
    have hst := allM_step us ss.length lm l hlt
    generalize allM us ss.length lm (l.take i) = L at *
    have f0 : (0 = c) = False := eq_false (by omega)
    have f1 : (1 = c) = False := eq_false (by omega)
    have hfind := mfind_mpE l[i].1 L 0 0
    cases hq : posM L l[i].1 0 with
    | none =>
      rw [hq] at hfind
      have hins : insM us ss.length L l[i] = L ++ [l[i]] := by unfold insM; rw [hq]
      have hsn := mpE_snoc L 0 l[i]
      rw [Nat.zero_add] at hsn
      simp only [start_eq, argTm, exq, ex_ls1, exb, ↓reduceIte, Nat.reduceEqDiff, Nat.reduceAdd, Nat.reduceLeDiff, reduceCtorEq, beq_self_eq_true, q3, q10, q12, q80, hti, htn, hav.ia hlt, hrow, siteC, f0, f1, s0, s1, hfind, Option.map_none, hsn, List.cons_append, List.nil_append]
      refine ⟨trivial, trivial, trivial, .inr (.inr trivial), nofun, nofun, ⟨?_, ?_, ?_, by omega, by simp [ex_val, q3], by simp [ex_val, q10], by simp [ex_val, q12], by simp [ex_val, q34], by simp [ex_val, q35], by simp [ex_val, q36]⟩, trivial⟩
      · simp only [ex_val]; rw [if_neg (by omega), if_neg (by omega), if_neg (by omega)]; exact s0
      · rw [hst, hins, List.length_append]; simp only [ex_val, ↓reduceIte]; rfl
      · simp only [ex_val]; rw [if_neg (by omega), if_neg (by omega), if_neg (by omega)]; exact s2
    | some q =>
      rw [hq] at hfind
      obtain ⟨p', h1, h2, h3⟩ := posM_some hq
      obtain ⟨kh, hkh, hkh2⟩ := o1 p' h1
      have hq2 : q.2 = (kh : Int) := by rw [← h3, hkh]
      have hins : insM us ss.length L l[i] = setM L q.1 (nearD (uM us) us.length kh kl) := by unfold insM; rw [hq, hul]; simp only [hq2, hkl, Int.toNat_natCast]
      have hx : ∀ c (hc : c < us.length), us[c] = uM us c := fun c hc => (lgetD hc 0).symm
      have h69 := c69 n he (by omega) kh kl
      simp only [siteC, hkl] at hrow
      simp only [start_eq, argTm, exq, ex_ls1, exb, ↓reduceIte, Nat.reduceEqDiff, Nat.reduceAdd, Nat.reduceLeDiff, reduceCtorEq, beq_self_eq_true, q3, q10, q12, q80, hti, htn, hav.ia hlt, hrow, siteC, hkl, f0, f1, s0, s1, hfind, Option.map_some, hq2, List.cons_append, List.nil_append, zipO, killT, zAny_w, zAny_g, AOp.kd, step_mv, step_pick, step_fa, step_iaS, step_ld, step_bin, List.take_zero, List.all_nil, he.ia1 hkh2, he.at1 hkh2, he.ia1 hkl2, he.at1 hkl2, u8C, hx _ hkh2, hx _ hkl2, b_and_u8 (uM_lt hu kh) (uM_lt hu kl), fn_pure (f := 69) rfl, ex_call, he.fz, h69, mset_mpE]
      refine ⟨trivial, trivial, trivial, .inr (.inr trivial), nofun, nofun, ⟨?_, ?_, ?_, by omega, by simp [ex_val, q3], by simp [ex_val, q10], by simp [ex_val, q12], by simp [ex_val, q34], by simp [ex_val, q35], by simp [ex_val, q36]⟩, trivial⟩
      · simp only [ex_val]; rw [if_neg (by omega), if_neg (by omega), if_neg (by omega), if_neg (by omega)]; exact s0
      · rw [hst, hins, setM_len]; simp only [ex_val, ↓reduceIte]
      · simp only [ex_val]; rw [if_neg (by omega), if_neg (by omega), if_neg (by omega), if_neg (by omega)]; exact s2
  · rintro t s c ⟨hI, q80⟩ hti htn
    obtain ⟨s0, s1, s2, hc, q3, q10, q12, q34, q35, q36⟩ := hI
    rw [List.take_length] at s1
    simp only [ex_code, ↓reduceIte]
    exact ⟨_, _, _, rfl, s0, s1, s2, by omega, by simp [ex_val, q3], by simp [ex_val, q10], by simp [ex_val, q12], by simp [ex_val, q34], by simp [ex_val, q35], by simp [ex_val, q36]⟩
end
end Zv
namespace Zv
open Go Ab
noncomputable section
theorem sites_ord {n : Nat} {l : List (Int × Int)} {i : Nat} (h : i < l.length) (hp : ordP2 l i = some (.int .i64 6)) (hb : ∀ j, j < i → ordP2 l j = none) : sitesD n l = .int .i64 6 := by
  unfold sitesD; rw [scan_at h hp hb]
theorem sites_rng {n : Nat} {l : List (Int × Int)} {i : Nat} (ho : ∀ j, j < l.length → ordP2 l j = none) (h : i < l.length) (hp : rngP n l i = some (.int .i64 7)) (hb : ∀ j, j < i → rngP n l j = none) : sitesD n l = .int .i64 7 := by
  unfold sitesD; rw [scan_end ho, scan_at h hp hb]
theorem sites_good {n : Nat} {l : List (Int × Int)} (ho : ∀ j, j < l.length → ordP2 l j = none) (hb : ∀ j, j < l.length → rngP n l j = none) : sitesD n l = .int .i64 0 := by
  unfold sitesD; rw [scan_end ho, scan_end hb]
theorem rng_lab {us : List Nat} {l : List (Int × Int)} (hb : ∀ j, j < l.length → rngP us.length l j = none) : LabOK us l := fun p hp => by
  obtain ⟨i, hi, rfl⟩ := List.mem_iff_getElem.1 hp
  have := hb i hi
  unfold rngP at this
  rw [lgetD hi] at this
  cases hc : (decide (0 ≤ l[i].2) && decide (l[i].2 < (us.length : Int)))
  · rw [hc] at this; cases this
  · simp only [Bool.and_eq_true, decide_eq_true_eq] at hc
    exact ⟨l[i].2.toNat, by omega, by omega⟩
theorem body_run (n : Nat) {ss : List (List UInt8)} {us : List Nat} {d e a b av : D} (hd : Sl 1 strC ss d) (he : Sl 1 u8C us e) (hu : Bytes8 us) (hC : CHK ss us = e2 0 0) (hul : us.length = ss.length) (hs8 : ss.length ≤ 8) {lm l : List (Int × Int)} (hav : Sl 2 siteC l av) (hl : l.length < 1000)
    (hkm : LabOK us lm) (hnm : (lm.map Prod.fst).Nodup) {k : Nat} {t : Tm} {s : St} {c : Nat} (hI : Inv29 d e a b av lm k t s c) :
    (∃ z t' s' c', sitesD ss.length l = .int .i64 z ∧ z ≠ 0 ∧ zC (.seq QA (.seq QB QC)) (cxn (n + 1)) (fn (n + 1) 4096) KK ⟨t, s, c, [], none⟩ = .ok .ret ⟨t', s', c', [], none⟩ ∧ tget t' 6 = .nils ∧ tget t' 7 = .int .i64 z) ∨
    (sitesD ss.length l = .int .i64 0 ∧ LabOK us l ∧ ∃ t' s' c', zC (.seq QA (.seq QB QC)) (cxn (n + 1)) (fn (n + 1) 4096) KK ⟨t, s, c, [], none⟩ = .ok .normal ⟨t', s', c', [], none⟩ ∧ Inv29 d e a b av (allM us ss.length lm l) k t' s' c') := by
  rcases QA_run (n + 1) hav hl hI with ⟨i, t', s', c', h1, h2, h3, h4, h5, h6⟩ | ⟨ho, t1, s1, c1, h1, hI1⟩
  · exact .inl ⟨6, t', s', c', sites_ord h1 h2 h3, by decide, by simp only [ex_code, h4], h5, h6⟩
  rcases QB_run (n + 1) hd hav hl hI1 with ⟨i, t', s', c', g1, g2, g3, g4, g5, g6⟩ | ⟨hr, t2, s2, c2, g1, hI2⟩
  · exact .inl ⟨7, t', s', c', sites_rng ho g1 g2 g3, by decide, by simp only [ex_code, h1, g4], g5, g6⟩
  have hk : LabOK us l := rng_lab (by rw [hul]; exact hr)
  obtain ⟨t3, s3, c3, k1, hI3⟩ := QC_run n hd he hu hC hul hs8 hav hl hk hkm hnm hI2
  exact .inr ⟨sites_good ho hr, hk, t3, s3, c3, by simp only [ex_code, h1, g1, k1], hI3⟩
def QR : AC := s QA (s QB QC)
theorem P3_eq2 : P3 = (.seq (.reg none [⟨(some 32), (.mv (.t 1)), none⟩, ⟨(some 33), (.mv (.t 2)), none⟩, ⟨(some 34), (.bsl 2 1 [.nils, .nils] [(0, 1, (.t 32)), (1, 1, (.t 33))]), none⟩, ⟨(some 35), (.len false (.t 34)), none⟩, ⟨(some 36), (.mv (.c (.int .i64 0))), none⟩]) (.block 0 (.loop (.seq (.reg none [⟨(some 37), (.bin .lss (.t 36) (.t 35)), none⟩]) (.seq (.cond (.t 37) .skip (.exit 0)) (.seq (.block 2 (.seq Q0 QR)) (.reg none [⟨(some 116), (.bin .add (.t 36) (.c (.int .i64 1))), none⟩, ⟨(some 36), (.mv (.t 116)), none⟩]))))))) := rfl
theorem body29_of (n : Nat) {X : R} {ss : List (List UInt8)} {us : List Nat} {d e a b av : D} {lm l : List (Int × Int)} {k : Nat} {t : Tm} {s : St} {c : Nat} (hX : zC QR (cxn (n + 1)) (fn (n + 1) 4096) KK ⟨t, s, c, [], none⟩ = X) (hd : Sl 1 strC ss d) (he : Sl 1 u8C us e) (hu : Bytes8 us) (hC : CHK ss us = e2 0 0) (hul : us.length = ss.length) (hs8 : ss.length ≤ 8) (hav : Sl 2 siteC l av) (hl : l.length < 1000)
    (hkm : LabOK us lm) (hnm : (lm.map Prod.fst).Nodup) (hI : Inv29 d e a b av lm k t s c) :
    (∃ z t' s' c', sitesD ss.length l = .int .i64 z ∧ z ≠ 0 ∧ X = .ok .ret ⟨t', s', c', [], none⟩ ∧ tget t' 6 = .nils ∧ tget t' 7 = .int .i64 z) ∨
    (sitesD ss.length l = .int .i64 0 ∧ LabOK us l ∧ ∃ t' s' c', X = .ok .normal ⟨t', s', c', [], none⟩ ∧ Inv29 d e a b av (allM us ss.length lm l) k t' s' c') := by
  subst hX; exact body_run n hd he hu hC hul hs8 hav hl hkm hnm hI
theorem P3_run (n : Nat) {ss : List (List UInt8)} {us : List Nat} {d e a b : D} (hd : Sl 1 strC ss d) (he : Sl 1 u8C us e) (hu : Bytes8 us) (hC : CHK ss us = e2 0 0) (hul : us.length = ss.length) (hs8 : ss.length ≤ 8) {l1 l2 : List (Int × Int)} (ha : Sl 2 siteC l1 a) (hb : Sl 2 siteC l2 b) (hl1 : l1.length < 400) (hl2 : l2.length < 400)
    {t : Tm} {s : St} (s0 : sget s 0 = some (.fix 26 [d, e])) (s1 : sget s 1 = some (.mp [] 0)) (q1 : tget t 1 = a) (q2 : tget t 2 = b) (q3 : tget t 3 = .ptr 0 0) (q10 : tget t 10 = .mp 1) :
    (∃ z t' s' c', mgE ss us l1 l2 z ∧ zC P3 (cxn (n + 1)) (fn (n + 1) 4096) KK ⟨t, s, 2, [], none⟩ = .ok .ret ⟨t', s', c', [], none⟩ ∧ tget t' 6 = .nils ∧ tget t' 7 = .int .i64 z) ∨
    (sitesD ss.length l1 = .int .i64 0 ∧ sitesD ss.length l2 = .int .i64 0 ∧ LabOK us l1 ∧ LabOK us l2 ∧ ∃ t' s' c', zC P3 (cxn (n + 1)) (fn (n + 1) 4096) KK ⟨t, s, 2, [], none⟩ = .ok .normal ⟨t', s', c', [], none⟩ ∧ 3 ≤ c' ∧ tget t' 10 = .mp 1 ∧
      sget s' 1 = some (.mp (mpE 0 (allM us ss.length (allM us ss.length [] l1) l2)) (allM us ss.length (allM us ss.length [] l1) l2).length)) := by
  rw [P3_eq2]
  simp only [start_eq, argTm, ex, exb, ↓reduceIte, Nat.reduceEqDiff, Nat.reduceAdd, Nat.reduceLeDiff, reduceCtorEq, beq_self_eq_true, q1, q2, q3, q10, s0, s1, ha.cellsq, hb.cellsq, show lenD false (.ms 2 0 1 2 2) = some 2 from rfl]
  generalize hz : zloop KK _ _ = rl
  refine zrange rl hz 2 (KK_lt (by omega)) (by omega) (fun k t s c => (k = 0 ∧ ∃ av, Inv29 d e a b av [] k t s c) ∨ (k = 1 ∧ (sitesD ss.length l1 = .int .i64 0 ∧ LabOK us l1) ∧ ∃ av, Inv29 d e a b av (allM us ss.length [] l1) k t s c) ∨
    (k = 2 ∧ (sitesD ss.length l1 = .int .i64 0 ∧ LabOK us l1) ∧ (sitesD ss.length l2 = .int .i64 0 ∧ LabOK us l2) ∧ ∃ av, Inv29 d e a b av (allM us ss.length (allM us ss.length [] l1) l2) k t s c)) (by decide) (by simp [ex_val]) (by simp [ex_val]) ?_ ?_ ?_
  · refine .inl ⟨rfl, tget t 12, ?_, ?_, ?_, Nat.le_refl _, ?_, ?_, ?_, ?_, ?_, ?_⟩ <;> simp [ex_val, s0, s1, q3, q10, mpE]
  · rintro k t s c hk hI hti htn
    have iv : ∀ {av lm}, Inv29 d e a b av lm k t s c → ∀ {av2 : D} {t2 : Tm}, tget t2 12 = av2 → (∀ j, j = 3 ∨ j = 10 ∨ j = 34 ∨ j = 35 ∨ j = 36 → tget t2 j = tget t j) → Inv29 d e a b av2 lm k t2 s c := fun h av2 t2 h12 ht => by
      obtain ⟨i0, i1, i2, ic, i3, i10, i12, i34, i35, i36⟩ := h
      exact ⟨i0, i1, i2, ic, by rw [ht 3 (by simp)]; exact i3, by rw [ht 10 (by simp)]; exact i10, h12, by rw [ht 34 (by simp)]; exact i34, by rw [ht 35 (by simp)]; exact i35, by rw [ht 36 (by simp)]; exact i36⟩
    rcases hI with ⟨rfl, av, hI⟩ | ⟨rfl, hg1, av, hI⟩ | ⟨rfl, _⟩
    · have hI' := hI
      obtain ⟨i0, i1, i2, ic, i3, i10, i12, i34, i35, i36⟩ := hI
      simp only [Q0, Ab.abq]
      simp only [start_eq, argTm, ex, exb, ↓reduceIte, Nat.reduceEqDiff, Nat.reduceAdd, Nat.reduceLeDiff, reduceCtorEq, beq_self_eq_true, i2, i34, hti, iaSD, show idxD 2 (.int .i64 ((0 : Nat) : Int)) = some 0 from rfl, Nat.zero_mul]
      generalize hX : zC QR _ _ _ _ = X
      rcases body29_of n hX hd he hu hC hul hs8 ha (by omega) (lm := []) (fun p hp => by simp at hp) List.nodup_nil (iv hI' (by simp [ex_val]) (by rintro j (rfl | rfl | rfl | rfl | rfl) <;> simp [ex_val])) with ⟨z, t', s', c', h1, h2, rfl, h5, h6⟩ | ⟨h1, h2, t', s', c', rfl, hI2⟩
      · simp only [ex_code, go1]
        exact .inl ⟨z, _, _, _, .inr (.inl ⟨hC, h1, h2⟩), rfl, h5, h6⟩
      · obtain ⟨j0, j1, j2, jc, j3, j10, j12, j34, j35, j36⟩ := hI2
        simp only [ex_code, go1]
        refine ⟨trivial, trivial, by simpa using j36, .inr (.inr (by simpa using j35)), nofun, nofun, .inr (.inl ⟨trivial, ⟨h1, h2⟩, a, ⟨j0, j1, j2, jc, by simp [ex_val, j3], by simp [ex_val, j10], by simp [ex_val, j12], by simp [ex_val, j34], by simp [ex_val, j35], by simp [ex_val]⟩⟩)⟩
    · skip
      have hI' := hI
      obtain ⟨i0, i1, i2, ic, i3, i10, i12, i34, i35, i36⟩ := hI
      obtain ⟨m1, m2, m3⟩ := allM_ok hC hul (l := l1) (lm := []) (fun p hp => by simp at hp) hg1.2 List.nodup_nil
      simp only [Q0, Ab.abq]
      simp only [start_eq, argTm, ex, exb, ↓reduceIte, Nat.reduceEqDiff, Nat.reduceAdd, Nat.reduceLeDiff, reduceCtorEq, beq_self_eq_true, i2, i34, hti, iaSD, show idxD 2 (.int .i64 ((1 : Nat) : Int)) = some 1 from rfl, Nat.one_mul]
      generalize hX : zC QR _ _ _ _ = X
      rcases body29_of n hX hd he hu hC hul hs8 hb (by omega) (lm := allM us ss.length [] l1) m1 m2 (iv hI' (by simp [ex_val]) (by rintro j (rfl | rfl | rfl | rfl | rfl) <;> simp [ex_val])) with ⟨z, t', s', c', h1, h2, rfl, h5, h6⟩ | ⟨h1, h2, t', s', c', rfl, hI2⟩
      · simp only [ex_code, go1]
        exact .inl ⟨z, _, _, _, .inr (.inr ⟨hC, hg1.1, h1, h2⟩), rfl, h5, h6⟩
      · obtain ⟨j0, j1, j2, jc, j3, j10, j12, j34, j35, j36⟩ := hI2
        simp only [ex_code, go1]
        refine ⟨trivial, trivial, by simpa using j36, .inr (.inr (by simpa using j35)), nofun, nofun, .inr (.inr ⟨trivial, hg1, ⟨h1, h2⟩, b, ⟨j0, j1, j2, jc, by simp [ex_val, j3], by simp [ex_val, j10], by simp [ex_val, j12], by simp [ex_val, j34], by simp [ex_val, j35], by simp [ex_val]⟩⟩)⟩
    · omega
  · rintro t s c hI hti htn
    rcases hI with ⟨h, _⟩ | ⟨h, _⟩ | ⟨_, hg1, hg2, av, i0, i1, i2, ic, i3, i10, i12, i34, i35, i36⟩
    · omega
    · omega
    · simp only [ex_code, ↓reduceIte]
      exact .inr ⟨hg1.1, hg2.1, hg1.2, hg2.2, _, _, _, rfl, ic, by simp [ex_val, i10], i1⟩
end
end Zv
namespace Zv
open Go
noncomputable section
theorem P3_of (n : Nat) {X : R} {ss : List (List UInt8)} {us : List Nat} {d e a b : D} {l1 l2 : List (Int × Int)} {t : Tm} {s : St} (hX : zC P3 (cxn (n + 1)) (fn (n + 1) 4096) KK ⟨t, s, 2, [], none⟩ = X) (hd : Sl 1 strC ss d) (he : Sl 1 u8C us e) (hu : Bytes8 us) (hC : CHK ss us = e2 0 0) (hul : us.length = ss.length) (hs8 : ss.length ≤ 8) (ha : Sl 2 siteC l1 a) (hb : Sl 2 siteC l2 b) (hl1 : l1.length < 400) (hl2 : l2.length < 400)
    (s0 : sget s 0 = some (.fix 26 [d, e])) (s1 : sget s 1 = some (.mp [] 0)) (q1 : tget t 1 = a) (q2 : tget t 2 = b) (q3 : tget t 3 = .ptr 0 0) (q10 : tget t 10 = .mp 1) :
    (∃ z t' s' c', mgE ss us l1 l2 z ∧ X = .ok .ret ⟨t', s', c', [], none⟩ ∧ tget t' 6 = .nils ∧ tget t' 7 = .int .i64 z) ∨
    (sitesD ss.length l1 = .int .i64 0 ∧ sitesD ss.length l2 = .int .i64 0 ∧ LabOK us l1 ∧ LabOK us l2 ∧ ∃ t' s' c', X = .ok .normal ⟨t', s', c', [], none⟩ ∧ 3 ≤ c' ∧ tget t' 10 = .mp 1 ∧
      sget s' 1 = some (.mp (mpE 0 (allM us ss.length (allM us ss.length [] l1) l2)) (allM us ss.length (allM us ss.length [] l1) l2).length)) := by
  subst hX; exact P3_run n hd he hu hC hul hs8 ha hb hl1 hl2 s0 s1 q1 q2 q3 q10
theorem c29_of {Q : R → Prop} (n : Nat) {ss : List (List UInt8)} {us : List Nat} {d e a b : D} (hd : Sl 1 strC ss d) (he : Sl 1 u8C us e) (hu : Bytes8 us) (hs : Small ss) {l1 l2 : List (Int × Int)} (ha : Sl 2 siteC l1 a) (hb : Sl 2 siteC l2 b) (hl1 : l1.length < 400) (hl2 : l2.length < 400) {p : D × Bool}
    (h0 : ∀ x z : Int, CHK ss us = e2 x z → z ≠ 0 → p = (.tup [.nils, .int .i64 z], true))
    (h1 : ∀ z : Int, mgE ss us l1 l2 z → p = (.tup [.nils, .int .i64 z], true))
    (h2 : ∀ lm, lm = allM us ss.length (allM us ss.length [] l1) l2 → CHK ss us = e2 0 0 → sitesD ss.length l1 = .int .i64 0 → sitesD ss.length l2 = .int .i64 0 → LabOK us l1 → LabOK us l2 → lm.length < 1000 → p = (.tup [.sl true lm.length (en2 (sortP lm)), .int .i64 0], true)) :
    cl (n + 6) 29 [.agg [d, e], a, b] = some p := by
  refine cl_orders (A := A29) rfl rfl (n + 6) _ rfl ?_
  show BAll _ (fun r => pout (zbody (dfn (n + 6) MM) A29 r) = some p)
  rw [show A29.body = B29 from rfl, B29_eq, W_seq1 (by rfl) (by rfl)]
  simp only [P0, Ab.abq]
  simp only [start_eq, argTm, ex, exb, ↓reduceIte, Nat.reduceEqDiff, Nat.reduceAdd, Nat.reduceLeDiff, reduceCtorEq, beq_self_eq_true, hd.nag, he.nag, zq_law]
  rw [W_seq1 (by rfl) (by rfl)]
  simp only [P1, Ab.abq]
  have htk : takeAt [d, e] 0 (some 2) = some (.agg [d, e]) := rfl
  rcases CHK_cases ss us with ⟨hC, hul, _, hs8, _⟩ | ⟨x, er, hC, hne⟩
  · simp only [start_eq, argTm, exq, ex_ls1, exb, ↓reduceIte, Nat.reduceEqDiff, Nat.reduceAdd, Nat.reduceLeDiff, reduceCtorEq, beq_self_eq_true, htk, fn_pure (f := 59) rfl, ex_call, hd.fz, he.fz, c59 n hd he hu hs, hC, namesD_e2, ne_eq, not_true_eq_false, eq_self, zq_law]
    rw [W_seq1 (by rfl) (by rfl)]
    simp only [P2, Ab.abq]
    simp only [start_eq, argTm, ex, exb, ↓reduceIte, Nat.reduceEqDiff, Nat.reduceAdd, Nat.reduceLeDiff, reduceCtorEq, beq_self_eq_true, zq_law]
    rw [W_seq1 (by rfl) (by rfl)]
    generalize hX : zC P3 _ _ _ _ = X
    rcases P3_of (n + 5) hX hd he hu hC hul hs8 ha hb hl1 hl2 (by simp [ex_val]) (by simp [ex_val]) (by simp [ex_val]) (by simp [ex_val]) (by simp [ex_val]) (by simp [ex_val]) with ⟨z, t', s', c', hz, rfl, q6, q7⟩ | ⟨g1, g2, k1, k2, t', s', c', rfl, hc', q10, hs1⟩
    · simp only [start_eq, argTm, ex, exb, ↓reduceIte, Nat.reduceEqDiff, Nat.reduceAdd, Nat.reduceLeDiff, reduceCtorEq, beq_self_eq_true, zq_law, q6, q7, A29]
      rw [h1 z hz]; rfl
    · simp only [zq_law]
      obtain ⟨m1, m2, m3⟩ := allM_ok hC hul (l := l1) (lm := []) (fun p hp => by simp at hp) k1 List.nodup_nil
      obtain ⟨n1, n2, n3⟩ := allM_ok hC hul m1 k2 m2
      rw [h2 _ rfl hC g1 g2 k1 k2 (by simp only [List.length_nil] at m3; omega)]
      exact tail29 (n + 6) n2 (by simp only [List.length_nil] at m3; omega) (show 1 < c' by omega) q10 hs1
  · simp only [start_eq, argTm, exq, ex_ls1, exb, ↓reduceIte, Nat.reduceEqDiff, Nat.reduceAdd, Nat.reduceLeDiff, reduceCtorEq, beq_self_eq_true, htk, fn_pure (f := 59) rfl, ex_call, hd.fz, he.fz, c59 n hd he hu hs, hC, namesD_e2, eq_false hne, ne_eq, not_false_eq_true, zq_law, A29]
    rw [h0 x er hC hne]; rfl
end
end Zv
namespace Zv
open Go
noncomputable section
def lk : List (Int × Int) → Int → Option Int
  | [], _ => none
  | p :: r, x => if x = p.1 then some p.2 else lk r x
def putR (us : List Nat) (x : Int) (lab : Nat) : List (Int × Int) → List (Int × Int)
  | [] => [(x, lab)]
  | p :: r => if p.1 < x then p :: putR us x lab r else if p.1 = x then (x, upD us lab p.2.toNat) :: r else (x, (lab : Int)) :: p :: r
theorem eqAt_cons (p : Int × Int) (r : List (Int × Int)) (x : Int) (h : p.1 < x) : eqAt (p :: r) x = eqAt r x := by
  unfold eqAt
  rw [show putAt (p :: r) x = putAt r x + 1 by rw [putAt, if_pos h], List.getElem?_cons_succ]
theorem putL_cons (us : List Nat) (p : Int × Int) (r : List (Int × Int)) (x : Int) (lab : Nat) (h : p.1 < x) : putL us (p :: r) x lab = p :: putL us r x lab := by
  unfold putL
  rw [eqAt_cons p r x h, show putAt (p :: r) x = putAt r x + 1 by rw [putAt, if_pos h]]
  simp only [List.take_succ_cons, List.getD_cons_succ, List.cons_append]
  cases eqAt r x <;> simp
theorem putL_putR (us : List Nat) (x : Int) (lab : Nat) : ∀ l, putL us l x lab = putR us x lab l
  | [] => by simp [putL, putR, eqAt, putAt]
  | p :: r => by
    by_cases h : p.1 < x
    · rw [putL_cons us p r x lab h, putL_putR us x lab r, putR, if_pos h]
    · rw [putR, if_neg h]
      unfold putL eqAt
      rw [show putAt (p :: r) x = 0 by rw [putAt, if_neg h]]
      by_cases e : p.1 = x
      · simp [e]
      · simp [e]
theorem lk_none {l : List (Int × Int)} {y : Int} (h : ∀ q ∈ l, y < q.1) : lk l y = none := by
  induction l with
  | nil => rfl
  | cons p r ih =>
    have h1 := h p (by simp)
    rw [lk, if_neg (by omega)]
    exact ih fun q hq => h q (by simp [hq])
theorem lk_mem : ∀ {l : List (Int × Int)} {y v : Int}, lk l y = some v → (y, v) ∈ l
  | [], _, _, h => by cases h
  | p :: r, y, v, h => by
    unfold lk at h
    split at h
    · rename_i e; cases h; subst e; simp
    · exact List.mem_cons_of_mem _ (lk_mem h)
theorem mem_lk : ∀ {l : List (Int × Int)} {y v : Int}, (l.map Prod.fst).Nodup → (y, v) ∈ l → lk l y = some v
  | [], _, _, _, h => by cases h
  | p :: r, y, v, hn, h => by
    rw [List.map_cons, List.nodup_cons] at hn
    unfold lk
    rcases List.mem_cons.1 h with e | h
    · rw [← e, if_pos rfl]
    · have hm : y ∈ r.map Prod.fst := List.mem_map_of_mem (f := Prod.fst) h
      rw [if_neg fun (e : y = p.1) => hn.1 (e ▸ hm)]
      exact mem_lk hn.2 h
theorem asc_nodup {l : List (Int × Int)} (h : Asc l) : (l.map Prod.fst).Nodup := List.pairwise_map.2 (h.imp fun h => by omega)
theorem lk_sort {l : List (Int × Int)} (hn : (l.map Prod.fst).Nodup) (y : Int) : lk (sortP l) y = lk l y := by
  have hn' := asc_nodup (sortP_asc hn)
  cases h : lk l y with
  | some v => exact mem_lk hn' ((sortP_perm l).mem_iff.2 (lk_mem h))
  | none =>
    cases h' : lk (sortP l) y with
    | none => rfl
    | some v => rw [mem_lk hn ((sortP_perm l).mem_iff.1 (lk_mem h'))] at h; cases h
theorem lk_ext : ∀ {l l' : List (Int × Int)}, Asc l → Asc l' → (∀ y, lk l y = lk l' y) → l = l'
  | [], [], _, _, _ => rfl
  | [], p :: r, _, _, h => by have := h p.1; rw [lk, lk, if_pos rfl] at this; cases this
  | p :: r, [], _, _, h => by have := h p.1; rw [lk, lk, if_pos rfl] at this; cases this
  | p :: r, q :: r', h1, h2, h => by
    have p1 := List.pairwise_cons.1 h1
    have p2 := List.pairwise_cons.1 h2
    have e : p.1 = q.1 := by
      have a := h p.1
      have b := h q.1
      rcases Int.lt_trichotomy p.1 q.1 with hc | hc | hc
      · rw [lk, if_pos rfl, lk, if_neg (by omega), lk_none fun z hz => by have := p2.1 z hz; omega] at a; cases a
      · exact hc
      · rw [lk, if_neg (by omega), lk_none (fun z hz => by have := p1.1 z hz; omega), lk, if_pos rfl] at b; cases b
    have ev : p.2 = q.2 := by
      have a := h p.1
      rw [lk, if_pos rfl, lk, if_pos e] at a; exact Option.some.inj a
    have er : r = r' := lk_ext p1.2 p2.2 fun y => by
      by_cases hy : y = p.1
      · rw [hy, lk_none fun z hz => p1.1 z hz, lk_none fun z hz => e ▸ p2.1 z hz]
      · have a := h y
        rwa [lk, if_neg hy, lk, if_neg (by rw [← e]; exact hy)] at a
    rw [er, Prod.ext e ev]
theorem lk_posM : ∀ (l : List (Int × Int)) (x : Int) (n : Nat), lk l x = (posM l x n).map Prod.snd
  | [], _, _ => rfl
  | p :: r, x, n => by
    unfold lk posM
    split
    · rfl
    · exact lk_posM r x (n + 1)
theorem posM_le : ∀ {l : List (Int × Int)} {x : Int} {n : Nat} {q : Nat × Int}, posM l x n = some q → n ≤ q.1
  | [], _, _, _, h => by cases h
  | p :: r, x, n, q, h => by
    unfold posM at h
    split at h
    · cases h; exact Nat.le_refl _
    · have := posM_le h; omega
theorem lk_setM : ∀ {l : List (Int × Int)} {x : Int} {n : Nat} {q : Nat × Int} (v y : Int), posM l x n = some q → lk (setM l (q.1 - n) v) y = if y = x then some v else lk l y
  | [], _, _, _, _, _, h => by cases h
  | p :: r, x, n, q, v, y, h => by
    have h0 := h
    unfold posM at h
    split at h
    · rename_i e; cases h
      rw [Nat.sub_self]
      by_cases hy : y = x
      · rw [setM, lk, if_pos (by rw [hy]; exact e), if_pos hy]
      · rw [setM, lk, if_neg (by rw [← e]; exact hy), if_neg hy, lk, if_neg (by rw [← e]; exact hy)]
    · rename_i hne
      have hle := posM_le h
      rw [show q.1 - n = (q.1 - (n + 1)) + 1 by omega, setM, lk, lk_setM v y h]
      by_cases hy : y = x
      · rw [if_neg (show ¬ y = p.1 by rw [hy]; exact hne), if_pos hy, if_pos hy]
      · rw [if_neg hy, if_neg hy, lk]
theorem lk_app (l : List (Int × Int)) (p : Int × Int) (y : Int) : lk (l ++ [p]) y = match lk l y with | some v => some v | none => if y = p.1 then some p.2 else none := by
  induction l with
  | nil => simp [lk]
  | cons q r ih =>
    rw [List.cons_append, lk, lk]
    split
    · rfl
    · exact ih
theorem lk_ins (us : List Nat) (n : Nat) (l : List (Int × Int)) (p : Int × Int) (y : Int) : lk (insM us n l p) y = if y = p.1 then some (match lk l p.1 with | some h => nearD (uM us) n h.toNat p.2.toNat | none => p.2) else lk l y := by
  unfold insM
  have h := lk_posM l p.1 0
  cases hq : posM l p.1 0 with
  | some q =>
    rw [hq] at h
    simp only [h, Option.map_some]
    have := lk_setM (nearD (uM us) n q.2.toNat p.2.toNat) y hq
    rwa [Nat.sub_zero] at this
  | none =>
    rw [hq] at h
    simp only [h, Option.map_none, lk_app]
    by_cases hy : y = p.1
    · rw [hy, h, if_pos rfl]; simp only [Option.map_none, if_pos rfl]; rfl
    · rw [if_neg hy, if_neg hy]; cases lk l y <;> rfl
theorem putR_mem {us : List Nat} {x : Int} {lab : Nat} : ∀ {l : List (Int × Int)} {q : Int × Int}, q ∈ putR us x lab l → q.1 = x ∨ q ∈ l
  | [], q, h => by simp only [putR, List.mem_singleton] at h; exact .inl (by rw [h])
  | p :: r, q, h => by
    unfold putR at h
    split at h
    · rcases List.mem_cons.1 h with rfl | h
      · exact .inr (by simp)
      · exact (putR_mem h).imp id fun h => List.mem_cons_of_mem _ h
    · split at h
      · rcases List.mem_cons.1 h with rfl | h
        · exact .inl rfl
        · exact .inr (List.mem_cons_of_mem _ h)
      · rcases List.mem_cons.1 h with rfl | h
        · exact .inl rfl
        · exact .inr h
theorem putR_asc {us : List Nat} {x : Int} {lab : Nat} : ∀ {l : List (Int × Int)}, Asc l → Asc (putR us x lab l)
  | [], _ => by simp [putR, Asc]
  | p :: r, h => by
    have h1 := List.pairwise_cons.1 h
    unfold putR
    split
    · rename_i hlt
      refine List.pairwise_cons.2 ⟨fun q hq => ?_, putR_asc h1.2⟩
      rcases putR_mem hq with e | e
      · rw [e]; exact hlt
      · exact h1.1 q e
    · split
      · rename_i e
        exact List.pairwise_cons.2 ⟨fun q hq => e ▸ h1.1 q hq, h1.2⟩
      · refine List.pairwise_cons.2 ⟨fun q hq => ?_, h⟩
        rcases List.mem_cons.1 hq with rfl | hq
        · show x < q.1; omega
        · have := h1.1 q hq; show x < q.1; omega
theorem lk_putR (us : List Nat) (x : Int) (lab : Nat) (y : Int) : ∀ {l : List (Int × Int)}, Asc l → lk (putR us x lab l) y = if y = x then some (match lk l x with | some h => upD us lab h.toNat | none => (lab : Int)) else lk l y
  | [], _ => by simp [putR, lk]
  | p :: r, h => by
    have h1 := List.pairwise_cons.1 h
    unfold putR
    split
    · rename_i hlt
      rw [lk, lk_putR us x lab y h1.2, lk, if_neg (show ¬ x = p.1 by omega), lk]
      by_cases hy : y = x
      · rw [if_neg (by omega), if_pos hy, if_pos hy]
      · rw [if_neg hy, if_neg hy]
    · split
      · rename_i e
        rw [lk, lk, if_pos (show x = p.1 by omega), lk, e]
        split <;> rfl
      · rw [lk]
        by_cases hy : y = x
        · rw [if_pos hy, if_pos hy, lk_none]
          intro q hq
          rcases List.mem_cons.1 hq with rfl | hq
          · omega
          · have := h1.1 q hq; omega
        · rw [if_neg hy, if_neg hy]
theorem nearD_comm (f : Nat → Nat) (n a b : Nat) : nearD f n a b = nearD f n b a := by
  unfold nearD; congr 1; funext c; unfold nearP; rw [Nat.and_comm]
theorem asc_of_ord {l : List (Int × Int)} (h : ∀ i, i < l.length → ordP2 l i = none) : Asc l := by
  have hs : ∀ i (hi : i + 1 < l.length), l[i].1 < l[i + 1].1 := fun i hi => by
    have := h (i + 1) hi
    unfold ordP2 at this
    rw [lgetD hi, lgetD (show i + 1 - 1 < l.length by omega)] at this
    split at this
    · cases this
    · rename_i hc; simp only [Nat.add_sub_cancel] at hc; omega
  unfold Asc
  rw [List.pairwise_iff_getElem]
  intro i j hi hj hij
  induction j with
  | zero => omega
  | succ j ih =>
    by_cases e : i = j
    · subst e; exact hs i hj
    · have := ih (by omega) (by omega); have := hs j hj; omega
theorem allM_nil_aux (us : List Nat) (n : Nat) : ∀ (l lm : List (Int × Int)), ((lm ++ l).map Prod.fst).Nodup → allM us n lm l = lm ++ l
  | [], lm, _ => (List.append_nil lm).symm
  | p :: r, lm, h => by
    have hno : posM lm p.1 0 = none := by
      cases hq : posM lm p.1 0 with
      | none => rfl
      | some q =>
        obtain ⟨p', h1, h2, _⟩ := posM_some hq
        rw [List.map_append, List.nodup_append] at h
        exact absurd h2 (h.2.2 _ (List.mem_map_of_mem h1) _ (by simp))
    have : allM us n lm (p :: r) = allM us n (lm ++ [p]) r := by
      show allM us n (insM us n lm p) r = _
      rw [insM, hno]
    rw [this, allM_nil_aux us n r (lm ++ [p]) (by rw [List.append_assoc]; exact h), List.append_assoc]; rfl
theorem allM_merge {ss : List (List UInt8)} {us : List Nat} (hC : CHK ss us = e2 0 0) (hl : us.length = ss.length) : ∀ {l lm L : List (Int × Int)}, LabOK us lm → LabOK us l → (lm.map Prod.fst).Nodup → Asc L → (∀ y, lk lm y = lk L y) →
    Asc (mergeL us L l) ∧ (∀ y, lk (allM us ss.length lm l) y = lk (mergeL us L l) y) ∧ ((allM us ss.length lm l).map Prod.fst).Nodup
  | [], lm, L, _, _, hn, hA, h => ⟨hA, h, hn⟩
  | p :: r, lm, L, hk, h2, hn, hA, h => by
    obtain ⟨a1, a2, a3⟩ := insM_ok hC hl hk (h2 p (by simp)) hn
    obtain ⟨k, hk1, hk2⟩ := h2 p (by simp)
    have hpt : putL us L p.1 p.2.toNat = putR us p.1 p.2.toNat L := putL_putR us _ _ L
    refine allM_merge hC hl (l := r) (lm := insM us ss.length lm p) (L := putL us L p.1 p.2.toNat) a1 (fun q hq => h2 q (by simp [hq])) a2 (by rw [hpt]; exact putR_asc hA) fun y => ?_
    rw [hpt, lk_putR us _ _ y hA, lk_ins, h p.1]
    split
    · congr 1
      cases hL : lk L p.1 with
      | none => simp only [hk1, Int.toNat_natCast]
      | some v =>
        have hm := lk_mem ((h p.1).trans hL)
        obtain ⟨k', hk', hkl'⟩ := hk _ hm
        simp only at hk' ⊢
        rw [nearD_comm, upD_near hC hl (by rw [hk1, Int.toNat_natCast]; omega) (by rw [hk', Int.toNat_natCast]; omega)]
    · exact h y
theorem merge_is {ss : List (List UInt8)} {us : List Nat} (hC : CHK ss us = e2 0 0) (hl : us.length = ss.length) {l1 l2 : List (Int × Int)} (h1 : ∀ i, i < l1.length → ordP2 l1 i = none) (hk1 : LabOK us l1) (hk2 : LabOK us l2) :
    sortP (allM us ss.length (allM us ss.length [] l1) l2) = mergeL us l1 l2 := by
  have hA := asc_of_ord h1
  have h0 : allM us ss.length [] l1 = l1 := allM_nil_aux us _ l1 [] (asc_nodup hA)
  rw [h0]
  obtain ⟨b1, b2, b3⟩ := allM_merge hC hl (l := l2) hk1 hk2 (asc_nodup hA) hA fun y => rfl
  exact lk_ext (sortP_asc b3) b1 fun y => (lk_sort b3 y).trans (b2 y)
end
end Zv
namespace Zv
open Go
noncomputable section
theorem labD_e2 (l : List (Int × Int)) (x : Int) : ∃ p q : Int, labD l x = e2 p q := by
  unfold labD
  rcases scan_cases (labP l x) (e2 0 4) l.length 0 with ⟨_, h⟩ | ⟨m, r, _, _, h3, _, h5⟩
  · exact ⟨0, 4, h⟩
  · rw [h5]
    unfold labP at h3
    split at h3
    · cases h3; exact ⟨_, 0, rfl⟩
    · cases h3
theorem nil_sl : Sl 2 siteC [] .nils := ⟨fun r hr => by simp at hr, .inl ⟨rfl, rfl⟩⟩
theorem en2_sl (l : List (Int × Int)) : Sl 2 siteC l (.sl true l.length (en2 l)) :=
  ⟨fun r hr => by simp only [List.mem_map] at hr; obtain ⟨p, _, rfl⟩ := hr; rfl, .inr ⟨true, by rw [← en2_flat, List.length_map]⟩⟩
theorem both_merge (n : Nat) {ss : List (List UInt8)} {us : List Nat} {d e a b : D} (hd : Sl 1 strC ss d) (he : Sl 1 u8C us e) (hu : Bytes8 us) (hs : Small ss) (hul : us.length < 9223372036854775807) {l1 l2 : List (Int × Int)} (ha : Sl 2 siteC l1 a) (hb : Sl 2 siteC l2 b) (hl1 : l1.length < 300) (hl2 : l2.length < 300) :
    (∃ z : Int, cl (n + 6) 29 [.agg [d, e], a, b] = some (.tup [.nils, .int .i64 z], true) ∧ cl (n + 6) 30 [.agg [d, e], a, b] = some (.tup [.nils, .int .i64 z], true)) ∨
    (∃ (l : List (Int × Int)) (r q : D) (f : Bool), l.length < 1000 ∧ cl (n + 6) 29 [.agg [d, e], a, b] = some (.tup [r, .int .i64 0], true) ∧ cl (n + 6) 30 [.agg [d, e], a, b] = some (.tup [q, .int .i64 0], f) ∧ Sl 2 siteC l r ∧ Sl 2 siteC l q) := by
  have tog : ∀ z z' : Int, mgE ss us l1 l2 z → mgE ss us l1 l2 z' → z' = z := fun z z' h h' => by
    have ij : ∀ {x y : Int}, D.int .i64 x = D.int .i64 y → x = y := fun h => by cases h; rfl
    rcases h with ⟨x, h1, h2⟩ | ⟨h1, h2, h3⟩ | ⟨h1, h2, h3, h4⟩ <;> rcases h' with ⟨x', k1, k2⟩ | ⟨k1, k2, k3⟩ | ⟨k1, k2, k3, k4⟩
    · exact (e2_inj (k1.symm.trans h1)).2
    · exact absurd (e2_inj (h1.symm.trans k1)).2 h2
    · exact absurd (e2_inj (h1.symm.trans k1)).2 h2
    · exact absurd (e2_inj (k1.symm.trans h1)).2 k2
    · exact ij (k2.symm.trans h2)
    · exact absurd (ij (h2.symm.trans k2)) h3
    · exact absurd (e2_inj (k1.symm.trans h1)).2 k2
    · exact absurd (ij (k2.symm.trans h2)) k3
    · exact ij (k3.symm.trans h3)
  by_cases hz : ∃ z, mgE ss us l1 l2 z
  · obtain ⟨z, hz⟩ := hz
    refine .inl ⟨z, ?_, c30e (n + 1) hd he hu hs ha hb hl1 hl2 hz⟩
    refine c29_of (Q := fun _ => True) n hd he hu hs ha hb (by omega) (by omega) (fun x z' h1 h2 => ?_) (fun z' hz' => by rw [tog z z' hz hz']) fun lm _ hC g1 g2 _ _ _ => ?_
    · rw [tog z z' hz (.inl ⟨x, h1, h2⟩)]
    · exfalso
      have ij : ∀ {x y : Int}, D.int .i64 x = D.int .i64 y → x = y := fun h => by cases h; rfl
      rcases hz with ⟨x, h1, h2⟩ | ⟨h1, h2, h3⟩ | ⟨h1, h2, h3, h4⟩
      · exact h2 (e2_inj (h1.symm.trans hC)).2
      · exact h3 (ij (h2.symm.trans g1))
      · exact h4 (ij (h3.symm.trans g2))
  · have hno : ∀ z, ¬ mgE ss us l1 l2 z := fun z h => hz ⟨z, h⟩
    rcases CHK_cases ss us with ⟨hC, hus, h1, h8, _⟩ | ⟨x, er, hC, hne⟩
    · have q1 : sitesD ss.length l1 = .int .i64 0 := by
        rcases sites_cases ss.length l1 with ⟨h, _⟩ | ⟨z, h, hne⟩
        · exact h
        · exact absurd (.inr (.inl ⟨hC, h, hne⟩)) (hno z)
      have q2 : sitesD ss.length l2 = .int .i64 0 := by
        rcases sites_cases ss.length l2 with ⟨h, _⟩ | ⟨z, h, hne⟩
        · exact h
        · exact absurd (.inr (.inr ⟨hC, q1, h, hne⟩)) (hno z)
      have lab : ∀ l : List (Int × Int), sitesD ss.length l = .int .i64 0 → (∀ i, i < l.length → ordP2 l i = none) ∧ LabOK us l := fun l hl => by
        rcases sites_cases ss.length l with ⟨_, ho, h⟩ | ⟨z, h, hne⟩
        · exact ⟨ho, fun p hp => ⟨p.2.toNat, by have := h p hp; omega, by have := h p hp; omega⟩⟩
        · rw [hl] at h; cases h; exact absurd rfl hne
      obtain ⟨ho1, k1⟩ := lab l1 q1
      obtain ⟨ho2, k2⟩ := lab l2 q2
      obtain ⟨r, f, hr, hsl⟩ := c30 (n + 1) hd he hu hs ha hb hl1 hl2 hC q1 q2 hul k1 k2
      have hm := merge_ok k1 k2
      refine .inr ⟨mergeL us l1 l2, .sl true (allM us ss.length (allM us ss.length [] l1) l2).length (en2 (mergeL us l1 l2)), r, f, by have := hm.2; omega, ?_, hr, ?_, hsl⟩
      · refine c29_of (Q := fun _ => True) n hd he hu hs ha hb (by omega) (by omega) (fun x z' h1 h2 => absurd (e2_inj (h1.symm.trans hC)).2 h2) (fun z' hz' => absurd hz' (hno z')) fun lm hlm _ _ _ _ _ _ => ?_
        subst hlm
        rw [merge_is hC hus ho1 k1 k2]
      · have hlen : (allM us ss.length (allM us ss.length [] l1) l2).length = (mergeL us l1 l2).length := by
          rw [← merge_is hC hus ho1 k1 k2]; exact ((sortP_perm _).length_eq).symm
        rw [hlen]; exact en2_sl _
    · exact absurd (.inl ⟨x, hC, hne⟩) (hno er)
theorem c8 (n : Nat) {ss : List (List UInt8)} {us : List Nat} {d e a b : D} (hd : Sl 1 strC ss d) (he : Sl 1 u8C us e) (hu : Bytes8 us) {l1 l2 : List (Int × Int)} (ha : Sl 2 siteC l1 a) (hb : Sl 2 siteC l2 b) (x : Int) :
    ∃ f, cl (n + 7) 8 [.agg [d, e], .agg [a, b], .int .i64 x] = some (.bool true, f) := by
  rw [cl_run (A := A8) rfl (n + 7) _ rfl, show A8.body = B8 from rfl]
  simp only [B8, Ab.abq]
  have htk : takeAt [d, e] 0 (some 2) = some (.agg [d, e]) := rfl
  have h28 := c28 (n + 6) hd he
  obtain ⟨p, q, hlab⟩ := labD_e2 l1 x
  have k12 : ∀ (n j : Nat) (s : St) (c : Nat), fn n (j + 1) (.fn 12) [] s c = .ok (.ret (.bool true)) s c := fun n j s c => fn_known (f := 12) rfl rfl rfl rfl rfl n j c
  have i0 : idxD 2 (.int .i64 0) = some 0 := rfl
  have i1 : idxD 2 (.int .i64 1) = some 1 := rfl
  have hpu : D.pures [D.agg [d, e], a, b] = true := by simp only [D.pures, D.pure, hd.pure, he.pure, ha.pure, hb.pure, Bool.and_self]
  have p0 : [a, b][0 * 1]? = some a := rfl
  have p1 : [a, b][1 * 1]? = some b := rfl
  have hs : LargeB ss us = false → Small ss := fun h => by
    unfold LargeB at h
    simp only [Bool.or_eq_false_iff, decide_eq_false_iff_not, List.any_eq_false, List.mem_range] at h
    obtain ⟨h1, h2, _⟩ := h
    intro s hs
    obtain ⟨i, hi, rfl⟩ := List.mem_iff_getElem.1 hs
    have := h1 i (by omega)
    rw [lgetD hi, decide_eq_true_eq] at this
    omega
  cases hL : LargeB ss us
  · by_cases g1 : 100 < l1.length
    · have t1 : decide ((100 : Int) < (l1.length : Int)) = true := decide_eq_true (by omega)
      simp only [start_eq, argTm, exq, ex_ls1, exb, ↓reduceIte, Nat.reduceEqDiff, Nat.reduceAdd, Nat.reduceLeDiff, reduceCtorEq, beq_self_eq_true, hd.nag, he.nag, ha.nag, hb.nag, htk, fn_pure (f := 28) rfl, ex_call, hd.fz, he.fz, h28, hL, ha.len, hb.len, k12, i0, i1, p0, p1, t1, A8]
      exact ⟨_, rfl⟩
    · have f1 : decide ((100 : Int) < (l1.length : Int)) = false := decide_eq_false (by omega)
      by_cases g2 : 100 < l2.length
      · have t2 : decide ((100 : Int) < (l2.length : Int)) = true := decide_eq_true (by omega)
        simp only [start_eq, argTm, exq, ex_ls1, exb, ↓reduceIte, Nat.reduceEqDiff, Nat.reduceAdd, Nat.reduceLeDiff, reduceCtorEq, beq_self_eq_true, hd.nag, he.nag, ha.nag, hb.nag, htk, fn_pure (f := 28) rfl, ex_call, hd.fz, he.fz, h28, hL, ha.len, hb.len, k12, i0, i1, p0, p1, f1, t2, A8]
        exact ⟨_, rfl⟩
      · have f2 : decide ((100 : Int) < (l2.length : Int)) = false := decide_eq_false (by omega)
        have h2 : us.length < 9223372036854775807 := by
          have h := hL
          unfold LargeB at h
          simp only [Bool.or_eq_false_iff, decide_eq_false_iff_not] at h
          omega
        have h31 := c31 (n + 6) ha (by omega) x
        have h32 := c32 (n + 6) ha (by omega) x
        rcases both_merge n hd he hu (hs hL) h2 ha hb (by omega) (by omega) with ⟨z, h29, h30⟩ | ⟨l, r, r', f, hl, h29, h30, hr, hr'⟩
        · have h33 := c33 (n + 6) (l := []) (a := .nils) (b := .nils) nil_sl nil_sl (by decide)
          simp only [start_eq, argTm, exq, ex_ls1, exb, ↓reduceIte, Nat.reduceEqDiff, Nat.reduceAdd, Nat.reduceLeDiff, reduceCtorEq, beq_self_eq_true, hd.nag, he.nag, ha.nag, hb.nag, htk, fn_pure (f := 28) rfl, fn_pure (f := 29) rfl, fn_pure (f := 30) rfl, fn_pure (f := 31) rfl, fn_pure (f := 32) rfl, fn_pure (f := 33) rfl, ex_call, hd.fz, he.fz, ha.fz, hb.fz, h28, hL, ha.len, hb.len, k12, i0, i1, p0, p1, f1, f2, h29, h30, h31, h32, hlab, namesD_e2, h33, A8]
          exact ⟨_, rfl⟩
        · have h33 := c33 (n + 6) hr hr' (by omega)
          simp only [start_eq, argTm, exq, ex_ls1, exb, ↓reduceIte, Nat.reduceEqDiff, Nat.reduceAdd, Nat.reduceLeDiff, reduceCtorEq, beq_self_eq_true, hd.nag, he.nag, ha.nag, hb.nag, htk, fn_pure (f := 28) rfl, fn_pure (f := 29) rfl, fn_pure (f := 30) rfl, fn_pure (f := 31) rfl, fn_pure (f := 32) rfl, fn_pure (f := 33) rfl, ex_call, hd.fz, he.fz, ha.fz, hb.fz, h28, hL, ha.len, hb.len, k12, i0, i1, p0, p1, f1, f2, h29, h30, h31, h32, hlab, namesD_e2, h33, hr.fz, hr'.fz, hpu, Bool.or_true, A8]
          exact ⟨_, rfl⟩
  · simp only [start_eq, argTm, exq, ex_ls1, exb, ↓reduceIte, Nat.reduceEqDiff, Nat.reduceAdd, Nat.reduceLeDiff, reduceCtorEq, beq_self_eq_true, hd.nag, he.nag, ha.nag, hb.nag, htk, fn_pure (f := 28) rfl, ex_call, hd.fz, he.fz, h28, hL, ha.len, hb.len, k12, i0, i1, p0, p1, A8]
    exact ⟨_, rfl⟩
end
end Zv
