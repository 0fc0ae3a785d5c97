/- Rules of good types: the results are good, and at or below those of the reference: plain laws. Conditions: none. -/
import Derived.Test.YtblbgjfkbcdlfaaGreatDoorLG
set_option linter.unusedVariables false
set_option linter.unusedSimpArgs false
set_option linter.unusedSectionVars false
set_option maxRecDepth 100000
namespace Go.Proofs.YtblbgjfkbcdlfaaGreatDoor
open Go Iv LatT

def GoodRes {T : LatT} (rank : Int) (res : Lab T × Lab T × Lab T × Lab T) (cost : Lab T) (L : Lab T × Lab T × Lab T × Lab T × Lab T) : Prop :=
  (ltZ rank 1 = true → res.1 = bot T) ∧ (ltZ rank 2 = true → res.2.1 = bot T) ∧ LatT.le res.1 res.2.2.1 ∧ LatT.le res.2.1 res.2.2.1 ∧ (ltZ rank 1 = false → LatT.le res.1 L.1) ∧ (ltZ rank 2 = false → LatT.le res.2.1 L.2.1) ∧
    LatT.le res.2.2.1 L.2.2.1 ∧ LatT.le res.2.2.2 L.2.2.2.1 ∧ LatT.le cost L.2.2.2.2
noncomputable def noTy (T : LatT) : TM T := ⟨0, bot T, bot T, bot T⟩
theorem le_ac {T : LatT} {a b : Lab T} (h : J a b = b) : LatT.le a b := (le_iff a b).2 h
theorem J_lcomm {T : LatT} (a b c : Lab T) : J a (J b c) = J b (J a c) := by rw [← J_assoc, J_comm a b, J_assoc]
theorem J_lidem {T : LatT} (a b : Lab T) : J a (J a b) = J a b := by rw [← J_assoc, J_idem]
theorem over {T : LatT} {a b d : Lab T} (h0 : LatT.le a d) (h1 : LatT.le b d) : ∃ x, d = J (J a b) x := ⟨d, by
  have h := J_mono h0 h1
  rw [J_idem, le_iff] at h; exact h.symm⟩
theorem g1_1 {T : LatT} {m : TM T} (h2 : m.r ≤ 2) (b0 : m.r < 1 → m.a0 = bot T) (b1 : m.r < 2 → m.a1 = bot T) (l0 : LatT.le m.a0 m.d) (l1 : LatT.le m.a1 m.d) (hok : okR1 1 m.r = true) : GoodRes (rankM 1 [(m.r : Int)]) (oneM 1 m) (costM 1 [m] (oneM 1 m)) (labM 1 m (noTy T)) := by
  obtain ⟨r, a0, a1, d⟩ := m
  simp only at h2 b0 b1 l0 l1 hok
  obtain ⟨x, rfl⟩ := over l0 l1
  clear l0 l1
  have hc : r = 0 ∨ r = 1 ∨ r = 2 := by omega
  rcases hc with rfl | rfl | rfl
  · obtain rfl := b0 (by omega)
    obtain rfl := b1 (by omega)
    refine ⟨fun hh => ?_, fun hh => ?_, ?_, ?_, fun hh => ?_, fun hh => ?_, ?_, ?_, ?_⟩
    · first | rfl | exact J_idem _ | exact absurd (show ltZ (rankM 1 [((0 : Nat) : Int)]) 1 = true from hh) (by decide)
    · first | rfl | exact J_idem _ | exact absurd (show ltZ (rankM 1 [((0 : Nat) : Int)]) 2 = true from hh) (by decide)
    all_goals clear hok
    all_goals (try clear hh)
    all_goals simp only [show eqZ ((0 : Nat) : Int) ((0 : Nat) : Int) = true from rfl, show ltZ 0 ((0 : Nat) : Int) = false from rfl, oneM, twoM, labM, noTy, costM, bigB, foldJ, List.map_cons, List.map_nil, List.foldl_cons, List.foldl_nil, TM.lens, lastM, foldM, ext, Nat.blt, Nat.ble, eqZ_eq, leZ_eq, ltZ_eq, Int.reduceBEq, Int.reduceLE, Int.reduceLT, decide_true, decide_false, Bool.or_false, Bool.or_true, Bool.or_self, Bool.and_self, Bool.and_true, Bool.and_false, cond_true, cond_false, J_bot, bot_J, J_idem]
    all_goals first | exact LatT.le_refl _ | exact bot_le _ | exact le_ac (by simp only [J_assoc, J_comm, J_lcomm, J_idem, J_lidem])
  · obtain rfl := b1 (by omega)
    refine ⟨fun hh => ?_, fun hh => ?_, ?_, ?_, fun hh => ?_, fun hh => ?_, ?_, ?_, ?_⟩
    · first | rfl | exact J_idem _ | exact absurd (show ltZ (rankM 1 [((1 : Nat) : Int)]) 1 = true from hh) (by decide)
    · first | rfl | exact J_idem _ | exact absurd (show ltZ (rankM 1 [((1 : Nat) : Int)]) 2 = true from hh) (by decide)
    all_goals clear hok
    all_goals (try clear hh)
    all_goals simp only [show eqZ ((1 : Nat) : Int) ((0 : Nat) : Int) = false from rfl, show ltZ 0 ((1 : Nat) : Int) = true from rfl, oneM, twoM, labM, noTy, costM, bigB, foldJ, List.map_cons, List.map_nil, List.foldl_cons, List.foldl_nil, TM.lens, lastM, foldM, ext, Nat.blt, Nat.ble, eqZ_eq, leZ_eq, ltZ_eq, Int.reduceBEq, Int.reduceLE, Int.reduceLT, decide_true, decide_false, Bool.or_false, Bool.or_true, Bool.or_self, Bool.and_self, Bool.and_true, Bool.and_false, cond_true, cond_false, J_bot, bot_J, J_idem]
    all_goals first | exact LatT.le_refl _ | exact bot_le _ | exact le_ac (by simp only [J_assoc, J_comm, J_lcomm, J_idem, J_lidem])
  · refine ⟨fun hh => ?_, fun hh => ?_, ?_, ?_, fun hh => ?_, fun hh => ?_, ?_, ?_, ?_⟩
    · first | rfl | exact J_idem _ | exact absurd (show ltZ (rankM 1 [((2 : Nat) : Int)]) 1 = true from hh) (by decide)
    · first | rfl | exact J_idem _ | exact absurd (show ltZ (rankM 1 [((2 : Nat) : Int)]) 2 = true from hh) (by decide)
    all_goals clear hok
    all_goals (try clear hh)
    all_goals simp only [show eqZ ((2 : Nat) : Int) ((0 : Nat) : Int) = false from rfl, show ltZ 0 ((2 : Nat) : Int) = true from rfl, oneM, twoM, labM, noTy, costM, bigB, foldJ, List.map_cons, List.map_nil, List.foldl_cons, List.foldl_nil, TM.lens, lastM, foldM, ext, Nat.blt, Nat.ble, eqZ_eq, leZ_eq, ltZ_eq, Int.reduceBEq, Int.reduceLE, Int.reduceLT, decide_true, decide_false, Bool.or_false, Bool.or_true, Bool.or_self, Bool.and_self, Bool.and_true, Bool.and_false, cond_true, cond_false, J_bot, bot_J, J_idem]
    all_goals first | exact LatT.le_refl _ | exact bot_le _ | exact le_ac (by simp only [J_assoc, J_comm, J_lcomm, J_idem, J_lidem])
theorem g1_2 {T : LatT} {m : TM T} (h2 : m.r ≤ 2) (b0 : m.r < 1 → m.a0 = bot T) (b1 : m.r < 2 → m.a1 = bot T) (l0 : LatT.le m.a0 m.d) (l1 : LatT.le m.a1 m.d) (hok : okR1 2 m.r = true) : GoodRes (rankM 2 [(m.r : Int)]) (oneM 2 m) (costM 2 [m] (oneM 2 m)) (labM 2 m (noTy T)) := by
  obtain ⟨r, a0, a1, d⟩ := m
  simp only at h2 b0 b1 l0 l1 hok
  obtain ⟨x, rfl⟩ := over l0 l1
  clear l0 l1
  have hc : r = 0 ∨ r = 1 ∨ r = 2 := by omega
  rcases hc with rfl | rfl | rfl
  · obtain rfl := b0 (by omega)
    obtain rfl := b1 (by omega)
    refine ⟨fun hh => ?_, fun hh => ?_, ?_, ?_, fun hh => ?_, fun hh => ?_, ?_, ?_, ?_⟩
    · first | rfl | exact J_idem _ | exact absurd (show ltZ (rankM 2 [((0 : Nat) : Int)]) 1 = true from hh) (by decide)
    · first | rfl | exact J_idem _ | exact absurd (show ltZ (rankM 2 [((0 : Nat) : Int)]) 2 = true from hh) (by decide)
    all_goals clear hok
    all_goals (try clear hh)
    all_goals simp only [show eqZ ((0 : Nat) : Int) ((0 : Nat) : Int) = true from rfl, show ltZ 0 ((0 : Nat) : Int) = false from rfl, oneM, twoM, labM, noTy, costM, bigB, foldJ, List.map_cons, List.map_nil, List.foldl_cons, List.foldl_nil, TM.lens, lastM, foldM, ext, Nat.blt, Nat.ble, eqZ_eq, leZ_eq, ltZ_eq, Int.reduceBEq, Int.reduceLE, Int.reduceLT, decide_true, decide_false, Bool.or_false, Bool.or_true, Bool.or_self, Bool.and_self, Bool.and_true, Bool.and_false, cond_true, cond_false, J_bot, bot_J, J_idem]
    all_goals first | exact LatT.le_refl _ | exact bot_le _ | exact le_ac (by simp only [J_assoc, J_comm, J_lcomm, J_idem, J_lidem])
  · obtain rfl := b1 (by omega)
    refine ⟨fun hh => ?_, fun hh => ?_, ?_, ?_, fun hh => ?_, fun hh => ?_, ?_, ?_, ?_⟩
    · first | rfl | exact J_idem _ | exact absurd (show ltZ (rankM 2 [((1 : Nat) : Int)]) 1 = true from hh) (by decide)
    · first | rfl | exact J_idem _ | exact absurd (show ltZ (rankM 2 [((1 : Nat) : Int)]) 2 = true from hh) (by decide)
    all_goals clear hok
    all_goals (try clear hh)
    all_goals simp only [show eqZ ((1 : Nat) : Int) ((0 : Nat) : Int) = false from rfl, show ltZ 0 ((1 : Nat) : Int) = true from rfl, oneM, twoM, labM, noTy, costM, bigB, foldJ, List.map_cons, List.map_nil, List.foldl_cons, List.foldl_nil, TM.lens, lastM, foldM, ext, Nat.blt, Nat.ble, eqZ_eq, leZ_eq, ltZ_eq, Int.reduceBEq, Int.reduceLE, Int.reduceLT, decide_true, decide_false, Bool.or_false, Bool.or_true, Bool.or_self, Bool.and_self, Bool.and_true, Bool.and_false, cond_true, cond_false, J_bot, bot_J, J_idem]
    all_goals first | exact LatT.le_refl _ | exact bot_le _ | exact le_ac (by simp only [J_assoc, J_comm, J_lcomm, J_idem, J_lidem])
  · refine ⟨fun hh => ?_, fun hh => ?_, ?_, ?_, fun hh => ?_, fun hh => ?_, ?_, ?_, ?_⟩
    · first | rfl | exact J_idem _ | exact absurd (show ltZ (rankM 2 [((2 : Nat) : Int)]) 1 = true from hh) (by decide)
    · first | rfl | exact J_idem _ | exact absurd (show ltZ (rankM 2 [((2 : Nat) : Int)]) 2 = true from hh) (by decide)
    all_goals clear hok
    all_goals (try clear hh)
    all_goals simp only [show eqZ ((2 : Nat) : Int) ((0 : Nat) : Int) = false from rfl, show ltZ 0 ((2 : Nat) : Int) = true from rfl, oneM, twoM, labM, noTy, costM, bigB, foldJ, List.map_cons, List.map_nil, List.foldl_cons, List.foldl_nil, TM.lens, lastM, foldM, ext, Nat.blt, Nat.ble, eqZ_eq, leZ_eq, ltZ_eq, Int.reduceBEq, Int.reduceLE, Int.reduceLT, decide_true, decide_false, Bool.or_false, Bool.or_true, Bool.or_self, Bool.and_self, Bool.and_true, Bool.and_false, cond_true, cond_false, J_bot, bot_J, J_idem]
    all_goals first | exact LatT.le_refl _ | exact bot_le _ | exact le_ac (by simp only [J_assoc, J_comm, J_lcomm, J_idem, J_lidem])
theorem g1_3 {T : LatT} {m : TM T} (h2 : m.r ≤ 2) (b0 : m.r < 1 → m.a0 = bot T) (b1 : m.r < 2 → m.a1 = bot T) (l0 : LatT.le m.a0 m.d) (l1 : LatT.le m.a1 m.d) (hok : okR1 3 m.r = true) : GoodRes (rankM 3 [(m.r : Int)]) (oneM 3 m) (costM 3 [m] (oneM 3 m)) (labM 3 m (noTy T)) := by
  obtain ⟨r, a0, a1, d⟩ := m
  simp only at h2 b0 b1 l0 l1 hok
  obtain ⟨x, rfl⟩ := over l0 l1
  clear l0 l1
  have hc : r = 0 ∨ r = 1 ∨ r = 2 := by omega
  rcases hc with rfl | rfl | rfl
  · obtain rfl := b0 (by omega)
    obtain rfl := b1 (by omega)
    refine ⟨fun hh => ?_, fun hh => ?_, ?_, ?_, fun hh => ?_, fun hh => ?_, ?_, ?_, ?_⟩
    · first | rfl | exact J_idem _ | exact absurd (show ltZ (rankM 3 [((0 : Nat) : Int)]) 1 = true from hh) (by decide)
    · first | rfl | exact J_idem _ | exact absurd (show ltZ (rankM 3 [((0 : Nat) : Int)]) 2 = true from hh) (by decide)
    all_goals clear hok
    all_goals (try clear hh)
    all_goals simp only [show eqZ ((0 : Nat) : Int) ((0 : Nat) : Int) = true from rfl, show ltZ 0 ((0 : Nat) : Int) = false from rfl, oneM, twoM, labM, noTy, costM, bigB, foldJ, List.map_cons, List.map_nil, List.foldl_cons, List.foldl_nil, TM.lens, lastM, foldM, ext, Nat.blt, Nat.ble, eqZ_eq, leZ_eq, ltZ_eq, Int.reduceBEq, Int.reduceLE, Int.reduceLT, decide_true, decide_false, Bool.or_false, Bool.or_true, Bool.or_self, Bool.and_self, Bool.and_true, Bool.and_false, cond_true, cond_false, J_bot, bot_J, J_idem]
    all_goals first | exact LatT.le_refl _ | exact bot_le _ | exact le_ac (by simp only [J_assoc, J_comm, J_lcomm, J_idem, J_lidem])
  · obtain rfl := b1 (by omega)
    refine ⟨fun hh => ?_, fun hh => ?_, ?_, ?_, fun hh => ?_, fun hh => ?_, ?_, ?_, ?_⟩
    · first | rfl | exact J_idem _ | exact absurd (show ltZ (rankM 3 [((1 : Nat) : Int)]) 1 = true from hh) (by decide)
    · first | rfl | exact J_idem _ | exact absurd (show ltZ (rankM 3 [((1 : Nat) : Int)]) 2 = true from hh) (by decide)
    all_goals clear hok
    all_goals (try clear hh)
    all_goals simp only [show eqZ ((1 : Nat) : Int) ((0 : Nat) : Int) = false from rfl, show ltZ 0 ((1 : Nat) : Int) = true from rfl, oneM, twoM, labM, noTy, costM, bigB, foldJ, List.map_cons, List.map_nil, List.foldl_cons, List.foldl_nil, TM.lens, lastM, foldM, ext, Nat.blt, Nat.ble, eqZ_eq, leZ_eq, ltZ_eq, Int.reduceBEq, Int.reduceLE, Int.reduceLT, decide_true, decide_false, Bool.or_false, Bool.or_true, Bool.or_self, Bool.and_self, Bool.and_true, Bool.and_false, cond_true, cond_false, J_bot, bot_J, J_idem]
    all_goals first | exact LatT.le_refl _ | exact bot_le _ | exact le_ac (by simp only [J_assoc, J_comm, J_lcomm, J_idem, J_lidem])
  · refine ⟨fun hh => ?_, fun hh => ?_, ?_, ?_, fun hh => ?_, fun hh => ?_, ?_, ?_, ?_⟩
    · first | rfl | exact J_idem _ | exact absurd (show ltZ (rankM 3 [((2 : Nat) : Int)]) 1 = true from hh) (by decide)
    · first | rfl | exact J_idem _ | exact absurd (show ltZ (rankM 3 [((2 : Nat) : Int)]) 2 = true from hh) (by decide)
    all_goals clear hok
    all_goals (try clear hh)
    all_goals simp only [show eqZ ((2 : Nat) : Int) ((0 : Nat) : Int) = false from rfl, show ltZ 0 ((2 : Nat) : Int) = true from rfl, oneM, twoM, labM, noTy, costM, bigB, foldJ, List.map_cons, List.map_nil, List.foldl_cons, List.foldl_nil, TM.lens, lastM, foldM, ext, Nat.blt, Nat.ble, eqZ_eq, leZ_eq, ltZ_eq, Int.reduceBEq, Int.reduceLE, Int.reduceLT, decide_true, decide_false, Bool.or_false, Bool.or_true, Bool.or_self, Bool.and_self, Bool.and_true, Bool.and_false, cond_true, cond_false, J_bot, bot_J, J_idem]
    all_goals first | exact LatT.le_refl _ | exact bot_le _ | exact le_ac (by simp only [J_assoc, J_comm, J_lcomm, J_idem, J_lidem])
theorem g1_4 {T : LatT} {m : TM T} (h2 : m.r ≤ 2) (b0 : m.r < 1 → m.a0 = bot T) (b1 : m.r < 2 → m.a1 = bot T) (l0 : LatT.le m.a0 m.d) (l1 : LatT.le m.a1 m.d) (hok : okR1 4 m.r = true) : GoodRes (rankM 4 [(m.r : Int)]) (oneM 4 m) (costM 4 [m] (oneM 4 m)) (labM 4 m (noTy T)) := by
  obtain ⟨r, a0, a1, d⟩ := m
  simp only at h2 b0 b1 l0 l1 hok
  obtain ⟨x, rfl⟩ := over l0 l1
  clear l0 l1
  have hc : r = 0 ∨ r = 1 ∨ r = 2 := by omega
  rcases hc with rfl | rfl | rfl
  · obtain rfl := b0 (by omega)
    obtain rfl := b1 (by omega)
    refine ⟨fun hh => ?_, fun hh => ?_, ?_, ?_, fun hh => ?_, fun hh => ?_, ?_, ?_, ?_⟩
    · first | rfl | exact J_idem _ | exact absurd (show ltZ (rankM 4 [((0 : Nat) : Int)]) 1 = true from hh) (by decide)
    · first | rfl | exact J_idem _ | exact absurd (show ltZ (rankM 4 [((0 : Nat) : Int)]) 2 = true from hh) (by decide)
    all_goals clear hok
    all_goals (try clear hh)
    all_goals simp only [show eqZ ((0 : Nat) : Int) ((0 : Nat) : Int) = true from rfl, show ltZ 0 ((0 : Nat) : Int) = false from rfl, oneM, twoM, labM, noTy, costM, bigB, foldJ, List.map_cons, List.map_nil, List.foldl_cons, List.foldl_nil, TM.lens, lastM, foldM, ext, Nat.blt, Nat.ble, eqZ_eq, leZ_eq, ltZ_eq, Int.reduceBEq, Int.reduceLE, Int.reduceLT, decide_true, decide_false, Bool.or_false, Bool.or_true, Bool.or_self, Bool.and_self, Bool.and_true, Bool.and_false, cond_true, cond_false, J_bot, bot_J, J_idem]
    all_goals first | exact LatT.le_refl _ | exact bot_le _ | exact le_ac (by simp only [J_assoc, J_comm, J_lcomm, J_idem, J_lidem])
  · obtain rfl := b1 (by omega)
    refine ⟨fun hh => ?_, fun hh => ?_, ?_, ?_, fun hh => ?_, fun hh => ?_, ?_, ?_, ?_⟩
    · first | rfl | exact J_idem _ | exact absurd (show ltZ (rankM 4 [((1 : Nat) : Int)]) 1 = true from hh) (by decide)
    · first | rfl | exact J_idem _ | exact absurd (show ltZ (rankM 4 [((1 : Nat) : Int)]) 2 = true from hh) (by decide)
    all_goals clear hok
    all_goals (try clear hh)
    all_goals simp only [show eqZ ((1 : Nat) : Int) ((0 : Nat) : Int) = false from rfl, show ltZ 0 ((1 : Nat) : Int) = true from rfl, oneM, twoM, labM, noTy, costM, bigB, foldJ, List.map_cons, List.map_nil, List.foldl_cons, List.foldl_nil, TM.lens, lastM, foldM, ext, Nat.blt, Nat.ble, eqZ_eq, leZ_eq, ltZ_eq, Int.reduceBEq, Int.reduceLE, Int.reduceLT, decide_true, decide_false, Bool.or_false, Bool.or_true, Bool.or_self, Bool.and_self, Bool.and_true, Bool.and_false, cond_true, cond_false, J_bot, bot_J, J_idem]
    all_goals first | exact LatT.le_refl _ | exact bot_le _ | exact le_ac (by simp only [J_assoc, J_comm, J_lcomm, J_idem, J_lidem])
  · refine ⟨fun hh => ?_, fun hh => ?_, ?_, ?_, fun hh => ?_, fun hh => ?_, ?_, ?_, ?_⟩
    · first | rfl | exact J_idem _ | exact absurd (show ltZ (rankM 4 [((2 : Nat) : Int)]) 1 = true from hh) (by decide)
    · first | rfl | exact J_idem _ | exact absurd (show ltZ (rankM 4 [((2 : Nat) : Int)]) 2 = true from hh) (by decide)
    all_goals clear hok
    all_goals (try clear hh)
    all_goals simp only [show eqZ ((2 : Nat) : Int) ((0 : Nat) : Int) = false from rfl, show ltZ 0 ((2 : Nat) : Int) = true from rfl, oneM, twoM, labM, noTy, costM, bigB, foldJ, List.map_cons, List.map_nil, List.foldl_cons, List.foldl_nil, TM.lens, lastM, foldM, ext, Nat.blt, Nat.ble, eqZ_eq, leZ_eq, ltZ_eq, Int.reduceBEq, Int.reduceLE, Int.reduceLT, decide_true, decide_false, Bool.or_false, Bool.or_true, Bool.or_self, Bool.and_self, Bool.and_true, Bool.and_false, cond_true, cond_false, J_bot, bot_J, J_idem]
    all_goals first | exact LatT.le_refl _ | exact bot_le _ | exact le_ac (by simp only [J_assoc, J_comm, J_lcomm, J_idem, J_lidem])
theorem g1_5 {T : LatT} {m : TM T} (h2 : m.r ≤ 2) (b0 : m.r < 1 → m.a0 = bot T) (b1 : m.r < 2 → m.a1 = bot T) (l0 : LatT.le m.a0 m.d) (l1 : LatT.le m.a1 m.d) (hok : okR1 5 m.r = true) : GoodRes (rankM 5 [(m.r : Int)]) (oneM 5 m) (costM 5 [m] (oneM 5 m)) (labM 5 m (noTy T)) := by
  obtain ⟨r, a0, a1, d⟩ := m
  simp only at h2 b0 b1 l0 l1 hok
  obtain ⟨x, rfl⟩ := over l0 l1
  clear l0 l1
  have hc : r = 0 ∨ r = 1 ∨ r = 2 := by omega
  rcases hc with rfl | rfl | rfl
  · obtain rfl := b0 (by omega)
    obtain rfl := b1 (by omega)
    refine ⟨fun hh => ?_, fun hh => ?_, ?_, ?_, fun hh => ?_, fun hh => ?_, ?_, ?_, ?_⟩
    · first | rfl | exact J_idem _ | exact absurd (show ltZ (rankM 5 [((0 : Nat) : Int)]) 1 = true from hh) (by decide)
    · first | rfl | exact J_idem _ | exact absurd (show ltZ (rankM 5 [((0 : Nat) : Int)]) 2 = true from hh) (by decide)
    all_goals clear hok
    all_goals (try clear hh)
    all_goals simp only [show eqZ ((0 : Nat) : Int) ((0 : Nat) : Int) = true from rfl, show ltZ 0 ((0 : Nat) : Int) = false from rfl, oneM, twoM, labM, noTy, costM, bigB, foldJ, List.map_cons, List.map_nil, List.foldl_cons, List.foldl_nil, TM.lens, lastM, foldM, ext, Nat.blt, Nat.ble, eqZ_eq, leZ_eq, ltZ_eq, Int.reduceBEq, Int.reduceLE, Int.reduceLT, decide_true, decide_false, Bool.or_false, Bool.or_true, Bool.or_self, Bool.and_self, Bool.and_true, Bool.and_false, cond_true, cond_false, J_bot, bot_J, J_idem]
    all_goals first | exact LatT.le_refl _ | exact bot_le _ | exact le_ac (by simp only [J_assoc, J_comm, J_lcomm, J_idem, J_lidem])
  · obtain rfl := b1 (by omega)
    refine ⟨fun hh => ?_, fun hh => ?_, ?_, ?_, fun hh => ?_, fun hh => ?_, ?_, ?_, ?_⟩
    · first | rfl | exact J_idem _ | exact absurd (show ltZ (rankM 5 [((1 : Nat) : Int)]) 1 = true from hh) (by decide)
    · first | rfl | exact J_idem _ | exact absurd (show ltZ (rankM 5 [((1 : Nat) : Int)]) 2 = true from hh) (by decide)
    all_goals clear hok
    all_goals (try clear hh)
    all_goals simp only [show eqZ ((1 : Nat) : Int) ((0 : Nat) : Int) = false from rfl, show ltZ 0 ((1 : Nat) : Int) = true from rfl, oneM, twoM, labM, noTy, costM, bigB, foldJ, List.map_cons, List.map_nil, List.foldl_cons, List.foldl_nil, TM.lens, lastM, foldM, ext, Nat.blt, Nat.ble, eqZ_eq, leZ_eq, ltZ_eq, Int.reduceBEq, Int.reduceLE, Int.reduceLT, decide_true, decide_false, Bool.or_false, Bool.or_true, Bool.or_self, Bool.and_self, Bool.and_true, Bool.and_false, cond_true, cond_false, J_bot, bot_J, J_idem]
    all_goals first | exact LatT.le_refl _ | exact bot_le _ | exact le_ac (by simp only [J_assoc, J_comm, J_lcomm, J_idem, J_lidem])
  · refine ⟨fun hh => ?_, fun hh => ?_, ?_, ?_, fun hh => ?_, fun hh => ?_, ?_, ?_, ?_⟩
    · first | rfl | exact J_idem _ | exact absurd (show ltZ (rankM 5 [((2 : Nat) : Int)]) 1 = true from hh) (by decide)
    · first | rfl | exact J_idem _ | exact absurd (show ltZ (rankM 5 [((2 : Nat) : Int)]) 2 = true from hh) (by decide)
    all_goals clear hok
    all_goals (try clear hh)
    all_goals simp only [show eqZ ((2 : Nat) : Int) ((0 : Nat) : Int) = false from rfl, show ltZ 0 ((2 : Nat) : Int) = true from rfl, oneM, twoM, labM, noTy, costM, bigB, foldJ, List.map_cons, List.map_nil, List.foldl_cons, List.foldl_nil, TM.lens, lastM, foldM, ext, Nat.blt, Nat.ble, eqZ_eq, leZ_eq, ltZ_eq, Int.reduceBEq, Int.reduceLE, Int.reduceLT, decide_true, decide_false, Bool.or_false, Bool.or_true, Bool.or_self, Bool.and_self, Bool.and_true, Bool.and_false, cond_true, cond_false, J_bot, bot_J, J_idem]
    all_goals first | exact LatT.le_refl _ | exact bot_le _ | exact le_ac (by simp only [J_assoc, J_comm, J_lcomm, J_idem, J_lidem])
theorem g1_6 {T : LatT} {m : TM T} (h2 : m.r ≤ 2) (b0 : m.r < 1 → m.a0 = bot T) (b1 : m.r < 2 → m.a1 = bot T) (l0 : LatT.le m.a0 m.d) (l1 : LatT.le m.a1 m.d) (hok : okR1 6 m.r = true) : GoodRes (rankM 6 [(m.r : Int)]) (oneM 6 m) (costM 6 [m] (oneM 6 m)) (labM 6 m (noTy T)) := by
  obtain ⟨r, a0, a1, d⟩ := m
  simp only at h2 b0 b1 l0 l1 hok
  obtain ⟨x, rfl⟩ := over l0 l1
  clear l0 l1
  have hc : r = 0 ∨ r = 1 ∨ r = 2 := by omega
  rcases hc with rfl | rfl | rfl
  · exact absurd hok (by decide)
  · obtain rfl := b1 (by omega)
    refine ⟨fun hh => ?_, fun hh => ?_, ?_, ?_, fun hh => ?_, fun hh => ?_, ?_, ?_, ?_⟩
    · first | rfl | exact J_idem _ | exact absurd (show ltZ (rankM 6 [((1 : Nat) : Int)]) 1 = true from hh) (by decide)
    · first | rfl | exact J_idem _ | exact absurd (show ltZ (rankM 6 [((1 : Nat) : Int)]) 2 = true from hh) (by decide)
    all_goals clear hok
    all_goals (try clear hh)
    all_goals simp only [show eqZ ((1 : Nat) : Int) ((0 : Nat) : Int) = false from rfl, show ltZ 0 ((1 : Nat) : Int) = true from rfl, oneM, twoM, labM, noTy, costM, bigB, foldJ, List.map_cons, List.map_nil, List.foldl_cons, List.foldl_nil, TM.lens, lastM, foldM, ext, Nat.blt, Nat.ble, eqZ_eq, leZ_eq, ltZ_eq, Int.reduceBEq, Int.reduceLE, Int.reduceLT, decide_true, decide_false, Bool.or_false, Bool.or_true, Bool.or_self, Bool.and_self, Bool.and_true, Bool.and_false, cond_true, cond_false, J_bot, bot_J, J_idem]
    all_goals first | exact LatT.le_refl _ | exact bot_le _ | exact le_ac (by simp only [J_assoc, J_comm, J_lcomm, J_idem, J_lidem])
  · refine ⟨fun hh => ?_, fun hh => ?_, ?_, ?_, fun hh => ?_, fun hh => ?_, ?_, ?_, ?_⟩
    · first | rfl | exact J_idem _ | exact absurd (show ltZ (rankM 6 [((2 : Nat) : Int)]) 1 = true from hh) (by decide)
    · first | rfl | exact J_idem _ | exact absurd (show ltZ (rankM 6 [((2 : Nat) : Int)]) 2 = true from hh) (by decide)
    all_goals clear hok
    all_goals (try clear hh)
    all_goals simp only [show eqZ ((2 : Nat) : Int) ((0 : Nat) : Int) = false from rfl, show ltZ 0 ((2 : Nat) : Int) = true from rfl, oneM, twoM, labM, noTy, costM, bigB, foldJ, List.map_cons, List.map_nil, List.foldl_cons, List.foldl_nil, TM.lens, lastM, foldM, ext, Nat.blt, Nat.ble, eqZ_eq, leZ_eq, ltZ_eq, Int.reduceBEq, Int.reduceLE, Int.reduceLT, decide_true, decide_false, Bool.or_false, Bool.or_true, Bool.or_self, Bool.and_self, Bool.and_true, Bool.and_false, cond_true, cond_false, J_bot, bot_J, J_idem]
    all_goals first | exact LatT.le_refl _ | exact bot_le _ | exact le_ac (by simp only [J_assoc, J_comm, J_lcomm, J_idem, J_lidem])
theorem g1_7 {T : LatT} {m : TM T} (h2 : m.r ≤ 2) (b0 : m.r < 1 → m.a0 = bot T) (b1 : m.r < 2 → m.a1 = bot T) (l0 : LatT.le m.a0 m.d) (l1 : LatT.le m.a1 m.d) (hok : okR1 7 m.r = true) : GoodRes (rankM 7 [(m.r : Int)]) (oneM 7 m) (costM 7 [m] (oneM 7 m)) (labM 7 m (noTy T)) := by
  obtain ⟨r, a0, a1, d⟩ := m
  simp only at h2 b0 b1 l0 l1 hok
  obtain ⟨x, rfl⟩ := over l0 l1
  clear l0 l1
  have hc : r = 0 ∨ r = 1 ∨ r = 2 := by omega
  rcases hc with rfl | rfl | rfl
  · exact absurd hok (by decide)
  · exact absurd hok (by decide)
  · refine ⟨fun hh => ?_, fun hh => ?_, ?_, ?_, fun hh => ?_, fun hh => ?_, ?_, ?_, ?_⟩
    · first | rfl | exact J_idem _ | exact absurd (show ltZ (rankM 7 [((2 : Nat) : Int)]) 1 = true from hh) (by decide)
    · first | rfl | exact J_idem _ | exact absurd (show ltZ (rankM 7 [((2 : Nat) : Int)]) 2 = true from hh) (by decide)
    all_goals clear hok
    all_goals (try clear hh)
    all_goals simp only [show eqZ ((2 : Nat) : Int) ((0 : Nat) : Int) = false from rfl, show ltZ 0 ((2 : Nat) : Int) = true from rfl, oneM, twoM, labM, noTy, costM, bigB, foldJ, List.map_cons, List.map_nil, List.foldl_cons, List.foldl_nil, TM.lens, lastM, foldM, ext, Nat.blt, Nat.ble, eqZ_eq, leZ_eq, ltZ_eq, Int.reduceBEq, Int.reduceLE, Int.reduceLT, decide_true, decide_false, Bool.or_false, Bool.or_true, Bool.or_self, Bool.and_self, Bool.and_true, Bool.and_false, cond_true, cond_false, J_bot, bot_J, J_idem]
    all_goals first | exact LatT.le_refl _ | exact bot_le _ | exact le_ac (by simp only [J_assoc, J_comm, J_lcomm, J_idem, J_lidem])
theorem g1_8 {T : LatT} {m : TM T} (h2 : m.r ≤ 2) (b0 : m.r < 1 → m.a0 = bot T) (b1 : m.r < 2 → m.a1 = bot T) (l0 : LatT.le m.a0 m.d) (l1 : LatT.le m.a1 m.d) (hok : okR1 8 m.r = true) : GoodRes (rankM 8 [(m.r : Int)]) (oneM 8 m) (costM 8 [m] (oneM 8 m)) (labM 8 m (noTy T)) := by
  obtain ⟨r, a0, a1, d⟩ := m
  simp only at h2 b0 b1 l0 l1 hok
  obtain ⟨x, rfl⟩ := over l0 l1
  clear l0 l1
  have hc : r = 0 ∨ r = 1 ∨ r = 2 := by omega
  rcases hc with rfl | rfl | rfl
  · obtain rfl := b0 (by omega)
    obtain rfl := b1 (by omega)
    refine ⟨fun hh => ?_, fun hh => ?_, ?_, ?_, fun hh => ?_, fun hh => ?_, ?_, ?_, ?_⟩
    · first | rfl | exact J_idem _ | exact absurd (show ltZ (rankM 8 [((0 : Nat) : Int)]) 1 = true from hh) (by decide)
    · first | rfl | exact J_idem _ | exact absurd (show ltZ (rankM 8 [((0 : Nat) : Int)]) 2 = true from hh) (by decide)
    all_goals clear hok
    all_goals (try clear hh)
    all_goals simp only [show eqZ ((0 : Nat) : Int) ((0 : Nat) : Int) = true from rfl, show ltZ 0 ((0 : Nat) : Int) = false from rfl, oneM, twoM, labM, noTy, costM, bigB, foldJ, List.map_cons, List.map_nil, List.foldl_cons, List.foldl_nil, TM.lens, lastM, foldM, ext, Nat.blt, Nat.ble, eqZ_eq, leZ_eq, ltZ_eq, Int.reduceBEq, Int.reduceLE, Int.reduceLT, decide_true, decide_false, Bool.or_false, Bool.or_true, Bool.or_self, Bool.and_self, Bool.and_true, Bool.and_false, cond_true, cond_false, J_bot, bot_J, J_idem]
    all_goals first | exact LatT.le_refl _ | exact bot_le _ | exact le_ac (by simp only [J_assoc, J_comm, J_lcomm, J_idem, J_lidem])
  · exact absurd hok (by decide)
  · exact absurd hok (by decide)
theorem g1_9 {T : LatT} {m : TM T} (h2 : m.r ≤ 2) (b0 : m.r < 1 → m.a0 = bot T) (b1 : m.r < 2 → m.a1 = bot T) (l0 : LatT.le m.a0 m.d) (l1 : LatT.le m.a1 m.d) (hok : okR1 9 m.r = true) : GoodRes (rankM 9 [(m.r : Int)]) (oneM 9 m) (costM 9 [m] (oneM 9 m)) (labM 9 m (noTy T)) := by
  obtain ⟨r, a0, a1, d⟩ := m
  simp only at h2 b0 b1 l0 l1 hok
  obtain ⟨x, rfl⟩ := over l0 l1
  clear l0 l1
  have hc : r = 0 ∨ r = 1 ∨ r = 2 := by omega
  rcases hc with rfl | rfl | rfl
  · exact absurd hok (by decide)
  · obtain rfl := b1 (by omega)
    refine ⟨fun hh => ?_, fun hh => ?_, ?_, ?_, fun hh => ?_, fun hh => ?_, ?_, ?_, ?_⟩
    · first | rfl | exact J_idem _ | exact absurd (show ltZ (rankM 9 [((1 : Nat) : Int)]) 1 = true from hh) (by decide)
    · first | rfl | exact J_idem _ | exact absurd (show ltZ (rankM 9 [((1 : Nat) : Int)]) 2 = true from hh) (by decide)
    all_goals clear hok
    all_goals (try clear hh)
    all_goals simp only [show eqZ ((1 : Nat) : Int) ((0 : Nat) : Int) = false from rfl, show ltZ 0 ((1 : Nat) : Int) = true from rfl, oneM, twoM, labM, noTy, costM, bigB, foldJ, List.map_cons, List.map_nil, List.foldl_cons, List.foldl_nil, TM.lens, lastM, foldM, ext, Nat.blt, Nat.ble, eqZ_eq, leZ_eq, ltZ_eq, Int.reduceBEq, Int.reduceLE, Int.reduceLT, decide_true, decide_false, Bool.or_false, Bool.or_true, Bool.or_self, Bool.and_self, Bool.and_true, Bool.and_false, cond_true, cond_false, J_bot, bot_J, J_idem]
    all_goals first | exact LatT.le_refl _ | exact bot_le _ | exact le_ac (by simp only [J_assoc, J_comm, J_lcomm, J_idem, J_lidem])
  · refine ⟨fun hh => ?_, fun hh => ?_, ?_, ?_, fun hh => ?_, fun hh => ?_, ?_, ?_, ?_⟩
    · first | rfl | exact J_idem _ | exact absurd (show ltZ (rankM 9 [((2 : Nat) : Int)]) 1 = true from hh) (by decide)
    · first | rfl | exact J_idem _ | exact absurd (show ltZ (rankM 9 [((2 : Nat) : Int)]) 2 = true from hh) (by decide)
    all_goals clear hok
    all_goals (try clear hh)
    all_goals simp only [show eqZ ((2 : Nat) : Int) ((0 : Nat) : Int) = false from rfl, show ltZ 0 ((2 : Nat) : Int) = true from rfl, oneM, twoM, labM, noTy, costM, bigB, foldJ, List.map_cons, List.map_nil, List.foldl_cons, List.foldl_nil, TM.lens, lastM, foldM, ext, Nat.blt, Nat.ble, eqZ_eq, leZ_eq, ltZ_eq, Int.reduceBEq, Int.reduceLE, Int.reduceLT, decide_true, decide_false, Bool.or_false, Bool.or_true, Bool.or_self, Bool.and_self, Bool.and_true, Bool.and_false, cond_true, cond_false, J_bot, bot_J, J_idem]
    all_goals first | exact LatT.le_refl _ | exact bot_le _ | exact le_ac (by simp only [J_assoc, J_comm, J_lcomm, J_idem, J_lidem])
theorem g1_10 {T : LatT} {m : TM T} (h2 : m.r ≤ 2) (b0 : m.r < 1 → m.a0 = bot T) (b1 : m.r < 2 → m.a1 = bot T) (l0 : LatT.le m.a0 m.d) (l1 : LatT.le m.a1 m.d) (hok : okR1 10 m.r = true) : GoodRes (rankM 10 [(m.r : Int)]) (oneM 10 m) (costM 10 [m] (oneM 10 m)) (labM 10 m (noTy T)) := by
  obtain ⟨r, a0, a1, d⟩ := m
  simp only at h2 b0 b1 l0 l1 hok
  obtain ⟨x, rfl⟩ := over l0 l1
  clear l0 l1
  have hc : r = 0 ∨ r = 1 ∨ r = 2 := by omega
  rcases hc with rfl | rfl | rfl
  · exact absurd hok (by decide)
  · obtain rfl := b1 (by omega)
    refine ⟨fun hh => ?_, fun hh => ?_, ?_, ?_, fun hh => ?_, fun hh => ?_, ?_, ?_, ?_⟩
    · first | rfl | exact J_idem _ | exact absurd (show ltZ (rankM 10 [((1 : Nat) : Int)]) 1 = true from hh) (by decide)
    · first | rfl | exact J_idem _ | exact absurd (show ltZ (rankM 10 [((1 : Nat) : Int)]) 2 = true from hh) (by decide)
    all_goals clear hok
    all_goals (try clear hh)
    all_goals simp only [show eqZ ((1 : Nat) : Int) ((0 : Nat) : Int) = false from rfl, show ltZ 0 ((1 : Nat) : Int) = true from rfl, oneM, twoM, labM, noTy, costM, bigB, foldJ, List.map_cons, List.map_nil, List.foldl_cons, List.foldl_nil, TM.lens, lastM, foldM, ext, Nat.blt, Nat.ble, eqZ_eq, leZ_eq, ltZ_eq, Int.reduceBEq, Int.reduceLE, Int.reduceLT, decide_true, decide_false, Bool.or_false, Bool.or_true, Bool.or_self, Bool.and_self, Bool.and_true, Bool.and_false, cond_true, cond_false, J_bot, bot_J, J_idem]
    all_goals first | exact LatT.le_refl _ | exact bot_le _ | exact le_ac (by simp only [J_assoc, J_comm, J_lcomm, J_idem, J_lidem])
  · refine ⟨fun hh => ?_, fun hh => ?_, ?_, ?_, fun hh => ?_, fun hh => ?_, ?_, ?_, ?_⟩
    · first | rfl | exact J_idem _ | exact absurd (show ltZ (rankM 10 [((2 : Nat) : Int)]) 1 = true from hh) (by decide)
    · first | rfl | exact J_idem _ | exact absurd (show ltZ (rankM 10 [((2 : Nat) : Int)]) 2 = true from hh) (by decide)
    all_goals clear hok
    all_goals (try clear hh)
    all_goals simp only [show eqZ ((2 : Nat) : Int) ((0 : Nat) : Int) = false from rfl, show ltZ 0 ((2 : Nat) : Int) = true from rfl, oneM, twoM, labM, noTy, costM, bigB, foldJ, List.map_cons, List.map_nil, List.foldl_cons, List.foldl_nil, TM.lens, lastM, foldM, ext, Nat.blt, Nat.ble, eqZ_eq, leZ_eq, ltZ_eq, Int.reduceBEq, Int.reduceLE, Int.reduceLT, decide_true, decide_false, Bool.or_false, Bool.or_true, Bool.or_self, Bool.and_self, Bool.and_true, Bool.and_false, cond_true, cond_false, J_bot, bot_J, J_idem]
    all_goals first | exact LatT.le_refl _ | exact bot_le _ | exact le_ac (by simp only [J_assoc, J_comm, J_lcomm, J_idem, J_lidem])
theorem g1_11 {T : LatT} {m : TM T} (h2 : m.r ≤ 2) (b0 : m.r < 1 → m.a0 = bot T) (b1 : m.r < 2 → m.a1 = bot T) (l0 : LatT.le m.a0 m.d) (l1 : LatT.le m.a1 m.d) (hok : okR1 11 m.r = true) : GoodRes (rankM 11 [(m.r : Int)]) (oneM 11 m) (costM 11 [m] (oneM 11 m)) (labM 11 m (noTy T)) := by
  obtain ⟨r, a0, a1, d⟩ := m
  simp only at h2 b0 b1 l0 l1 hok
  obtain ⟨x, rfl⟩ := over l0 l1
  clear l0 l1
  have hc : r = 0 ∨ r = 1 ∨ r = 2 := by omega
  rcases hc with rfl | rfl | rfl
  · exact absurd hok (by decide)
  · obtain rfl := b1 (by omega)
    refine ⟨fun hh => ?_, fun hh => ?_, ?_, ?_, fun hh => ?_, fun hh => ?_, ?_, ?_, ?_⟩
    · first | rfl | exact J_idem _ | exact absurd (show ltZ (rankM 11 [((1 : Nat) : Int)]) 1 = true from hh) (by decide)
    · first | rfl | exact J_idem _ | exact absurd (show ltZ (rankM 11 [((1 : Nat) : Int)]) 2 = true from hh) (by decide)
    all_goals clear hok
    all_goals (try clear hh)
    all_goals simp only [show eqZ ((1 : Nat) : Int) ((0 : Nat) : Int) = false from rfl, show ltZ 0 ((1 : Nat) : Int) = true from rfl, oneM, twoM, labM, noTy, costM, bigB, foldJ, List.map_cons, List.map_nil, List.foldl_cons, List.foldl_nil, TM.lens, lastM, foldM, ext, Nat.blt, Nat.ble, eqZ_eq, leZ_eq, ltZ_eq, Int.reduceBEq, Int.reduceLE, Int.reduceLT, decide_true, decide_false, Bool.or_false, Bool.or_true, Bool.or_self, Bool.and_self, Bool.and_true, Bool.and_false, cond_true, cond_false, J_bot, bot_J, J_idem]
    all_goals first | exact LatT.le_refl _ | exact bot_le _ | exact le_ac (by simp only [J_assoc, J_comm, J_lcomm, J_idem, J_lidem])
  · refine ⟨fun hh => ?_, fun hh => ?_, ?_, ?_, fun hh => ?_, fun hh => ?_, ?_, ?_, ?_⟩
    · first | rfl | exact J_idem _ | exact absurd (show ltZ (rankM 11 [((2 : Nat) : Int)]) 1 = true from hh) (by decide)
    · first | rfl | exact J_idem _ | exact absurd (show ltZ (rankM 11 [((2 : Nat) : Int)]) 2 = true from hh) (by decide)
    all_goals clear hok
    all_goals (try clear hh)
    all_goals simp only [show eqZ ((2 : Nat) : Int) ((0 : Nat) : Int) = false from rfl, show ltZ 0 ((2 : Nat) : Int) = true from rfl, oneM, twoM, labM, noTy, costM, bigB, foldJ, List.map_cons, List.map_nil, List.foldl_cons, List.foldl_nil, TM.lens, lastM, foldM, ext, Nat.blt, Nat.ble, eqZ_eq, leZ_eq, ltZ_eq, Int.reduceBEq, Int.reduceLE, Int.reduceLT, decide_true, decide_false, Bool.or_false, Bool.or_true, Bool.or_self, Bool.and_self, Bool.and_true, Bool.and_false, cond_true, cond_false, J_bot, bot_J, J_idem]
    all_goals first | exact LatT.le_refl _ | exact bot_le _ | exact le_ac (by simp only [J_assoc, J_comm, J_lcomm, J_idem, J_lidem])
theorem g1_12 {T : LatT} {m : TM T} (h2 : m.r ≤ 2) (b0 : m.r < 1 → m.a0 = bot T) (b1 : m.r < 2 → m.a1 = bot T) (l0 : LatT.le m.a0 m.d) (l1 : LatT.le m.a1 m.d) (hok : okR1 12 m.r = true) : GoodRes (rankM 12 [(m.r : Int)]) (oneM 12 m) (costM 12 [m] (oneM 12 m)) (labM 12 m (noTy T)) := by
  obtain ⟨r, a0, a1, d⟩ := m
  simp only at h2 b0 b1 l0 l1 hok
  obtain ⟨x, rfl⟩ := over l0 l1
  clear l0 l1
  have hc : r = 0 ∨ r = 1 ∨ r = 2 := by omega
  rcases hc with rfl | rfl | rfl
  · exact absurd hok (by decide)
  · obtain rfl := b1 (by omega)
    refine ⟨fun hh => ?_, fun hh => ?_, ?_, ?_, fun hh => ?_, fun hh => ?_, ?_, ?_, ?_⟩
    · first | rfl | exact J_idem _ | exact absurd (show ltZ (rankM 12 [((1 : Nat) : Int)]) 1 = true from hh) (by decide)
    · first | rfl | exact J_idem _ | exact absurd (show ltZ (rankM 12 [((1 : Nat) : Int)]) 2 = true from hh) (by decide)
    all_goals clear hok
    all_goals (try clear hh)
    all_goals simp only [show eqZ ((1 : Nat) : Int) ((0 : Nat) : Int) = false from rfl, show ltZ 0 ((1 : Nat) : Int) = true from rfl, oneM, twoM, labM, noTy, costM, bigB, foldJ, List.map_cons, List.map_nil, List.foldl_cons, List.foldl_nil, TM.lens, lastM, foldM, ext, Nat.blt, Nat.ble, eqZ_eq, leZ_eq, ltZ_eq, Int.reduceBEq, Int.reduceLE, Int.reduceLT, decide_true, decide_false, Bool.or_false, Bool.or_true, Bool.or_self, Bool.and_self, Bool.and_true, Bool.and_false, cond_true, cond_false, J_bot, bot_J, J_idem]
    all_goals first | exact LatT.le_refl _ | exact bot_le _ | exact le_ac (by simp only [J_assoc, J_comm, J_lcomm, J_idem, J_lidem])
  · refine ⟨fun hh => ?_, fun hh => ?_, ?_, ?_, fun hh => ?_, fun hh => ?_, ?_, ?_, ?_⟩
    · first | rfl | exact J_idem _ | exact absurd (show ltZ (rankM 12 [((2 : Nat) : Int)]) 1 = true from hh) (by decide)
    · first | rfl | exact J_idem _ | exact absurd (show ltZ (rankM 12 [((2 : Nat) : Int)]) 2 = true from hh) (by decide)
    all_goals clear hok
    all_goals (try clear hh)
    all_goals simp only [show eqZ ((2 : Nat) : Int) ((0 : Nat) : Int) = false from rfl, show ltZ 0 ((2 : Nat) : Int) = true from rfl, oneM, twoM, labM, noTy, costM, bigB, foldJ, List.map_cons, List.map_nil, List.foldl_cons, List.foldl_nil, TM.lens, lastM, foldM, ext, Nat.blt, Nat.ble, eqZ_eq, leZ_eq, ltZ_eq, Int.reduceBEq, Int.reduceLE, Int.reduceLT, decide_true, decide_false, Bool.or_false, Bool.or_true, Bool.or_self, Bool.and_self, Bool.and_true, Bool.and_false, cond_true, cond_false, J_bot, bot_J, J_idem]
    all_goals first | exact LatT.le_refl _ | exact bot_le _ | exact le_ac (by simp only [J_assoc, J_comm, J_lcomm, J_idem, J_lidem])
theorem g1_13 {T : LatT} {m : TM T} (h2 : m.r ≤ 2) (b0 : m.r < 1 → m.a0 = bot T) (b1 : m.r < 2 → m.a1 = bot T) (l0 : LatT.le m.a0 m.d) (l1 : LatT.le m.a1 m.d) (hok : okR1 13 m.r = true) : GoodRes (rankM 13 [(m.r : Int)]) (oneM 13 m) (costM 13 [m] (oneM 13 m)) (labM 13 m (noTy T)) := by
  obtain ⟨r, a0, a1, d⟩ := m
  simp only at h2 b0 b1 l0 l1 hok
  obtain ⟨x, rfl⟩ := over l0 l1
  clear l0 l1
  have hc : r = 0 ∨ r = 1 ∨ r = 2 := by omega
  rcases hc with rfl | rfl | rfl
  · exact absurd hok (by decide)
  · obtain rfl := b1 (by omega)
    refine ⟨fun hh => ?_, fun hh => ?_, ?_, ?_, fun hh => ?_, fun hh => ?_, ?_, ?_, ?_⟩
    · first | rfl | exact J_idem _ | exact absurd (show ltZ (rankM 13 [((1 : Nat) : Int)]) 1 = true from hh) (by decide)
    · first | rfl | exact J_idem _ | exact absurd (show ltZ (rankM 13 [((1 : Nat) : Int)]) 2 = true from hh) (by decide)
    all_goals clear hok
    all_goals (try clear hh)
    all_goals simp only [show eqZ ((1 : Nat) : Int) ((0 : Nat) : Int) = false from rfl, show ltZ 0 ((1 : Nat) : Int) = true from rfl, oneM, twoM, labM, noTy, costM, bigB, foldJ, List.map_cons, List.map_nil, List.foldl_cons, List.foldl_nil, TM.lens, lastM, foldM, ext, Nat.blt, Nat.ble, eqZ_eq, leZ_eq, ltZ_eq, Int.reduceBEq, Int.reduceLE, Int.reduceLT, decide_true, decide_false, Bool.or_false, Bool.or_true, Bool.or_self, Bool.and_self, Bool.and_true, Bool.and_false, cond_true, cond_false, J_bot, bot_J, J_idem]
    all_goals first | exact LatT.le_refl _ | exact bot_le _ | exact le_ac (by simp only [J_assoc, J_comm, J_lcomm, J_idem, J_lidem])
  · refine ⟨fun hh => ?_, fun hh => ?_, ?_, ?_, fun hh => ?_, fun hh => ?_, ?_, ?_, ?_⟩
    · first | rfl | exact J_idem _ | exact absurd (show ltZ (rankM 13 [((2 : Nat) : Int)]) 1 = true from hh) (by decide)
    · first | rfl | exact J_idem _ | exact absurd (show ltZ (rankM 13 [((2 : Nat) : Int)]) 2 = true from hh) (by decide)
    all_goals clear hok
    all_goals (try clear hh)
    all_goals simp only [show eqZ ((2 : Nat) : Int) ((0 : Nat) : Int) = false from rfl, show ltZ 0 ((2 : Nat) : Int) = true from rfl, oneM, twoM, labM, noTy, costM, bigB, foldJ, List.map_cons, List.map_nil, List.foldl_cons, List.foldl_nil, TM.lens, lastM, foldM, ext, Nat.blt, Nat.ble, eqZ_eq, leZ_eq, ltZ_eq, Int.reduceBEq, Int.reduceLE, Int.reduceLT, decide_true, decide_false, Bool.or_false, Bool.or_true, Bool.or_self, Bool.and_self, Bool.and_true, Bool.and_false, cond_true, cond_false, J_bot, bot_J, J_idem]
    all_goals first | exact LatT.le_refl _ | exact bot_le _ | exact le_ac (by simp only [J_assoc, J_comm, J_lcomm, J_idem, J_lidem])
theorem g1_14 {T : LatT} {m : TM T} (h2 : m.r ≤ 2) (b0 : m.r < 1 → m.a0 = bot T) (b1 : m.r < 2 → m.a1 = bot T) (l0 : LatT.le m.a0 m.d) (l1 : LatT.le m.a1 m.d) (hok : okR1 14 m.r = true) : GoodRes (rankM 14 [(m.r : Int)]) (oneM 14 m) (costM 14 [m] (oneM 14 m)) (labM 14 m (noTy T)) := by
  obtain ⟨r, a0, a1, d⟩ := m
  simp only at h2 b0 b1 l0 l1 hok
  obtain ⟨x, rfl⟩ := over l0 l1
  clear l0 l1
  have hc : r = 0 ∨ r = 1 ∨ r = 2 := by omega
  rcases hc with rfl | rfl | rfl
  · exact absurd hok (by decide)
  · obtain rfl := b1 (by omega)
    refine ⟨fun hh => ?_, fun hh => ?_, ?_, ?_, fun hh => ?_, fun hh => ?_, ?_, ?_, ?_⟩
    · first | rfl | exact J_idem _ | exact absurd (show ltZ (rankM 14 [((1 : Nat) : Int)]) 1 = true from hh) (by decide)
    · first | rfl | exact J_idem _ | exact absurd (show ltZ (rankM 14 [((1 : Nat) : Int)]) 2 = true from hh) (by decide)
    all_goals clear hok
    all_goals (try clear hh)
    all_goals simp only [show eqZ ((1 : Nat) : Int) ((0 : Nat) : Int) = false from rfl, show ltZ 0 ((1 : Nat) : Int) = true from rfl, oneM, twoM, labM, noTy, costM, bigB, foldJ, List.map_cons, List.map_nil, List.foldl_cons, List.foldl_nil, TM.lens, lastM, foldM, ext, Nat.blt, Nat.ble, eqZ_eq, leZ_eq, ltZ_eq, Int.reduceBEq, Int.reduceLE, Int.reduceLT, decide_true, decide_false, Bool.or_false, Bool.or_true, Bool.or_self, Bool.and_self, Bool.and_true, Bool.and_false, cond_true, cond_false, J_bot, bot_J, J_idem]
    all_goals first | exact LatT.le_refl _ | exact bot_le _ | exact le_ac (by simp only [J_assoc, J_comm, J_lcomm, J_idem, J_lidem])
  · exact absurd hok (by decide)
theorem g2_15 {T : LatT} {m m' : TM T} (h2 : m.r ≤ 2) (b0 : m.r < 1 → m.a0 = bot T) (b1 : m.r < 2 → m.a1 = bot T) (l0 : LatT.le m.a0 m.d) (l1 : LatT.le m.a1 m.d) (h2' : m'.r ≤ 2) (b0' : m'.r < 1 → m'.a0 = bot T) (b1' : m'.r < 2 → m'.a1 = bot T) (l0' : LatT.le m'.a0 m'.d) (l1' : LatT.le m'.a1 m'.d) (hok : okR2 15 m.r m'.r = true) : GoodRes (rankM 15 [(m.r : Int), (m'.r : Int)]) (twoM 15 m m') (costM 15 [m, m'] (twoM 15 m m')) (labM 15 m m') := by
  obtain ⟨r, a0, a1, d⟩ := m
  obtain ⟨s, c0, c1, e⟩ := m'
  simp only at h2 b0 b1 l0 l1 hok h2' b0' b1' l0' l1'
  obtain ⟨x, rfl⟩ := over l0 l1
  obtain ⟨y, rfl⟩ := over l0' l1'
  clear l0 l1 l0' l1'
  have hc : r = 0 ∨ r = 1 ∨ r = 2 := by omega
  have hc' : s = 0 ∨ s = 1 ∨ s = 2 := by omega
  rcases hc with rfl | rfl | rfl <;> rcases hc' with rfl | rfl | rfl
  · obtain rfl := b0 (by omega)
    obtain rfl := b1 (by omega)
    obtain rfl := b0' (by omega)
    obtain rfl := b1' (by omega)
    refine ⟨fun hh => ?_, fun hh => ?_, ?_, ?_, fun hh => ?_, fun hh => ?_, ?_, ?_, ?_⟩
    · first | rfl | exact J_idem _ | exact absurd (show ltZ (rankM 15 [((0 : Nat) : Int), ((0 : Nat) : Int)]) 1 = true from hh) (by decide)
    · first | rfl | exact J_idem _ | exact absurd (show ltZ (rankM 15 [((0 : Nat) : Int), ((0 : Nat) : Int)]) 2 = true from hh) (by decide)
    all_goals clear hok
    all_goals (try clear hh)
    all_goals simp only [show eqZ ((0 : Nat) : Int) ((0 : Nat) : Int) = true from rfl, show ltZ 0 ((0 : Nat) : Int) = false from rfl, oneM, twoM, labM, noTy, costM, bigB, foldJ, List.map_cons, List.map_nil, List.foldl_cons, List.foldl_nil, TM.lens, lastM, foldM, ext, Nat.blt, Nat.ble, eqZ_eq, leZ_eq, ltZ_eq, Int.reduceBEq, Int.reduceLE, Int.reduceLT, decide_true, decide_false, Bool.or_false, Bool.or_true, Bool.or_self, Bool.and_self, Bool.and_true, Bool.and_false, cond_true, cond_false, J_bot, bot_J, J_idem]
    all_goals first | exact LatT.le_refl _ | exact bot_le _ | exact le_ac (by simp only [J_assoc, J_comm, J_lcomm, J_idem, J_lidem])
  · obtain rfl := b0 (by omega)
    obtain rfl := b1 (by omega)
    obtain rfl := b1' (by omega)
    refine ⟨fun hh => ?_, fun hh => ?_, ?_, ?_, fun hh => ?_, fun hh => ?_, ?_, ?_, ?_⟩
    · first | rfl | exact J_idem _ | exact absurd (show ltZ (rankM 15 [((0 : Nat) : Int), ((1 : Nat) : Int)]) 1 = true from hh) (by decide)
    · first | rfl | exact J_idem _ | exact absurd (show ltZ (rankM 15 [((0 : Nat) : Int), ((1 : Nat) : Int)]) 2 = true from hh) (by decide)
    all_goals clear hok
    all_goals (try clear hh)
    all_goals simp only [show eqZ ((0 : Nat) : Int) ((1 : Nat) : Int) = false from rfl, show ltZ 0 ((0 : Nat) : Int) = false from rfl, oneM, twoM, labM, noTy, costM, bigB, foldJ, List.map_cons, List.map_nil, List.foldl_cons, List.foldl_nil, TM.lens, lastM, foldM, ext, Nat.blt, Nat.ble, eqZ_eq, leZ_eq, ltZ_eq, Int.reduceBEq, Int.reduceLE, Int.reduceLT, decide_true, decide_false, Bool.or_false, Bool.or_true, Bool.or_self, Bool.and_self, Bool.and_true, Bool.and_false, cond_true, cond_false, J_bot, bot_J, J_idem]
    all_goals first | exact LatT.le_refl _ | exact bot_le _ | exact le_ac (by simp only [J_assoc, J_comm, J_lcomm, J_idem, J_lidem])
  · obtain rfl := b0 (by omega)
    obtain rfl := b1 (by omega)
    refine ⟨fun hh => ?_, fun hh => ?_, ?_, ?_, fun hh => ?_, fun hh => ?_, ?_, ?_, ?_⟩
    · first | rfl | exact J_idem _ | exact absurd (show ltZ (rankM 15 [((0 : Nat) : Int), ((2 : Nat) : Int)]) 1 = true from hh) (by decide)
    · first | rfl | exact J_idem _ | exact absurd (show ltZ (rankM 15 [((0 : Nat) : Int), ((2 : Nat) : Int)]) 2 = true from hh) (by decide)
    all_goals clear hok
    all_goals (try clear hh)
    all_goals simp only [show eqZ ((0 : Nat) : Int) ((2 : Nat) : Int) = false from rfl, show ltZ 0 ((0 : Nat) : Int) = false from rfl, oneM, twoM, labM, noTy, costM, bigB, foldJ, List.map_cons, List.map_nil, List.foldl_cons, List.foldl_nil, TM.lens, lastM, foldM, ext, Nat.blt, Nat.ble, eqZ_eq, leZ_eq, ltZ_eq, Int.reduceBEq, Int.reduceLE, Int.reduceLT, decide_true, decide_false, Bool.or_false, Bool.or_true, Bool.or_self, Bool.and_self, Bool.and_true, Bool.and_false, cond_true, cond_false, J_bot, bot_J, J_idem]
    all_goals first | exact LatT.le_refl _ | exact bot_le _ | exact le_ac (by simp only [J_assoc, J_comm, J_lcomm, J_idem, J_lidem])
  · obtain rfl := b1 (by omega)
    obtain rfl := b0' (by omega)
    obtain rfl := b1' (by omega)
    refine ⟨fun hh => ?_, fun hh => ?_, ?_, ?_, fun hh => ?_, fun hh => ?_, ?_, ?_, ?_⟩
    · first | rfl | exact J_idem _ | exact absurd (show ltZ (rankM 15 [((1 : Nat) : Int), ((0 : Nat) : Int)]) 1 = true from hh) (by decide)
    · first | rfl | exact J_idem _ | exact absurd (show ltZ (rankM 15 [((1 : Nat) : Int), ((0 : Nat) : Int)]) 2 = true from hh) (by decide)
    all_goals clear hok
    all_goals (try clear hh)
    all_goals simp only [show eqZ ((1 : Nat) : Int) ((0 : Nat) : Int) = false from rfl, show ltZ 0 ((1 : Nat) : Int) = true from rfl, oneM, twoM, labM, noTy, costM, bigB, foldJ, List.map_cons, List.map_nil, List.foldl_cons, List.foldl_nil, TM.lens, lastM, foldM, ext, Nat.blt, Nat.ble, eqZ_eq, leZ_eq, ltZ_eq, Int.reduceBEq, Int.reduceLE, Int.reduceLT, decide_true, decide_false, Bool.or_false, Bool.or_true, Bool.or_self, Bool.and_self, Bool.and_true, Bool.and_false, cond_true, cond_false, J_bot, bot_J, J_idem]
    all_goals first | exact LatT.le_refl _ | exact bot_le _ | exact le_ac (by simp only [J_assoc, J_comm, J_lcomm, J_idem, J_lidem])
  · obtain rfl := b1 (by omega)
    obtain rfl := b1' (by omega)
    refine ⟨fun hh => ?_, fun hh => ?_, ?_, ?_, fun hh => ?_, fun hh => ?_, ?_, ?_, ?_⟩
    · first | rfl | exact J_idem _ | exact absurd (show ltZ (rankM 15 [((1 : Nat) : Int), ((1 : Nat) : Int)]) 1 = true from hh) (by decide)
    · first | rfl | exact J_idem _ | exact absurd (show ltZ (rankM 15 [((1 : Nat) : Int), ((1 : Nat) : Int)]) 2 = true from hh) (by decide)
    all_goals clear hok
    all_goals (try clear hh)
    all_goals simp only [show eqZ ((1 : Nat) : Int) ((1 : Nat) : Int) = true from rfl, show ltZ 0 ((1 : Nat) : Int) = true from rfl, oneM, twoM, labM, noTy, costM, bigB, foldJ, List.map_cons, List.map_nil, List.foldl_cons, List.foldl_nil, TM.lens, lastM, foldM, ext, Nat.blt, Nat.ble, eqZ_eq, leZ_eq, ltZ_eq, Int.reduceBEq, Int.reduceLE, Int.reduceLT, decide_true, decide_false, Bool.or_false, Bool.or_true, Bool.or_self, Bool.and_self, Bool.and_true, Bool.and_false, cond_true, cond_false, J_bot, bot_J, J_idem]
    all_goals first | exact LatT.le_refl _ | exact bot_le _ | exact le_ac (by simp only [J_assoc, J_comm, J_lcomm, J_idem, J_lidem])
  · exact absurd hok (by decide)
  · obtain rfl := b0' (by omega)
    obtain rfl := b1' (by omega)
    refine ⟨fun hh => ?_, fun hh => ?_, ?_, ?_, fun hh => ?_, fun hh => ?_, ?_, ?_, ?_⟩
    · first | rfl | exact J_idem _ | exact absurd (show ltZ (rankM 15 [((2 : Nat) : Int), ((0 : Nat) : Int)]) 1 = true from hh) (by decide)
    · first | rfl | exact J_idem _ | exact absurd (show ltZ (rankM 15 [((2 : Nat) : Int), ((0 : Nat) : Int)]) 2 = true from hh) (by decide)
    all_goals clear hok
    all_goals (try clear hh)
    all_goals simp only [show eqZ ((2 : Nat) : Int) ((0 : Nat) : Int) = false from rfl, show ltZ 0 ((2 : Nat) : Int) = true from rfl, oneM, twoM, labM, noTy, costM, bigB, foldJ, List.map_cons, List.map_nil, List.foldl_cons, List.foldl_nil, TM.lens, lastM, foldM, ext, Nat.blt, Nat.ble, eqZ_eq, leZ_eq, ltZ_eq, Int.reduceBEq, Int.reduceLE, Int.reduceLT, decide_true, decide_false, Bool.or_false, Bool.or_true, Bool.or_self, Bool.and_self, Bool.and_true, Bool.and_false, cond_true, cond_false, J_bot, bot_J, J_idem]
    all_goals first | exact LatT.le_refl _ | exact bot_le _ | exact le_ac (by simp only [J_assoc, J_comm, J_lcomm, J_idem, J_lidem])
  · exact absurd hok (by decide)
  · refine ⟨fun hh => ?_, fun hh => ?_, ?_, ?_, fun hh => ?_, fun hh => ?_, ?_, ?_, ?_⟩
    · first | rfl | exact J_idem _ | exact absurd (show ltZ (rankM 15 [((2 : Nat) : Int), ((2 : Nat) : Int)]) 1 = true from hh) (by decide)
    · first | rfl | exact J_idem _ | exact absurd (show ltZ (rankM 15 [((2 : Nat) : Int), ((2 : Nat) : Int)]) 2 = true from hh) (by decide)
    all_goals clear hok
    all_goals (try clear hh)
    all_goals simp only [show eqZ ((2 : Nat) : Int) ((2 : Nat) : Int) = true from rfl, show ltZ 0 ((2 : Nat) : Int) = true from rfl, oneM, twoM, labM, noTy, costM, bigB, foldJ, List.map_cons, List.map_nil, List.foldl_cons, List.foldl_nil, TM.lens, lastM, foldM, ext, Nat.blt, Nat.ble, eqZ_eq, leZ_eq, ltZ_eq, Int.reduceBEq, Int.reduceLE, Int.reduceLT, decide_true, decide_false, Bool.or_false, Bool.or_true, Bool.or_self, Bool.and_self, Bool.and_true, Bool.and_false, cond_true, cond_false, J_bot, bot_J, J_idem]
    all_goals first | exact LatT.le_refl _ | exact bot_le _ | exact le_ac (by simp only [J_assoc, J_comm, J_lcomm, J_idem, J_lidem])
theorem g2_20 {T : LatT} {m m' : TM T} (h2 : m.r ≤ 2) (b0 : m.r < 1 → m.a0 = bot T) (b1 : m.r < 2 → m.a1 = bot T) (l0 : LatT.le m.a0 m.d) (l1 : LatT.le m.a1 m.d) (h2' : m'.r ≤ 2) (b0' : m'.r < 1 → m'.a0 = bot T) (b1' : m'.r < 2 → m'.a1 = bot T) (l0' : LatT.le m'.a0 m'.d) (l1' : LatT.le m'.a1 m'.d) (hok : okR2 20 m.r m'.r = true) : GoodRes (rankM 20 [(m.r : Int), (m'.r : Int)]) (twoM 20 m m') (costM 20 [m, m'] (twoM 20 m m')) (labM 20 m m') := by
  obtain ⟨r, a0, a1, d⟩ := m
  obtain ⟨s, c0, c1, e⟩ := m'
  simp only at h2 b0 b1 l0 l1 hok h2' b0' b1' l0' l1'
  obtain ⟨x, rfl⟩ := over l0 l1
  obtain ⟨y, rfl⟩ := over l0' l1'
  clear l0 l1 l0' l1'
  have hc : r = 0 ∨ r = 1 ∨ r = 2 := by omega
  have hc' : s = 0 ∨ s = 1 ∨ s = 2 := by omega
  rcases hc with rfl | rfl | rfl <;> rcases hc' with rfl | rfl | rfl
  · obtain rfl := b0 (by omega)
    obtain rfl := b1 (by omega)
    obtain rfl := b0' (by omega)
    obtain rfl := b1' (by omega)
    refine ⟨fun hh => ?_, fun hh => ?_, ?_, ?_, fun hh => ?_, fun hh => ?_, ?_, ?_, ?_⟩
    · first | rfl | exact J_idem _ | exact absurd (show ltZ (rankM 20 [((0 : Nat) : Int), ((0 : Nat) : Int)]) 1 = true from hh) (by decide)
    · first | rfl | exact J_idem _ | exact absurd (show ltZ (rankM 20 [((0 : Nat) : Int), ((0 : Nat) : Int)]) 2 = true from hh) (by decide)
    all_goals clear hok
    all_goals (try clear hh)
    all_goals simp only [show eqZ ((0 : Nat) : Int) ((0 : Nat) : Int) = true from rfl, show ltZ 0 ((0 : Nat) : Int) = false from rfl, oneM, twoM, labM, noTy, costM, bigB, foldJ, List.map_cons, List.map_nil, List.foldl_cons, List.foldl_nil, TM.lens, lastM, foldM, ext, Nat.blt, Nat.ble, eqZ_eq, leZ_eq, ltZ_eq, Int.reduceBEq, Int.reduceLE, Int.reduceLT, decide_true, decide_false, Bool.or_false, Bool.or_true, Bool.or_self, Bool.and_self, Bool.and_true, Bool.and_false, cond_true, cond_false, J_bot, bot_J, J_idem]
    all_goals first | exact LatT.le_refl _ | exact bot_le _ | exact le_ac (by simp only [J_assoc, J_comm, J_lcomm, J_idem, J_lidem])
  · obtain rfl := b0 (by omega)
    obtain rfl := b1 (by omega)
    obtain rfl := b1' (by omega)
    refine ⟨fun hh => ?_, fun hh => ?_, ?_, ?_, fun hh => ?_, fun hh => ?_, ?_, ?_, ?_⟩
    · first | rfl | exact J_idem _ | exact absurd (show ltZ (rankM 20 [((0 : Nat) : Int), ((1 : Nat) : Int)]) 1 = true from hh) (by decide)
    · first | rfl | exact J_idem _ | exact absurd (show ltZ (rankM 20 [((0 : Nat) : Int), ((1 : Nat) : Int)]) 2 = true from hh) (by decide)
    all_goals clear hok
    all_goals (try clear hh)
    all_goals simp only [show eqZ ((0 : Nat) : Int) ((1 : Nat) : Int) = false from rfl, show ltZ 0 ((0 : Nat) : Int) = false from rfl, oneM, twoM, labM, noTy, costM, bigB, foldJ, List.map_cons, List.map_nil, List.foldl_cons, List.foldl_nil, TM.lens, lastM, foldM, ext, Nat.blt, Nat.ble, eqZ_eq, leZ_eq, ltZ_eq, Int.reduceBEq, Int.reduceLE, Int.reduceLT, decide_true, decide_false, Bool.or_false, Bool.or_true, Bool.or_self, Bool.and_self, Bool.and_true, Bool.and_false, cond_true, cond_false, J_bot, bot_J, J_idem]
    all_goals first | exact LatT.le_refl _ | exact bot_le _ | exact le_ac (by simp only [J_assoc, J_comm, J_lcomm, J_idem, J_lidem])
  · obtain rfl := b0 (by omega)
    obtain rfl := b1 (by omega)
    refine ⟨fun hh => ?_, fun hh => ?_, ?_, ?_, fun hh => ?_, fun hh => ?_, ?_, ?_, ?_⟩
    · first | rfl | exact J_idem _ | exact absurd (show ltZ (rankM 20 [((0 : Nat) : Int), ((2 : Nat) : Int)]) 1 = true from hh) (by decide)
    · first | rfl | exact J_idem _ | exact absurd (show ltZ (rankM 20 [((0 : Nat) : Int), ((2 : Nat) : Int)]) 2 = true from hh) (by decide)
    all_goals clear hok
    all_goals (try clear hh)
    all_goals simp only [show eqZ ((0 : Nat) : Int) ((2 : Nat) : Int) = false from rfl, show ltZ 0 ((0 : Nat) : Int) = false from rfl, oneM, twoM, labM, noTy, costM, bigB, foldJ, List.map_cons, List.map_nil, List.foldl_cons, List.foldl_nil, TM.lens, lastM, foldM, ext, Nat.blt, Nat.ble, eqZ_eq, leZ_eq, ltZ_eq, Int.reduceBEq, Int.reduceLE, Int.reduceLT, decide_true, decide_false, Bool.or_false, Bool.or_true, Bool.or_self, Bool.and_self, Bool.and_true, Bool.and_false, cond_true, cond_false, J_bot, bot_J, J_idem]
    all_goals first | exact LatT.le_refl _ | exact bot_le _ | exact le_ac (by simp only [J_assoc, J_comm, J_lcomm, J_idem, J_lidem])
  · obtain rfl := b1 (by omega)
    obtain rfl := b0' (by omega)
    obtain rfl := b1' (by omega)
    refine ⟨fun hh => ?_, fun hh => ?_, ?_, ?_, fun hh => ?_, fun hh => ?_, ?_, ?_, ?_⟩
    · first | rfl | exact J_idem _ | exact absurd (show ltZ (rankM 20 [((1 : Nat) : Int), ((0 : Nat) : Int)]) 1 = true from hh) (by decide)
    · first | rfl | exact J_idem _ | exact absurd (show ltZ (rankM 20 [((1 : Nat) : Int), ((0 : Nat) : Int)]) 2 = true from hh) (by decide)
    all_goals clear hok
    all_goals (try clear hh)
    all_goals simp only [show eqZ ((1 : Nat) : Int) ((0 : Nat) : Int) = false from rfl, show ltZ 0 ((1 : Nat) : Int) = true from rfl, oneM, twoM, labM, noTy, costM, bigB, foldJ, List.map_cons, List.map_nil, List.foldl_cons, List.foldl_nil, TM.lens, lastM, foldM, ext, Nat.blt, Nat.ble, eqZ_eq, leZ_eq, ltZ_eq, Int.reduceBEq, Int.reduceLE, Int.reduceLT, decide_true, decide_false, Bool.or_false, Bool.or_true, Bool.or_self, Bool.and_self, Bool.and_true, Bool.and_false, cond_true, cond_false, J_bot, bot_J, J_idem]
    all_goals first | exact LatT.le_refl _ | exact bot_le _ | exact le_ac (by simp only [J_assoc, J_comm, J_lcomm, J_idem, J_lidem])
  · obtain rfl := b1 (by omega)
    obtain rfl := b1' (by omega)
    refine ⟨fun hh => ?_, fun hh => ?_, ?_, ?_, fun hh => ?_, fun hh => ?_, ?_, ?_, ?_⟩
    · first | rfl | exact J_idem _ | exact absurd (show ltZ (rankM 20 [((1 : Nat) : Int), ((1 : Nat) : Int)]) 1 = true from hh) (by decide)
    · first | rfl | exact J_idem _ | exact absurd (show ltZ (rankM 20 [((1 : Nat) : Int), ((1 : Nat) : Int)]) 2 = true from hh) (by decide)
    all_goals clear hok
    all_goals (try clear hh)
    all_goals simp only [show eqZ ((1 : Nat) : Int) ((1 : Nat) : Int) = true from rfl, show ltZ 0 ((1 : Nat) : Int) = true from rfl, oneM, twoM, labM, noTy, costM, bigB, foldJ, List.map_cons, List.map_nil, List.foldl_cons, List.foldl_nil, TM.lens, lastM, foldM, ext, Nat.blt, Nat.ble, eqZ_eq, leZ_eq, ltZ_eq, Int.reduceBEq, Int.reduceLE, Int.reduceLT, decide_true, decide_false, Bool.or_false, Bool.or_true, Bool.or_self, Bool.and_self, Bool.and_true, Bool.and_false, cond_true, cond_false, J_bot, bot_J, J_idem]
    all_goals first | exact LatT.le_refl _ | exact bot_le _ | exact le_ac (by simp only [J_assoc, J_comm, J_lcomm, J_idem, J_lidem])
  · exact absurd hok (by decide)
  · obtain rfl := b0' (by omega)
    obtain rfl := b1' (by omega)
    refine ⟨fun hh => ?_, fun hh => ?_, ?_, ?_, fun hh => ?_, fun hh => ?_, ?_, ?_, ?_⟩
    · first | rfl | exact J_idem _ | exact absurd (show ltZ (rankM 20 [((2 : Nat) : Int), ((0 : Nat) : Int)]) 1 = true from hh) (by decide)
    · first | rfl | exact J_idem _ | exact absurd (show ltZ (rankM 20 [((2 : Nat) : Int), ((0 : Nat) : Int)]) 2 = true from hh) (by decide)
    all_goals clear hok
    all_goals (try clear hh)
    all_goals simp only [show eqZ ((2 : Nat) : Int) ((0 : Nat) : Int) = false from rfl, show ltZ 0 ((2 : Nat) : Int) = true from rfl, oneM, twoM, labM, noTy, costM, bigB, foldJ, List.map_cons, List.map_nil, List.foldl_cons, List.foldl_nil, TM.lens, lastM, foldM, ext, Nat.blt, Nat.ble, eqZ_eq, leZ_eq, ltZ_eq, Int.reduceBEq, Int.reduceLE, Int.reduceLT, decide_true, decide_false, Bool.or_false, Bool.or_true, Bool.or_self, Bool.and_self, Bool.and_true, Bool.and_false, cond_true, cond_false, J_bot, bot_J, J_idem]
    all_goals first | exact LatT.le_refl _ | exact bot_le _ | exact le_ac (by simp only [J_assoc, J_comm, J_lcomm, J_idem, J_lidem])
  · exact absurd hok (by decide)
  · refine ⟨fun hh => ?_, fun hh => ?_, ?_, ?_, fun hh => ?_, fun hh => ?_, ?_, ?_, ?_⟩
    · first | rfl | exact J_idem _ | exact absurd (show ltZ (rankM 20 [((2 : Nat) : Int), ((2 : Nat) : Int)]) 1 = true from hh) (by decide)
    · first | rfl | exact J_idem _ | exact absurd (show ltZ (rankM 20 [((2 : Nat) : Int), ((2 : Nat) : Int)]) 2 = true from hh) (by decide)
    all_goals clear hok
    all_goals (try clear hh)
    all_goals simp only [show eqZ ((2 : Nat) : Int) ((2 : Nat) : Int) = true from rfl, show ltZ 0 ((2 : Nat) : Int) = true from rfl, oneM, twoM, labM, noTy, costM, bigB, foldJ, List.map_cons, List.map_nil, List.foldl_cons, List.foldl_nil, TM.lens, lastM, foldM, ext, Nat.blt, Nat.ble, eqZ_eq, leZ_eq, ltZ_eq, Int.reduceBEq, Int.reduceLE, Int.reduceLT, decide_true, decide_false, Bool.or_false, Bool.or_true, Bool.or_self, Bool.and_self, Bool.and_true, Bool.and_false, cond_true, cond_false, J_bot, bot_J, J_idem]
    all_goals first | exact LatT.le_refl _ | exact bot_le _ | exact le_ac (by simp only [J_assoc, J_comm, J_lcomm, J_idem, J_lidem])
theorem g2_33 {T : LatT} {m m' : TM T} (h2 : m.r ≤ 2) (b0 : m.r < 1 → m.a0 = bot T) (b1 : m.r < 2 → m.a1 = bot T) (l0 : LatT.le m.a0 m.d) (l1 : LatT.le m.a1 m.d) (h2' : m'.r ≤ 2) (b0' : m'.r < 1 → m'.a0 = bot T) (b1' : m'.r < 2 → m'.a1 = bot T) (l0' : LatT.le m'.a0 m'.d) (l1' : LatT.le m'.a1 m'.d) (hok : okR2 33 m.r m'.r = true) : GoodRes (rankM 33 [(m.r : Int), (m'.r : Int)]) (twoM 33 m m') (costM 33 [m, m'] (twoM 33 m m')) (labM 33 m m') := by
  obtain ⟨r, a0, a1, d⟩ := m
  obtain ⟨s, c0, c1, e⟩ := m'
  simp only at h2 b0 b1 l0 l1 hok h2' b0' b1' l0' l1'
  obtain ⟨x, rfl⟩ := over l0 l1
  obtain ⟨y, rfl⟩ := over l0' l1'
  clear l0 l1 l0' l1'
  have hc : r = 0 ∨ r = 1 ∨ r = 2 := by omega
  have hc' : s = 0 ∨ s = 1 ∨ s = 2 := by omega
  rcases hc with rfl | rfl | rfl <;> rcases hc' with rfl | rfl | rfl
  · exact absurd hok (by decide)
  · obtain rfl := b0 (by omega)
    obtain rfl := b1 (by omega)
    obtain rfl := b1' (by omega)
    refine ⟨fun hh => ?_, fun hh => ?_, ?_, ?_, fun hh => ?_, fun hh => ?_, ?_, ?_, ?_⟩
    · first | rfl | exact J_idem _ | exact absurd (show ltZ (rankM 33 [((0 : Nat) : Int), ((1 : Nat) : Int)]) 1 = true from hh) (by decide)
    · first | rfl | exact J_idem _ | exact absurd (show ltZ (rankM 33 [((0 : Nat) : Int), ((1 : Nat) : Int)]) 2 = true from hh) (by decide)
    all_goals clear hok
    all_goals (try clear hh)
    all_goals simp only [show eqZ ((0 : Nat) : Int) ((1 : Nat) : Int) = false from rfl, show ltZ 0 ((0 : Nat) : Int) = false from rfl, oneM, twoM, labM, noTy, costM, bigB, foldJ, List.map_cons, List.map_nil, List.foldl_cons, List.foldl_nil, TM.lens, lastM, foldM, ext, Nat.blt, Nat.ble, eqZ_eq, leZ_eq, ltZ_eq, Int.reduceBEq, Int.reduceLE, Int.reduceLT, decide_true, decide_false, Bool.or_false, Bool.or_true, Bool.or_self, Bool.and_self, Bool.and_true, Bool.and_false, cond_true, cond_false, J_bot, bot_J, J_idem]
    all_goals first | exact LatT.le_refl _ | exact bot_le _ | exact le_ac (by simp only [J_assoc, J_comm, J_lcomm, J_idem, J_lidem])
  · exact absurd hok (by decide)
  · exact absurd hok (by decide)
  · exact absurd hok (by decide)
  · exact absurd hok (by decide)
  · exact absurd hok (by decide)
  · exact absurd hok (by decide)
  · exact absurd hok (by decide)
theorem g2_34 {T : LatT} {m m' : TM T} (h2 : m.r ≤ 2) (b0 : m.r < 1 → m.a0 = bot T) (b1 : m.r < 2 → m.a1 = bot T) (l0 : LatT.le m.a0 m.d) (l1 : LatT.le m.a1 m.d) (h2' : m'.r ≤ 2) (b0' : m'.r < 1 → m'.a0 = bot T) (b1' : m'.r < 2 → m'.a1 = bot T) (l0' : LatT.le m'.a0 m'.d) (l1' : LatT.le m'.a1 m'.d) (hok : okR2 34 m.r m'.r = true) : GoodRes (rankM 34 [(m.r : Int), (m'.r : Int)]) (twoM 34 m m') (costM 34 [m, m'] (twoM 34 m m')) (labM 34 m m') := by
  obtain ⟨r, a0, a1, d⟩ := m
  obtain ⟨s, c0, c1, e⟩ := m'
  simp only at h2 b0 b1 l0 l1 hok h2' b0' b1' l0' l1'
  obtain ⟨x, rfl⟩ := over l0 l1
  obtain ⟨y, rfl⟩ := over l0' l1'
  clear l0 l1 l0' l1'
  have hc : r = 0 ∨ r = 1 ∨ r = 2 := by omega
  have hc' : s = 0 ∨ s = 1 ∨ s = 2 := by omega
  rcases hc with rfl | rfl | rfl <;> rcases hc' with rfl | rfl | rfl
  · exact absurd hok (by decide)
  · obtain rfl := b0 (by omega)
    obtain rfl := b1 (by omega)
    obtain rfl := b1' (by omega)
    refine ⟨fun hh => ?_, fun hh => ?_, ?_, ?_, fun hh => ?_, fun hh => ?_, ?_, ?_, ?_⟩
    · first | rfl | exact J_idem _ | exact absurd (show ltZ (rankM 34 [((0 : Nat) : Int), ((1 : Nat) : Int)]) 1 = true from hh) (by decide)
    · first | rfl | exact J_idem _ | exact absurd (show ltZ (rankM 34 [((0 : Nat) : Int), ((1 : Nat) : Int)]) 2 = true from hh) (by decide)
    all_goals clear hok
    all_goals (try clear hh)
    all_goals simp only [show eqZ ((0 : Nat) : Int) ((1 : Nat) : Int) = false from rfl, show ltZ 0 ((0 : Nat) : Int) = false from rfl, oneM, twoM, labM, noTy, costM, bigB, foldJ, List.map_cons, List.map_nil, List.foldl_cons, List.foldl_nil, TM.lens, lastM, foldM, ext, Nat.blt, Nat.ble, eqZ_eq, leZ_eq, ltZ_eq, Int.reduceBEq, Int.reduceLE, Int.reduceLT, decide_true, decide_false, Bool.or_false, Bool.or_true, Bool.or_self, Bool.and_self, Bool.and_true, Bool.and_false, cond_true, cond_false, J_bot, bot_J, J_idem]
    all_goals first | exact LatT.le_refl _ | exact bot_le _ | exact le_ac (by simp only [J_assoc, J_comm, J_lcomm, J_idem, J_lidem])
  · exact absurd hok (by decide)
  · exact absurd hok (by decide)
  · exact absurd hok (by decide)
  · exact absurd hok (by decide)
  · exact absurd hok (by decide)
  · exact absurd hok (by decide)
  · exact absurd hok (by decide)
theorem g2_35 {T : LatT} {m m' : TM T} (h2 : m.r ≤ 2) (b0 : m.r < 1 → m.a0 = bot T) (b1 : m.r < 2 → m.a1 = bot T) (l0 : LatT.le m.a0 m.d) (l1 : LatT.le m.a1 m.d) (h2' : m'.r ≤ 2) (b0' : m'.r < 1 → m'.a0 = bot T) (b1' : m'.r < 2 → m'.a1 = bot T) (l0' : LatT.le m'.a0 m'.d) (l1' : LatT.le m'.a1 m'.d) (hok : okR2 35 m.r m'.r = true) : GoodRes (rankM 35 [(m.r : Int), (m'.r : Int)]) (twoM 35 m m') (costM 35 [m, m'] (twoM 35 m m')) (labM 35 m m') := by
  obtain ⟨r, a0, a1, d⟩ := m
  obtain ⟨s, c0, c1, e⟩ := m'
  simp only at h2 b0 b1 l0 l1 hok h2' b0' b1' l0' l1'
  obtain ⟨x, rfl⟩ := over l0 l1
  obtain ⟨y, rfl⟩ := over l0' l1'
  clear l0 l1 l0' l1'
  have hc : r = 0 ∨ r = 1 ∨ r = 2 := by omega
  have hc' : s = 0 ∨ s = 1 ∨ s = 2 := by omega
  rcases hc with rfl | rfl | rfl <;> rcases hc' with rfl | rfl | rfl
  · obtain rfl := b0 (by omega)
    obtain rfl := b1 (by omega)
    obtain rfl := b0' (by omega)
    obtain rfl := b1' (by omega)
    refine ⟨fun hh => ?_, fun hh => ?_, ?_, ?_, fun hh => ?_, fun hh => ?_, ?_, ?_, ?_⟩
    · first | rfl | exact J_idem _ | exact absurd (show ltZ (rankM 35 [((0 : Nat) : Int), ((0 : Nat) : Int)]) 1 = true from hh) (by decide)
    · first | rfl | exact J_idem _ | exact absurd (show ltZ (rankM 35 [((0 : Nat) : Int), ((0 : Nat) : Int)]) 2 = true from hh) (by decide)
    all_goals clear hok
    all_goals (try clear hh)
    all_goals simp only [show eqZ ((0 : Nat) : Int) ((0 : Nat) : Int) = true from rfl, show ltZ 0 ((0 : Nat) : Int) = false from rfl, oneM, twoM, labM, noTy, costM, bigB, foldJ, List.map_cons, List.map_nil, List.foldl_cons, List.foldl_nil, TM.lens, lastM, foldM, ext, Nat.blt, Nat.ble, eqZ_eq, leZ_eq, ltZ_eq, Int.reduceBEq, Int.reduceLE, Int.reduceLT, decide_true, decide_false, Bool.or_false, Bool.or_true, Bool.or_self, Bool.and_self, Bool.and_true, Bool.and_false, cond_true, cond_false, J_bot, bot_J, J_idem]
    all_goals first | exact LatT.le_refl _ | exact bot_le _ | exact le_ac (by simp only [J_assoc, J_comm, J_lcomm, J_idem, J_lidem])
  · exact absurd hok (by decide)
  · exact absurd hok (by decide)
  · exact absurd hok (by decide)
  · exact absurd hok (by decide)
  · exact absurd hok (by decide)
  · exact absurd hok (by decide)
  · exact absurd hok (by decide)
  · exact absurd hok (by decide)
theorem g2_36 {T : LatT} {m m' : TM T} (h2 : m.r ≤ 2) (b0 : m.r < 1 → m.a0 = bot T) (b1 : m.r < 2 → m.a1 = bot T) (l0 : LatT.le m.a0 m.d) (l1 : LatT.le m.a1 m.d) (h2' : m'.r ≤ 2) (b0' : m'.r < 1 → m'.a0 = bot T) (b1' : m'.r < 2 → m'.a1 = bot T) (l0' : LatT.le m'.a0 m'.d) (l1' : LatT.le m'.a1 m'.d) (hok : okR2 36 m.r m'.r = true) : GoodRes (rankM 36 [(m.r : Int), (m'.r : Int)]) (twoM 36 m m') (costM 36 [m, m'] (twoM 36 m m')) (labM 36 m m') := by
  obtain ⟨r, a0, a1, d⟩ := m
  obtain ⟨s, c0, c1, e⟩ := m'
  simp only at h2 b0 b1 l0 l1 hok h2' b0' b1' l0' l1'
  obtain ⟨x, rfl⟩ := over l0 l1
  obtain ⟨y, rfl⟩ := over l0' l1'
  clear l0 l1 l0' l1'
  have hc : r = 0 ∨ r = 1 ∨ r = 2 := by omega
  have hc' : s = 0 ∨ s = 1 ∨ s = 2 := by omega
  rcases hc with rfl | rfl | rfl <;> rcases hc' with rfl | rfl | rfl
  · exact absurd hok (by decide)
  · exact absurd hok (by decide)
  · exact absurd hok (by decide)
  · exact absurd hok (by decide)
  · obtain rfl := b1 (by omega)
    obtain rfl := b1' (by omega)
    refine ⟨fun hh => ?_, fun hh => ?_, ?_, ?_, fun hh => ?_, fun hh => ?_, ?_, ?_, ?_⟩
    · first | rfl | exact J_idem _ | exact absurd (show ltZ (rankM 36 [((1 : Nat) : Int), ((1 : Nat) : Int)]) 1 = true from hh) (by decide)
    · first | rfl | exact J_idem _ | exact absurd (show ltZ (rankM 36 [((1 : Nat) : Int), ((1 : Nat) : Int)]) 2 = true from hh) (by decide)
    all_goals clear hok
    all_goals (try clear hh)
    all_goals simp only [show eqZ ((1 : Nat) : Int) ((1 : Nat) : Int) = true from rfl, show ltZ 0 ((1 : Nat) : Int) = true from rfl, oneM, twoM, labM, noTy, costM, bigB, foldJ, List.map_cons, List.map_nil, List.foldl_cons, List.foldl_nil, TM.lens, lastM, foldM, ext, Nat.blt, Nat.ble, eqZ_eq, leZ_eq, ltZ_eq, Int.reduceBEq, Int.reduceLE, Int.reduceLT, decide_true, decide_false, Bool.or_false, Bool.or_true, Bool.or_self, Bool.and_self, Bool.and_true, Bool.and_false, cond_true, cond_false, J_bot, bot_J, J_idem]
    all_goals first | exact LatT.le_refl _ | exact bot_le _ | exact le_ac (by simp only [J_assoc, J_comm, J_lcomm, J_idem, J_lidem])
  · exact absurd hok (by decide)
  · exact absurd hok (by decide)
  · exact absurd hok (by decide)
  · exact absurd hok (by decide)
theorem g2_37 {T : LatT} {m m' : TM T} (h2 : m.r ≤ 2) (b0 : m.r < 1 → m.a0 = bot T) (b1 : m.r < 2 → m.a1 = bot T) (l0 : LatT.le m.a0 m.d) (l1 : LatT.le m.a1 m.d) (h2' : m'.r ≤ 2) (b0' : m'.r < 1 → m'.a0 = bot T) (b1' : m'.r < 2 → m'.a1 = bot T) (l0' : LatT.le m'.a0 m'.d) (l1' : LatT.le m'.a1 m'.d) (hok : okR2 37 m.r m'.r = true) : GoodRes (rankM 37 [(m.r : Int), (m'.r : Int)]) (twoM 37 m m') (costM 37 [m, m'] (twoM 37 m m')) (labM 37 m m') := by
  obtain ⟨r, a0, a1, d⟩ := m
  obtain ⟨s, c0, c1, e⟩ := m'
  simp only at h2 b0 b1 l0 l1 hok h2' b0' b1' l0' l1'
  obtain ⟨x, rfl⟩ := over l0 l1
  obtain ⟨y, rfl⟩ := over l0' l1'
  clear l0 l1 l0' l1'
  have hc : r = 0 ∨ r = 1 ∨ r = 2 := by omega
  have hc' : s = 0 ∨ s = 1 ∨ s = 2 := by omega
  rcases hc with rfl | rfl | rfl <;> rcases hc' with rfl | rfl | rfl
  · exact absurd hok (by decide)
  · exact absurd hok (by decide)
  · exact absurd hok (by decide)
  · exact absurd hok (by decide)
  · obtain rfl := b1 (by omega)
    obtain rfl := b1' (by omega)
    refine ⟨fun hh => ?_, fun hh => ?_, ?_, ?_, fun hh => ?_, fun hh => ?_, ?_, ?_, ?_⟩
    · first | rfl | exact J_idem _ | exact absurd (show ltZ (rankM 37 [((1 : Nat) : Int), ((1 : Nat) : Int)]) 1 = true from hh) (by decide)
    · first | rfl | exact J_idem _ | exact absurd (show ltZ (rankM 37 [((1 : Nat) : Int), ((1 : Nat) : Int)]) 2 = true from hh) (by decide)
    all_goals clear hok
    all_goals (try clear hh)
    all_goals simp only [show eqZ ((1 : Nat) : Int) ((1 : Nat) : Int) = true from rfl, show ltZ 0 ((1 : Nat) : Int) = true from rfl, oneM, twoM, labM, noTy, costM, bigB, foldJ, List.map_cons, List.map_nil, List.foldl_cons, List.foldl_nil, TM.lens, lastM, foldM, ext, Nat.blt, Nat.ble, eqZ_eq, leZ_eq, ltZ_eq, Int.reduceBEq, Int.reduceLE, Int.reduceLT, decide_true, decide_false, Bool.or_false, Bool.or_true, Bool.or_self, Bool.and_self, Bool.and_true, Bool.and_false, cond_true, cond_false, J_bot, bot_J, J_idem]
    all_goals first | exact LatT.le_refl _ | exact bot_le _ | exact le_ac (by simp only [J_assoc, J_comm, J_lcomm, J_idem, J_lidem])
  · exact absurd hok (by decide)
  · exact absurd hok (by decide)
  · exact absurd hok (by decide)
  · refine ⟨fun hh => ?_, fun hh => ?_, ?_, ?_, fun hh => ?_, fun hh => ?_, ?_, ?_, ?_⟩
    · first | rfl | exact J_idem _ | exact absurd (show ltZ (rankM 37 [((2 : Nat) : Int), ((2 : Nat) : Int)]) 1 = true from hh) (by decide)
    · first | rfl | exact J_idem _ | exact absurd (show ltZ (rankM 37 [((2 : Nat) : Int), ((2 : Nat) : Int)]) 2 = true from hh) (by decide)
    all_goals clear hok
    all_goals (try clear hh)
    all_goals simp only [show eqZ ((2 : Nat) : Int) ((2 : Nat) : Int) = true from rfl, show ltZ 0 ((2 : Nat) : Int) = true from rfl, oneM, twoM, labM, noTy, costM, bigB, foldJ, List.map_cons, List.map_nil, List.foldl_cons, List.foldl_nil, TM.lens, lastM, foldM, ext, Nat.blt, Nat.ble, eqZ_eq, leZ_eq, ltZ_eq, Int.reduceBEq, Int.reduceLE, Int.reduceLT, decide_true, decide_false, Bool.or_false, Bool.or_true, Bool.or_self, Bool.and_self, Bool.and_true, Bool.and_false, cond_true, cond_false, J_bot, bot_J, J_idem]
    all_goals first | exact LatT.le_refl _ | exact bot_le _ | exact le_ac (by simp only [J_assoc, J_comm, J_lcomm, J_idem, J_lidem])
theorem g2_38 {T : LatT} {m m' : TM T} (h2 : m.r ≤ 2) (b0 : m.r < 1 → m.a0 = bot T) (b1 : m.r < 2 → m.a1 = bot T) (l0 : LatT.le m.a0 m.d) (l1 : LatT.le m.a1 m.d) (h2' : m'.r ≤ 2) (b0' : m'.r < 1 → m'.a0 = bot T) (b1' : m'.r < 2 → m'.a1 = bot T) (l0' : LatT.le m'.a0 m'.d) (l1' : LatT.le m'.a1 m'.d) (hok : okR2 38 m.r m'.r = true) : GoodRes (rankM 38 [(m.r : Int), (m'.r : Int)]) (twoM 38 m m') (costM 38 [m, m'] (twoM 38 m m')) (labM 38 m m') := by
  obtain ⟨r, a0, a1, d⟩ := m
  obtain ⟨s, c0, c1, e⟩ := m'
  simp only at h2 b0 b1 l0 l1 hok h2' b0' b1' l0' l1'
  obtain ⟨x, rfl⟩ := over l0 l1
  obtain ⟨y, rfl⟩ := over l0' l1'
  clear l0 l1 l0' l1'
  have hc : r = 0 ∨ r = 1 ∨ r = 2 := by omega
  have hc' : s = 0 ∨ s = 1 ∨ s = 2 := by omega
  rcases hc with rfl | rfl | rfl <;> rcases hc' with rfl | rfl | rfl
  · exact absurd hok (by decide)
  · exact absurd hok (by decide)
  · exact absurd hok (by decide)
  · obtain rfl := b1 (by omega)
    obtain rfl := b0' (by omega)
    obtain rfl := b1' (by omega)
    refine ⟨fun hh => ?_, fun hh => ?_, ?_, ?_, fun hh => ?_, fun hh => ?_, ?_, ?_, ?_⟩
    · first | rfl | exact J_idem _ | exact absurd (show ltZ (rankM 38 [((1 : Nat) : Int), ((0 : Nat) : Int)]) 1 = true from hh) (by decide)
    · first | rfl | exact J_idem _ | exact absurd (show ltZ (rankM 38 [((1 : Nat) : Int), ((0 : Nat) : Int)]) 2 = true from hh) (by decide)
    all_goals clear hok
    all_goals (try clear hh)
    all_goals simp only [show eqZ ((1 : Nat) : Int) ((0 : Nat) : Int) = false from rfl, show ltZ 0 ((1 : Nat) : Int) = true from rfl, oneM, twoM, labM, noTy, costM, bigB, foldJ, List.map_cons, List.map_nil, List.foldl_cons, List.foldl_nil, TM.lens, lastM, foldM, ext, Nat.blt, Nat.ble, eqZ_eq, leZ_eq, ltZ_eq, Int.reduceBEq, Int.reduceLE, Int.reduceLT, decide_true, decide_false, Bool.or_false, Bool.or_true, Bool.or_self, Bool.and_self, Bool.and_true, Bool.and_false, cond_true, cond_false, J_bot, bot_J, J_idem]
    all_goals first | exact LatT.le_refl _ | exact bot_le _ | exact le_ac (by simp only [J_assoc, J_comm, J_lcomm, J_idem, J_lidem])
  · obtain rfl := b1 (by omega)
    obtain rfl := b1' (by omega)
    refine ⟨fun hh => ?_, fun hh => ?_, ?_, ?_, fun hh => ?_, fun hh => ?_, ?_, ?_, ?_⟩
    · first | rfl | exact J_idem _ | exact absurd (show ltZ (rankM 38 [((1 : Nat) : Int), ((1 : Nat) : Int)]) 1 = true from hh) (by decide)
    · first | rfl | exact J_idem _ | exact absurd (show ltZ (rankM 38 [((1 : Nat) : Int), ((1 : Nat) : Int)]) 2 = true from hh) (by decide)
    all_goals clear hok
    all_goals (try clear hh)
    all_goals simp only [show eqZ ((1 : Nat) : Int) ((1 : Nat) : Int) = true from rfl, show ltZ 0 ((1 : Nat) : Int) = true from rfl, oneM, twoM, labM, noTy, costM, bigB, foldJ, List.map_cons, List.map_nil, List.foldl_cons, List.foldl_nil, TM.lens, lastM, foldM, ext, Nat.blt, Nat.ble, eqZ_eq, leZ_eq, ltZ_eq, Int.reduceBEq, Int.reduceLE, Int.reduceLT, decide_true, decide_false, Bool.or_false, Bool.or_true, Bool.or_self, Bool.and_self, Bool.and_true, Bool.and_false, cond_true, cond_false, J_bot, bot_J, J_idem]
    all_goals first | exact LatT.le_refl _ | exact bot_le _ | exact le_ac (by simp only [J_assoc, J_comm, J_lcomm, J_idem, J_lidem])
  · exact absurd hok (by decide)
  · exact absurd hok (by decide)
  · exact absurd hok (by decide)
  · exact absurd hok (by decide)
theorem g2_39 {T : LatT} {m m' : TM T} (h2 : m.r ≤ 2) (b0 : m.r < 1 → m.a0 = bot T) (b1 : m.r < 2 → m.a1 = bot T) (l0 : LatT.le m.a0 m.d) (l1 : LatT.le m.a1 m.d) (h2' : m'.r ≤ 2) (b0' : m'.r < 1 → m'.a0 = bot T) (b1' : m'.r < 2 → m'.a1 = bot T) (l0' : LatT.le m'.a0 m'.d) (l1' : LatT.le m'.a1 m'.d) (hok : okR2 39 m.r m'.r = true) : GoodRes (rankM 39 [(m.r : Int), (m'.r : Int)]) (twoM 39 m m') (costM 39 [m, m'] (twoM 39 m m')) (labM 39 m m') := by
  obtain ⟨r, a0, a1, d⟩ := m
  obtain ⟨s, c0, c1, e⟩ := m'
  simp only at h2 b0 b1 l0 l1 hok h2' b0' b1' l0' l1'
  obtain ⟨x, rfl⟩ := over l0 l1
  obtain ⟨y, rfl⟩ := over l0' l1'
  clear l0 l1 l0' l1'
  have hc : r = 0 ∨ r = 1 ∨ r = 2 := by omega
  have hc' : s = 0 ∨ s = 1 ∨ s = 2 := by omega
  rcases hc with rfl | rfl | rfl <;> rcases hc' with rfl | rfl | rfl
  · exact absurd hok (by decide)
  · obtain rfl := b0 (by omega)
    obtain rfl := b1 (by omega)
    obtain rfl := b1' (by omega)
    refine ⟨fun hh => ?_, fun hh => ?_, ?_, ?_, fun hh => ?_, fun hh => ?_, ?_, ?_, ?_⟩
    · first | rfl | exact J_idem _ | exact absurd (show ltZ (rankM 39 [((0 : Nat) : Int), ((1 : Nat) : Int)]) 1 = true from hh) (by decide)
    · first | rfl | exact J_idem _ | exact absurd (show ltZ (rankM 39 [((0 : Nat) : Int), ((1 : Nat) : Int)]) 2 = true from hh) (by decide)
    all_goals clear hok
    all_goals (try clear hh)
    all_goals simp only [show eqZ ((0 : Nat) : Int) ((1 : Nat) : Int) = false from rfl, show ltZ 0 ((0 : Nat) : Int) = false from rfl, oneM, twoM, labM, noTy, costM, bigB, foldJ, List.map_cons, List.map_nil, List.foldl_cons, List.foldl_nil, TM.lens, lastM, foldM, ext, Nat.blt, Nat.ble, eqZ_eq, leZ_eq, ltZ_eq, Int.reduceBEq, Int.reduceLE, Int.reduceLT, decide_true, decide_false, Bool.or_false, Bool.or_true, Bool.or_self, Bool.and_self, Bool.and_true, Bool.and_false, cond_true, cond_false, J_bot, bot_J, J_idem]
    all_goals first | exact LatT.le_refl _ | exact bot_le _ | exact le_ac (by simp only [J_assoc, J_comm, J_lcomm, J_idem, J_lidem])
  · exact absurd hok (by decide)
  · exact absurd hok (by decide)
  · obtain rfl := b1 (by omega)
    obtain rfl := b1' (by omega)
    refine ⟨fun hh => ?_, fun hh => ?_, ?_, ?_, fun hh => ?_, fun hh => ?_, ?_, ?_, ?_⟩
    · first | rfl | exact J_idem _ | exact absurd (show ltZ (rankM 39 [((1 : Nat) : Int), ((1 : Nat) : Int)]) 1 = true from hh) (by decide)
    · first | rfl | exact J_idem _ | exact absurd (show ltZ (rankM 39 [((1 : Nat) : Int), ((1 : Nat) : Int)]) 2 = true from hh) (by decide)
    all_goals clear hok
    all_goals (try clear hh)
    all_goals simp only [show eqZ ((1 : Nat) : Int) ((1 : Nat) : Int) = true from rfl, show ltZ 0 ((1 : Nat) : Int) = true from rfl, oneM, twoM, labM, noTy, costM, bigB, foldJ, List.map_cons, List.map_nil, List.foldl_cons, List.foldl_nil, TM.lens, lastM, foldM, ext, Nat.blt, Nat.ble, eqZ_eq, leZ_eq, ltZ_eq, Int.reduceBEq, Int.reduceLE, Int.reduceLT, decide_true, decide_false, Bool.or_false, Bool.or_true, Bool.or_self, Bool.and_self, Bool.and_true, Bool.and_false, cond_true, cond_false, J_bot, bot_J, J_idem]
    all_goals first | exact LatT.le_refl _ | exact bot_le _ | exact le_ac (by simp only [J_assoc, J_comm, J_lcomm, J_idem, J_lidem])
  · exact absurd hok (by decide)
  · exact absurd hok (by decide)
  · obtain rfl := b1' (by omega)
    refine ⟨fun hh => ?_, fun hh => ?_, ?_, ?_, fun hh => ?_, fun hh => ?_, ?_, ?_, ?_⟩
    · first | rfl | exact J_idem _ | exact absurd (show ltZ (rankM 39 [((2 : Nat) : Int), ((1 : Nat) : Int)]) 1 = true from hh) (by decide)
    · first | rfl | exact J_idem _ | exact absurd (show ltZ (rankM 39 [((2 : Nat) : Int), ((1 : Nat) : Int)]) 2 = true from hh) (by decide)
    all_goals clear hok
    all_goals (try clear hh)
    all_goals simp only [show eqZ ((2 : Nat) : Int) ((1 : Nat) : Int) = false from rfl, show ltZ 0 ((2 : Nat) : Int) = true from rfl, oneM, twoM, labM, noTy, costM, bigB, foldJ, List.map_cons, List.map_nil, List.foldl_cons, List.foldl_nil, TM.lens, lastM, foldM, ext, Nat.blt, Nat.ble, eqZ_eq, leZ_eq, ltZ_eq, Int.reduceBEq, Int.reduceLE, Int.reduceLT, decide_true, decide_false, Bool.or_false, Bool.or_true, Bool.or_self, Bool.and_self, Bool.and_true, Bool.and_false, cond_true, cond_false, J_bot, bot_J, J_idem]
    all_goals first | exact LatT.le_refl _ | exact bot_le _ | exact le_ac (by simp only [J_assoc, J_comm, J_lcomm, J_idem, J_lidem])
  · exact absurd hok (by decide)
theorem g2_40 {T : LatT} {m m' : TM T} (h2 : m.r ≤ 2) (b0 : m.r < 1 → m.a0 = bot T) (b1 : m.r < 2 → m.a1 = bot T) (l0 : LatT.le m.a0 m.d) (l1 : LatT.le m.a1 m.d) (h2' : m'.r ≤ 2) (b0' : m'.r < 1 → m'.a0 = bot T) (b1' : m'.r < 2 → m'.a1 = bot T) (l0' : LatT.le m'.a0 m'.d) (l1' : LatT.le m'.a1 m'.d) (hok : okR2 40 m.r m'.r = true) : GoodRes (rankM 40 [(m.r : Int), (m'.r : Int)]) (twoM 40 m m') (costM 40 [m, m'] (twoM 40 m m')) (labM 40 m m') := by
  obtain ⟨r, a0, a1, d⟩ := m
  obtain ⟨s, c0, c1, e⟩ := m'
  simp only at h2 b0 b1 l0 l1 hok h2' b0' b1' l0' l1'
  obtain ⟨x, rfl⟩ := over l0 l1
  obtain ⟨y, rfl⟩ := over l0' l1'
  clear l0 l1 l0' l1'
  have hc : r = 0 ∨ r = 1 ∨ r = 2 := by omega
  have hc' : s = 0 ∨ s = 1 ∨ s = 2 := by omega
  rcases hc with rfl | rfl | rfl <;> rcases hc' with rfl | rfl | rfl
  · exact absurd hok (by decide)
  · exact absurd hok (by decide)
  · exact absurd hok (by decide)
  · exact absurd hok (by decide)
  · obtain rfl := b1 (by omega)
    obtain rfl := b1' (by omega)
    refine ⟨fun hh => ?_, fun hh => ?_, ?_, ?_, fun hh => ?_, fun hh => ?_, ?_, ?_, ?_⟩
    · first | rfl | exact J_idem _ | exact absurd (show ltZ (rankM 40 [((1 : Nat) : Int), ((1 : Nat) : Int)]) 1 = true from hh) (by decide)
    · first | rfl | exact J_idem _ | exact absurd (show ltZ (rankM 40 [((1 : Nat) : Int), ((1 : Nat) : Int)]) 2 = true from hh) (by decide)
    all_goals clear hok
    all_goals (try clear hh)
    all_goals simp only [show eqZ ((1 : Nat) : Int) ((1 : Nat) : Int) = true from rfl, show ltZ 0 ((1 : Nat) : Int) = true from rfl, oneM, twoM, labM, noTy, costM, bigB, foldJ, List.map_cons, List.map_nil, List.foldl_cons, List.foldl_nil, TM.lens, lastM, foldM, ext, Nat.blt, Nat.ble, eqZ_eq, leZ_eq, ltZ_eq, Int.reduceBEq, Int.reduceLE, Int.reduceLT, decide_true, decide_false, Bool.or_false, Bool.or_true, Bool.or_self, Bool.and_self, Bool.and_true, Bool.and_false, cond_true, cond_false, J_bot, bot_J, J_idem]
    all_goals first | exact LatT.le_refl _ | exact bot_le _ | exact le_ac (by simp only [J_assoc, J_comm, J_lcomm, J_idem, J_lidem])
  · exact absurd hok (by decide)
  · exact absurd hok (by decide)
  · exact absurd hok (by decide)
  · exact absurd hok (by decide)
end Go.Proofs.YtblbgjfkbcdlfaaGreatDoor
