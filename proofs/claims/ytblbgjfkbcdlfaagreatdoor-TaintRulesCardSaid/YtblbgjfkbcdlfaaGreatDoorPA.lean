/- From a law's typed fact to its statement: a world that fits, arguments, package-level variables. -/
import Derived.Test.YtblbgjfkbcdlfaaGreatDoorLF
import Derived.Test.YtblbgjfkbcdlfaaGreatDoorCards
import Derived.Test.YtblbgjfkbcdlfaaGreatDoorTie
import Derived.WalkKit
import Derived.ProofKit
import Derived.OpenShut
import Derived.LaidMore
import Derived.Deep.DeepHandedRow
import Derived.Deep.DeepWitnessRowRef
set_option linter.unusedVariables false
set_option linter.unusedSimpArgs false
set_option maxRecDepth 100000
namespace Go.Proofs.YtblbgjfkbcdlfaaGreatDoor
open Go Iv

theorem own : ownKnob Tryz.prog.godebug = none := by kernel_rfl
theorem kids : Kids Tryz.prog (· < Tryz.prog.types.size) := kids_rows (by kernel_rfl) (by kernel_rfl)
theorem slicesB : ((List.range Tryz.prog.types.size).all fun t => match Tryz.prog.underlying t with | some (.slice e) => Nat.blt 0 (Tryz.prog.cellsOf e) | _ => true) = true := by kernel_rfl
theorem slices_pos : ∀ t e, t < Tryz.prog.types.size → Tryz.prog.underlying t = some (.slice e) → 0 < Tryz.prog.cellsOf e := fun t e ht hu => by
  have h := List.all_eq_true.1 slicesB t (List.mem_range.2 ht)
  rw [hu] at h
  simpa [Nat.blt_eq] using h

def laidL : List (String × DataW Unit) := [("unicode/utf8.acceptRanges", Rows.laid_unicode_utf8_acceptRanges), ("invigilator/prims.numbers", Rows.laid_invigilator_prims_numbers), ("invigilator/prims.alike", Rows.laid_invigilator_prims_alike), ("unicode/utf8.first", Rows.laid_unicode_utf8_first)]

theorem globs {W : World} (h : laidMetH Tryz.prog laidL W) : GRel TryzE NoM W := by
  obtain ⟨ps, h⟩ := laid_of (by kernel_rfl) h
  have h0 := glob_of (m := 4) (g := 0) (n := "invigilator/prims.numbers") (t := 22) (l := [.sl [.str]]) (d := Rows.laid_invigilator_prims_numbers) (by kernel_rfl) (by kernel_rfl) (by kernel_rfl) h (by simp [laidL])
  have h1 := glob_of (m := 4) (g := 1) (n := "invigilator/prims.alike") (t := 22) (l := [.sl [.str]]) (d := Rows.laid_invigilator_prims_alike) (by kernel_rfl) (by kernel_rfl) (by kernel_rfl) h (by simp [laidL])
  have h2 := glob_of (m := 4) (g := 2) (n := "unicode/utf8.first") (t := 192) (l := (List.replicate 256 [TY.int .u8]).flatten) (d := Rows.laid_unicode_utf8_first) (by kernel_rfl) (by kernel_rfl) (by kernel_rfl) h (by simp [laidL])
  have h3 := glob_of (m := 4) (g := 3) (n := "unicode/utf8.acceptRanges") (t := 196) (l := (List.replicate 16 [TY.int .u8, TY.int .u8]).flatten) (d := Rows.laid_unicode_utf8_acceptRanges) (by kernel_rfl) (by kernel_rfl) (by kernel_rfl) h (by simp [laidL])
  intro p hp
  have hp : p ∈ [(0, g0), (1, g1), (2, g2), (3, g3)] := hp
  simp only [List.mem_cons, List.not_mem_nil, or_false] at hp
  rcases hp with rfl | rfl | rfl | rfl
  · exact ⟨fun h => h, h0.1, h0.2⟩
  · exact ⟨fun h => h, h1.1, h1.2⟩
  · exact ⟨fun h => h, h2.1, trivial⟩
  · exact ⟨fun h => h, h3.1, trivial⟩

/-! Arguments. -/
theorem one_str : ∀ {rows : List (List D)}, (∀ r ∈ rows, TY.oks [.str] r) → ∃ ss : List (List UInt8), rows = ss.map fun s => [D.str s]
  | [], _ => ⟨[], rfl⟩
  | r :: rows, h => by
    obtain ⟨ss, rfl⟩ := one_str (rows := rows) (fun r hr => h r (by simp [hr]))
    have h0 := h r (by simp)
    simp only [TY.oks, TY.ok] at h0
    obtain ⟨d, r', rfl, ⟨s, rfl, _⟩, rfl⟩ := h0
    exact ⟨s :: ss, rfl⟩
theorem one_u8' : ∀ {rows : List (List D)}, (∀ r ∈ rows, TY.oks [.int .u8] r) → ∃ us : List Nat, (rows = us.map fun (u : Nat) => [D.int .u8 (u : Int)]) ∧ ∀ u ∈ us, u < 256
  | [], _ => ⟨[], rfl, fun u hu => by cases hu⟩
  | r :: rows, h => by
    obtain ⟨us, rfl, hu⟩ := one_u8' (rows := rows) (fun r hr => h r (by simp [hr]))
    have h0 := h r (by simp)
    simp only [TY.oks, TY.ok] at h0
    obtain ⟨d, r', rfl, ⟨n, rfl, h1, h2⟩, rfl⟩ := h0
    have h1 : 0 ≤ n := h1
    have h2 : n ≤ 255 := h2
    refine ⟨n.toNat :: us, ?_, fun u hx => ?_⟩
    · simp only [List.map_cons]
      rw [show ((n.toNat : Nat) : Int) = n by omega]
    · rcases List.mem_cons.1 hx with rfl | hx
      · omega
      · exact hu u hx
theorem one_ty : ∀ {rows : List (List D)}, (∀ r ∈ rows, TY.oks [.int .i64, .int .i64, .int .i64, .int .i64, .int .i64] r) → ∃ ts : List TyR, rows = ts.map TyR.row
  | [], _ => ⟨[], rfl⟩
  | r :: rows, h => by
    obtain ⟨ts, rfl⟩ := one_ty (rows := rows) (fun r hr => h r (by simp [hr]))
    have h0 := h r (by simp)
    simp only [TY.oks, TY.ok] at h0
    obtain ⟨d, r', rfl, ⟨a, rfl, _⟩, d, r'', rfl, ⟨b, rfl, _⟩, d, r3, rfl, ⟨c, rfl, _⟩, d, r4, rfl, ⟨e, rfl, _⟩, d, r5, rfl, ⟨f, rfl, _⟩, rfl⟩ := h0
    exact ⟨⟨a, b, c, e, f⟩ :: ts, rfl⟩
theorem in_strs {d : D} (h : TY.ok (.sl [.str]) d) : ∃ ss, Strs ss d := by
  simp only [TY.ok] at h
  rcases h with rfl | ⟨rows, rfl, _, h⟩
  · exact ⟨[], fun r hr => by simp at hr, .inl ⟨rfl, rfl⟩⟩
  · obtain ⟨ss, rfl⟩ := one_str h
    exact ⟨ss, fun r hr => by simp only [List.mem_map] at hr; obtain ⟨s, _, rfl⟩ := hr; rfl, .inr ⟨false, rfl⟩⟩
theorem in_u8s {d : D} (h : TY.ok (.sl [.int .u8]) d) : ∃ us, U8s us d := by
  simp only [TY.ok] at h
  rcases h with rfl | ⟨rows, rfl, _, h⟩
  · exact ⟨[], ⟨fun r hr => by simp at hr, .inl ⟨rfl, rfl⟩⟩, fun u hu => by cases hu⟩
  · obtain ⟨us, rfl, hu⟩ := one_u8' h
    exact ⟨us, ⟨fun r hr => by simp only [List.mem_map] at hr; obtain ⟨s, _, rfl⟩ := hr; rfl, .inr ⟨false, rfl⟩⟩, hu⟩
theorem in_tys {d : D} (h : TY.ok (.sl [.int .i64, .int .i64, .int .i64, .int .i64, .int .i64]) d) : ∃ ts, Tys ts d := by
  simp only [TY.ok] at h
  rcases h with rfl | ⟨rows, rfl, _, h⟩
  · exact ⟨[], fun r hr => by simp at hr, .inl ⟨rfl, rfl⟩⟩
  · obtain ⟨ts, rfl⟩ := one_ty h
    exact ⟨ts, fun r hr => by simp only [List.mem_map] at hr; obtain ⟨s, _, rfl⟩ := hr; rfl, .inr ⟨false, rfl⟩⟩

/-- A world for the witness: what the program lays, with the library's own table. -/
noncomputable def laidWorld (os : Os) : World :=
  { World.doorLaid Tryz.prog 400 os with heap := (World.doorLaid Tryz.prog 400 os).heap.modify 2 fun
      | .cells _ t frozen => .cells (Go.Pinned.utf8FirstZ.map fun (n : Nat) => Value.int .u8 (n : Int)).toArray t frozen
      | o => o }
theorem laid_met (os : Os) (args : Array Value) : laidMet Tryz.prog laidL ((laidWorld os).forCall (fun _ _ => 0) ⟨#[], args, []⟩).memory :=
  laidMet_of_run' 8 (by kernel_rfl) (by kernel_rfl)
end Go.Proofs.YtblbgjfkbcdlfaaGreatDoor
