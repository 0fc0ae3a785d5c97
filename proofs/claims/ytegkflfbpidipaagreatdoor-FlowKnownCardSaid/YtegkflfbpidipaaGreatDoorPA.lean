/- The statement FlowKnown: the call returns true. Conditions: the package-level variables that the row lists hold what the program's text lays (the card ties them). -/
import Derived.Test.YtegkflfbpidipaaGreatDoorFB
import Derived.Test.YtegkflfbpidipaaGreatDoorCards
import Derived.Test.YtegkflfbpidipaaGreatDoorTie
import Derived.WalkKit
import Derived.ProofKit
import Derived.OpenShut
import Derived.LaidMore
import Derived.LaidHandle
import Derived.LaidLaws
import Derived.Deep.DeepHandedRow
import Derived.Deep.DeepWitnessRowRef
set_option linter.unusedVariables false
set_option linter.unusedSimpArgs false
set_option maxRecDepth 100000
namespace Go.Proofs.YtegkflfbpidipaaGreatDoor
open Go Zv

theorem own : ownKnob Tryz.prog.godebug = none := by kernel_rfl
theorem kids : Kids Tryz.prog (· < Tryz.prog.types.size) := kids_rows (by kernel_rfl) (by kernel_rfl)
theorem slicesB : ((List.range Tryz.prog.types.size).all fun t => match Tryz.prog.underlying t with | some (.slice e) => Nat.blt 0 (Tryz.prog.cellsOf e) | _ => true) = true := by kernel_rfl
theorem slices_pos : ∀ t e, t < Tryz.prog.types.size → Tryz.prog.underlying t = some (.slice e) → 0 < Tryz.prog.cellsOf e := fun t e ht hu => by
  have h := List.all_eq_true.1 slicesB t (List.mem_range.2 ht)
  rw [hu] at h
  simpa [Nat.blt_eq] using h

def laidP : List (String × DataW Unit) := [("unicode/utf8.acceptRanges", Rows.laid_unicode_utf8_acceptRanges), ("invigilator/prims.numbers", Rows.laid_invigilator_prims_numbers), ("invigilator/prims.alike", Rows.laid_invigilator_prims_alike), ("unicode/utf8.first", Rows.laid_unicode_utf8_first)]
def laidL : List (String × DataW Unit) := [("unicode/utf8.acceptRanges", Rows.laid_unicode_utf8_acceptRanges), ("errors.errorType", Rows.laid_errors_errorType), ("invigilator/prims.numbers", Rows.laid_invigilator_prims_numbers), ("invigilator/prims.alike", Rows.laid_invigilator_prims_alike), ("unicode/utf8.first", Rows.laid_unicode_utf8_first)]
theorem dg4 : dOf (H := Unit) Rows.laid_unicode_utf8_acceptRanges = g4 := by kernel_rfl
theorem dg1 : dOf (H := Unit) Rows.laid_invigilator_prims_numbers = g1 := by kernel_rfl
theorem dg2 : dOf (H := Unit) Rows.laid_invigilator_prims_alike = g2 := by kernel_rfl
theorem dg3 : dOf (H := Unit) Rows.laid_unicode_utf8_first = g3 := by kernel_rfl
theorem rtn : (Tryz.prog.cutTypes.find? (·.1 == "internal/reflectlite.rtype")).map (·.2) = some 149 := by kernel_rfl
theorem oneRow : ((List.range Tryz.prog.types.size).filter fun t => Tryz.prog.rowNamed t [101, 114, 114, 111, 114]) = [69] := by kernel_rfl
theorem etn : Tryz.prog.globalNamed "errors.errorType" = some 0 := by kernel_rfl

/-- What the condition says of the variable that holds a type's handle. -/
theorem handle {W : World} (h : handlesMet Tryz.prog [("errors.errorType", Rows.laid_errors_errorType)] W) : W.cell? ⟨0, 0, none⟩ = some (.iface 149 (.agg #[.pointer (some ⟨6, 69, none⟩)])) := by
  obtain ⟨name, u, ty, e1, e2, e3, e4, e5⟩ := h _ (List.mem_singleton.2 rfl)
  have en : name = [101, 114, 114, 111, 114] := (Option.some.inj e1).symm
  subst en
  obtain rfl := Option.some.inj (rtn.symm.trans e2)
  have hm : ty ∈ (List.range Tryz.prog.types.size).filter fun t => Tryz.prog.rowNamed t [101, 114, 114, 111, 114] := List.mem_filter.2 ⟨List.mem_range.2 e3, e4⟩
  rw [oneRow] at hm
  obtain rfl := List.mem_singleton.1 hm
  have hh : typeHandle Tryz.prog 69 = .pointer (some ⟨6, 69, none⟩) := by kernel_rfl
  rw [hh] at e5
  simpa using World.var?_cell etn e5 0

theorem globs {W : World} (h : laidMetH Tryz.prog laidL W) : GRel TE NoM W := by
  obtain ⟨⟨ps, h⟩, hH⟩ := laid_ofH (x := ("errors.errorType", Rows.laid_errors_errorType)) (r := []) (l1 := laidP) rfl rfl h
  have h4 := glob_of (P := Tryz.prog) (m := 4) (g := 4) (n := "unicode/utf8.acceptRanges") (l := (List.replicate 16 [TY.int .u8, TY.int .u8]).flatten) (d := Rows.laid_unicode_utf8_acceptRanges) (by kernel_rfl) rfl (by kernel_rfl) h (by simp [laidP])
  rw [dg4] at h4
  have h1 := glob_of (P := Tryz.prog) (m := 4) (g := 1) (n := "invigilator/prims.numbers") (l := [.sl [.str]]) (d := Rows.laid_invigilator_prims_numbers) (by kernel_rfl) rfl (by kernel_rfl) h (by simp [laidP])
  rw [dg1] at h1
  have h2 := glob_of (P := Tryz.prog) (m := 4) (g := 2) (n := "invigilator/prims.alike") (l := [.sl [.str]]) (d := Rows.laid_invigilator_prims_alike) (by kernel_rfl) rfl (by kernel_rfl) h (by simp [laidP])
  rw [dg2] at h2
  have h3 := glob_of (P := Tryz.prog) (m := 4) (g := 3) (n := "unicode/utf8.first") (l := (List.replicate 256 [TY.int .u8]).flatten) (d := Rows.laid_unicode_utf8_first) (by kernel_rfl) rfl (by kernel_rfl) h (by simp [laidP])
  rw [dg3] at h3
  have hE := grel_handle (E := TE) (l := g0) rfl (handle hH)
  intro p hp
  have hp : p ∈ GG := hp
  simp only [GG, List.mem_cons, List.not_mem_nil, or_false] at hp
  rcases hp with rfl | rfl | rfl | rfl | rfl
  · exact hE
  · exact ⟨fun h => h, h1.1, h1.2⟩
  · exact ⟨fun h => h, h2.1, h2.2⟩
  · exact ⟨fun h => h, h3.1, h3.2⟩
  · exact ⟨fun h => h, h4.1, h4.2⟩

/-- A world for the witness: what the program lays, with the library's own table. -/
noncomputable def laidWorld1 (os : Os) : World :=
  { World.doorLaid Tryz.prog 400 os with heap := (World.doorLaid Tryz.prog 400 os).heap.modify 3 fun
      | .cells _ t frozen => .cells (Go.Pinned.utf8FirstZ.map fun (n : Nat) => Value.int .u8 (n : Int)).toArray t frozen
      | o => o }
noncomputable def laidWorld (os : Os) : World :=
  { laidWorld1 os with heap := (laidWorld1 os).heap.modify 0 fun
      | .cells _ t frozen => .cells #[.iface 149 (.agg #[.pointer (some ⟨6, 69, none⟩)])] t frozen
      | o => o }
theorem laid_met (os : Os) (args : Array Value) : laidMetH Tryz.prog laidL ((laidWorld os).forCall (fun _ _ => 0) ⟨#[], args, []⟩).memory :=
  laidMetH_of_parts (laidMet_of_run' 8 (by kernel_rfl) (by kernel_rfl)) (by kernel_rfl)

namespace flowKnown
open Go.ChangeShapes Go.WideShapes Go.ChangeAt Go.RowKit

theorem hfn3 : Tryz.prog.funcs[3]? = some Tryz.f3 := by kernel_rfl

theorem contract (H : Type) (enc : TypeId × Value → H) (W : World) (base : Nat) (args : Array Value) (ds gs : List (DataW H)) (before : List MemPlace)
    (hval : ∀ (j : Nat) t v, Tryz.f3.params[j]? = some t → args[j]? = some v → Value.okWide Tryz.prog W .any base t v)
    (hW : DataW.Whole enc Tryz.prog Tryz.f3.params.toList Rows.flowKnownSpec.vars false W args.toList ds gs before) (hL : laidMetH Tryz.prog laidL W) :
    Calls Tryz.prog 3 args W fun e W' => ∃ v, e = .returned v ∧ Rows.flowKnownSpec.post enc Tryz.prog Tryz.f3 false true false false W args v W' := by
  have hW0 := hW
  obtain ⟨p, q, hA, _⟩ := hW0
  have hp0 : Tryz.f3.params.toList = [] := by kernel_rfl
  have hargs : args.toList = [] := by
    rw [hp0] at hA
    exact (trodAll_nil hA).1
  have hv : VRels NoM W mu0 [] args.toList := by rw [hargs]; exact VRels.nil
  exact row_true (E := TE) (t := 4) kids slices_pos (by rw [hp0]; intro t ht; cases ht) rfl (fun d0 hd => by
    match d0, hd with
    | [], _ => rfl) (by kernel_rfl) (by kernel_rfl) hW m148.2.1 (globs hL) hv

theorem reads (os : Os) {H : Type} (enc : TypeId × Value → H) : ∃ places, DataW.whole enc Tryz.prog ((laidWorld os).forCall (fun _ _ => 0) ⟨#[], #[], []⟩).memory Tryz.f3.params.toList Rows.flowKnownSpec.vars false (#[] : Array Value).toList 8 = some ([], [], places) :=
  ⟨[], by kernel_rfl⟩

theorem lifted (os : Os) (started : os.Started) (H : Type) (enc : TypeId × Value → H) (F : Stop.Interp) :
    ReturnsInHanded {} Tryz.checked os 3 .any ((OpenSpec.ofChange Rows.flowKnownSpec).preRow enc Tryz.prog Tryz.f3 Rows.flowKnownRow.domain false Rows.flowKnownRow.laid) (((OpenSpec.ofChange Rows.flowKnownSpec).at F).post enc Tryz.prog Tryz.f3 false true false false) := by
  obtain ⟨places, hx⟩ := reads os enc
  refine returnsInHanded_of_row (C := Tryz.checked) (s := OpenSpec.ofChange Rows.flowKnownSpec) own started (by kernel_rfl) hfn3
    (witness_row_atRef (enc := enc) (C := Tryz.checked) false (laidWorld os) #[] rfl (by kernel_rfl) (by kernel_rfl) (by kernel_rfl)
      (OpenSpec.preRow_of_cond 8 hx (by kernel_rfl) (fun k hk => by cases hk) (by kernel_rfl) (laid_met os _))) ?_
  intro W base args ds gs before hval hW _ _ _ hL _ _
  exact contract H enc W base args ds gs before hval hW hL

end flowKnown
end Go.Proofs.YtegkflfbpidipaaGreatDoor
