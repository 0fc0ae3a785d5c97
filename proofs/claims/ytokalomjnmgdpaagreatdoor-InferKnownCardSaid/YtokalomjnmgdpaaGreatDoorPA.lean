/- The statement InferKnown: the call returns true. Conditions: the package-level variables that the row lists hold what the program's text lays (the card ties them). -/
import Derived.Test.YtokalomjnmgdpaaGreatDoorFA
import Derived.Test.YtokalomjnmgdpaaGreatDoorCards
import Derived.Test.YtokalomjnmgdpaaGreatDoorTie
import Derived.WalkKit
import Derived.ProofKit
import Derived.OpenShut
import Derived.LaidMore
import Derived.Deep.DeepHandedRow
import Derived.Deep.DeepWitnessRowRef
set_option linter.unusedVariables false
set_option linter.unusedSimpArgs false
set_option maxRecDepth 100000
namespace Go.Proofs.YtokalomjnmgdpaaGreatDoor
open Go Zv

theorem own : ownKnob Tryz.prog.godebug = none := by kernel_rfl
theorem kids : Kids Tryz.prog (· < Tryz.prog.types.size) := kids_rows (by kernel_rfl) (by kernel_rfl)
theorem slicesB : ((List.range Tryz.prog.types.size).all fun t => match Tryz.prog.underlying t with | some (.slice e) => Nat.blt 0 (Tryz.prog.cellsOf e) | _ => true) = true := by kernel_rfl
theorem slices_pos : ∀ t e, t < Tryz.prog.types.size → Tryz.prog.underlying t = some (.slice e) → 0 < Tryz.prog.cellsOf e := fun t e ht hu => by
  have h := List.all_eq_true.1 slicesB t (List.mem_range.2 ht)
  rw [hu] at h
  simpa [Nat.blt_eq] using h

def laidL : List (String × DataW Unit) := [("unicode/utf8.acceptRanges", Rows.laid_unicode_utf8_acceptRanges), ("invigilator/prims.numbers", Rows.laid_invigilator_prims_numbers), ("invigilator/prims.alike", Rows.laid_invigilator_prims_alike), ("unicode/utf8.first", Rows.laid_unicode_utf8_first)]

theorem dg0 : dOf (H := Unit) Rows.laid_invigilator_prims_numbers = g0 := by kernel_rfl
theorem dg1 : dOf (H := Unit) Rows.laid_invigilator_prims_alike = g1 := by kernel_rfl
theorem dg2 : dOf (H := Unit) Rows.laid_unicode_utf8_first = g2 := by kernel_rfl
theorem dg3 : dOf (H := Unit) Rows.laid_unicode_utf8_acceptRanges = g3 := by kernel_rfl

theorem globs {W : World} (h : laidMetH Tryz.prog laidL W) : GRel TE NoM W := by
  obtain ⟨ps, h⟩ := laid_of (by kernel_rfl) h
  have h0 := glob_of (P := Tryz.prog) (m := 4) (g := 0) (n := "invigilator/prims.numbers") (l := [.sl [.str]]) (d := Rows.laid_invigilator_prims_numbers) (by kernel_rfl) rfl (by kernel_rfl) h (by simp [laidL])
  have h1 := glob_of (P := Tryz.prog) (m := 4) (g := 1) (n := "invigilator/prims.alike") (l := [.sl [.str]]) (d := Rows.laid_invigilator_prims_alike) (by kernel_rfl) rfl (by kernel_rfl) h (by simp [laidL])
  have h2 := glob_of (P := Tryz.prog) (m := 4) (g := 2) (n := "unicode/utf8.first") (l := (List.replicate 256 [TY.int .u8]).flatten) (d := Rows.laid_unicode_utf8_first) (by kernel_rfl) rfl (by kernel_rfl) h (by simp [laidL])
  have h3 := glob_of (P := Tryz.prog) (m := 4) (g := 3) (n := "unicode/utf8.acceptRanges") (l := (List.replicate 16 [TY.int .u8, TY.int .u8]).flatten) (d := Rows.laid_unicode_utf8_acceptRanges) (by kernel_rfl) rfl (by kernel_rfl) h (by simp [laidL])
  rw [dg0] at h0; rw [dg1] at h1; rw [dg2] at h2; rw [dg3] at h3
  intro p hp
  have hp : p ∈ GG := hp
  simp only [GG, List.mem_cons, List.not_mem_nil, or_false] at hp
  rcases hp with rfl | rfl | rfl | rfl
  · exact ⟨fun h => h, h0.1, h0.2⟩
  · exact ⟨fun h => h, h1.1, h1.2⟩
  · exact ⟨fun h => h, h2.1, h2.2⟩
  · exact ⟨fun h => h, h3.1, h3.2⟩

/-- A world for the witness: what the program lays, with the library's own table. -/
noncomputable def laidWorld (os : Os) : World :=
  { World.doorLaid Tryz.prog 400 os with heap := (World.doorLaid Tryz.prog 400 os).heap.modify 2 fun
      | .cells _ t frozen => .cells (Go.Pinned.utf8FirstZ.map fun (n : Nat) => Value.int .u8 (n : Int)).toArray t frozen
      | o => o }
theorem laid_met (os : Os) (args : Array Value) : laidMet Tryz.prog laidL ((laidWorld os).forCall (fun _ _ => 0) ⟨#[], args, []⟩).memory :=
  laidMet_of_run' 8 (by kernel_rfl) (by kernel_rfl)

namespace inferKnown
open Go.ChangeShapes Go.WideShapes Go.ChangeAt Go.RowKit

theorem hfn3 : Tryz.prog.funcs[3]? = some Tryz.f3 := by kernel_rfl

theorem contract (H : Type) (enc : TypeId × Value → H) (W : World) (base : Nat) (args : Array Value) (ds gs : List (DataW H)) (before : List MemPlace)
    (hval : ∀ (j : Nat) t v, Tryz.f3.params[j]? = some t → args[j]? = some v → Value.okWide Tryz.prog W .any base t v)
    (hW : DataW.Whole enc Tryz.prog Tryz.f3.params.toList Rows.inferKnownSpec.vars false W args.toList ds gs before) (hL : laidMetH Tryz.prog laidL W) :
    Calls Tryz.prog 3 args W fun e W' => ∃ v, e = .returned v ∧ Rows.inferKnownSpec.post enc Tryz.prog Tryz.f3 false true false false W args v W' := by
  have hW0 := hW
  obtain ⟨p, q, hA, _⟩ := hW0
  have hp0 : Tryz.f3.params.toList = [] := by kernel_rfl
  have hargs : args.toList = [] := by
    rw [hp0] at hA
    exact (trodAll_nil hA).1
  have hv : VRels NoM W mu0 [] args.toList := by rw [hargs]; exact VRels.nil
  exact row_true (E := TE) (t := 4) kids slices_pos (by rw [hp0]; intro t ht; cases ht) rfl (fun d0 hd => by
    match d0, hd with
    | [], _ => rfl) (by kernel_rfl) (by kernel_rfl) hW m107.2.1 (globs hL) hv

theorem reads (os : Os) {H : Type} (enc : TypeId × Value → H) : ∃ places, DataW.whole enc Tryz.prog ((laidWorld os).forCall (fun _ _ => 0) ⟨#[], #[], []⟩).memory Tryz.f3.params.toList Rows.inferKnownSpec.vars false (#[] : Array Value).toList 8 = some ([], [], places) :=
  ⟨[], by kernel_rfl⟩

theorem lifted (os : Os) (started : os.Started) (H : Type) (enc : TypeId × Value → H) (F : Stop.Interp) :
    ReturnsInHanded {} Tryz.checked os 3 .any ((OpenSpec.ofChange Rows.inferKnownSpec).preRow enc Tryz.prog Tryz.f3 Rows.inferKnownRow.domain false Rows.inferKnownRow.laid) (((OpenSpec.ofChange Rows.inferKnownSpec).at F).post enc Tryz.prog Tryz.f3 false true false false) := by
  obtain ⟨places, hx⟩ := reads os enc
  refine returnsInHanded_of_row (C := Tryz.checked) (s := OpenSpec.ofChange Rows.inferKnownSpec) own started (by kernel_rfl) hfn3
    (witness_row_atRef (enc := enc) (C := Tryz.checked) false (laidWorld os) #[] rfl (by kernel_rfl) (by kernel_rfl) (by kernel_rfl)
      (OpenSpec.preRow_of_cond 8 hx (by kernel_rfl) (fun k hk => by cases hk) (by kernel_rfl) (laid_met os _))) ?_
  intro W base args ds gs before hval hW _ _ _ hL _ _
  exact contract H enc W base args ds gs before hval hW hL

theorem said : Rows.InferKnownSaid :=
  OpenClaim.holds_of_cond 3 Tryz.f3 rfl rfl rfl rfl rfl rfl rfl ⟨rfl, rfl, rfl, rfl, rfl⟩ rfl rfl rfl rfl rfl (by kernel_rfl) hfn3 (by kernel_rfl)
    (of_decide_eq_true (by kernel_rfl)) (by unfold Func.isWrapper; first | (rw [if_pos (by decide +kernel)]; kernel_rfl) | (rw [if_neg (by decide +kernel)]; exact ⟨rfl, rfl⟩))
    (fun os started H enc _ F => by rw [OpenClaim.pre_eq_preRow]; exact lifted os started H enc F)

theorem plain (f : FuncId) (fn : Func) (hf : Tryz.pinned.checked.prog.funcNamed "invigilator/invigilatorlaw22.InferKnown" = some f) (hfn : Tryz.pinned.checked.prog.funcs[f]? = some fn) :
    true = Tryz.pinned.checked.prog.looks [] ∧ ∀ (j : Nat) t, fn.params[j]? = some t → Tryz.pinned.checked.prog.wantsStandIn t = false := by
  obtain rfl : f = 3 := Option.some.inj ((show Tryz.prog.funcNamed "invigilator/invigilatorlaw22.InferKnown" = some 3 by kernel_rfl).symm.trans hf) |>.symm
  obtain rfl : fn = Tryz.f3 := (Option.some.inj (hfn3.symm.trans hfn)).symm
  refine ⟨by kernel_rfl, fun j t ht => ?_⟩
  have hall : (Tryz.f3.params.toList.all fun t => !(Tryz.prog.wantsStandIn t)) = true := by kernel_rfl
  have := List.all_eq_true.1 hall t (by rw [Array.mem_toList_iff]; exact Array.mem_of_getElem? ht)
  show Tryz.prog.wantsStandIn t = false
  simpa using this

theorem card : Rows.InferKnownCardSaid :=
  Claim7.holds_tied_plain_at .later [] _ _ _ _ said (fun _ h => by cases h) (by kernel_rfl) (fun _ h => by cases h) inferKnown_row_tie rfl ⟨rfl, rfl⟩ (by kernel_rfl) rfl plain (by kernel_rfl)
#print axioms card
end inferKnown
end Go.Proofs.YtokalomjnmgdpaaGreatDoor
