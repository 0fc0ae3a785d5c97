/-
  DERIVED. GIVEN WITH THE SEED: THE CARDS: each row of YtoefcncofakjkaaGreatDoorRows.lean that lists a variable, with what it lists TIED to the program's text (the seventh form; the later family's looks); each row that meets fmt, with fmt's text TOLD by the authors' own Lean function (tested against real Go, not proved from fmt's source: count such statements apart). THE CARD IS WHAT COUNTS. Prove the row's statement (the work); the ties are given (YtoefcncofakjkaaGreatDoorTie.lean); close each card by the builder's one call (the guide's Derived/Test/ToyasCard.lean, 'card_holds'). Laid BY PROGRAM, IN A SANDBOX (cutbox-door.mjs). By AI agents, Wed Nov 11 2026. No macro, syntax, notation, axiom, sorry.
-/
import Derived.Test.YtoefcncofakjkaaGreatDoorRows
import GoSem.ClaimSeven
namespace Go.Proofs.YtoefcncofakjkaaGreatDoor
namespace Rows

/-- THE TIED CARD OF 'invigilatorlaw23.FlowChecks'. -/
def flowChecksCard : Claim7 := { stood := { row := flowChecksRow, standIns := [], harness := (true, "179fb8241b6eacf053728dfd4cf80de9ea6675a253b0c1d1bdcfb105b82ae279"), looks := true }, kinds := [], alts := [], laidByText := true, laidKinds := [.data, .handle, .widerDeep, .widerDeep, .pinned], laidTests := true, laidLooks := .later }
def FlowChecksCardSaid : Prop := Claim7.holds Tryz.pinned (.plain (OpenSpec.ofChange flowChecksSpec)) flowChecksCard

/-- THE SECOND FORM's CARD OF 'invigilatorlaw23.FlowChecks'. -/
def flowChecksUptoCard : Claim7 := { stood := { row := flowChecksUptoRow, standIns := [], harness := (true, "179fb8241b6eacf053728dfd4cf80de9ea6675a253b0c1d1bdcfb105b82ae279"), looks := true }, kinds := [], alts := [], laidByText := true, laidKinds := [.data, .handle, .widerDeep, .widerDeep, .pinned], laidTests := true, laidLooks := .later }
def FlowChecksUptoCardSaid : Prop := Claim7.holds Tryz.pinned (.plain (OpenSpec.upto flowChecksSpec)) flowChecksUptoCard
end Rows
end Go.Proofs.YtoefcncofakjkaaGreatDoor
