/-
  DERIVED. GIVEN WITH THE SEED: THE CARDS: each row of YtblbgjfkbcdlfaaGreatDoorRows.lean that lists a variable, with what it lists TIED to the program's text (the seventh form; the later family's looks); each row that meets fmt, with fmt's text TOLD by the authors' own Lean function (tested against real Go, not proved from fmt's source: count such statements apart). THE CARD IS WHAT COUNTS. Prove the row's statement (the work); the ties are given (YtblbgjfkbcdlfaaGreatDoorTie.lean); close each card by the builder's one call (the guide's Derived/Test/ToyasCard.lean, 'card_holds'). Laid BY PROGRAM, IN A SANDBOX (cutbox-door.mjs). By AI agents, Wed Nov 11 2026. No macro, syntax, notation, axiom, sorry.
-/
import Derived.Test.YtblbgjfkbcdlfaaGreatDoorRows
import GoSem.ClaimSeven
namespace Go.Proofs.YtblbgjfkbcdlfaaGreatDoor
namespace Rows

/-- THE TIED CARD OF 'invigilatorlaw27.TaintPrims'. -/
def taintPrimsCard : Claim7 := { stood := { row := taintPrimsRow, standIns := [], harness := (true, "1f3e172e27379993340550fa4dfe32f5c0b73d230f3d6889fc2ae608cdd7e575"), looks := false }, kinds := [], alts := [], laidByText := true, laidKinds := [.data, .widerDeep, .widerDeep, .pinned], laidTests := true, laidLooks := .later }
def TaintPrimsCardSaid : Prop := Claim7.holds Tryz.pinned (.plain (OpenSpec.ofChange taintPrimsSpec)) taintPrimsCard

/-- THE TIED CARD OF 'invigilatorlaw27.TaintRises'. -/
def taintRisesCard : Claim7 := { stood := { row := taintRisesRow, standIns := [], harness := (true, "1f3e172e27379993340550fa4dfe32f5c0b73d230f3d6889fc2ae608cdd7e575"), looks := false }, kinds := [], alts := [], laidByText := true, laidKinds := [.data, .widerDeep, .widerDeep, .pinned], laidTests := true, laidLooks := .later }
def TaintRisesCardSaid : Prop := Claim7.holds Tryz.pinned (.plain (OpenSpec.ofChange taintRisesSpec)) taintRisesCard

/-- THE TIED CARD OF 'invigilatorlaw27.TaintRules'. -/
def taintRulesCard : Claim7 := { stood := { row := taintRulesRow, standIns := [], harness := (true, "1f3e172e27379993340550fa4dfe32f5c0b73d230f3d6889fc2ae608cdd7e575"), looks := false }, kinds := [], alts := [], laidByText := true, laidKinds := [.data, .widerDeep, .widerDeep, .pinned], laidTests := true, laidLooks := .later }
def TaintRulesCardSaid : Prop := Claim7.holds Tryz.pinned (.plain (OpenSpec.ofChange taintRulesSpec)) taintRulesCard

/-- THE SECOND FORM's CARD OF 'invigilatorlaw27.TaintPrims'. -/
def taintPrimsUptoCard : Claim7 := { stood := { row := taintPrimsUptoRow, standIns := [], harness := (true, "1f3e172e27379993340550fa4dfe32f5c0b73d230f3d6889fc2ae608cdd7e575"), looks := false }, kinds := [], alts := [], laidByText := true, laidKinds := [.data, .widerDeep, .widerDeep, .pinned], laidTests := true, laidLooks := .later }
def TaintPrimsUptoCardSaid : Prop := Claim7.holds Tryz.pinned (.plain (OpenSpec.upto taintPrimsSpec)) taintPrimsUptoCard

/-- THE SECOND FORM's CARD OF 'invigilatorlaw27.TaintRises'. -/
def taintRisesUptoCard : Claim7 := { stood := { row := taintRisesUptoRow, standIns := [], harness := (true, "1f3e172e27379993340550fa4dfe32f5c0b73d230f3d6889fc2ae608cdd7e575"), looks := false }, kinds := [], alts := [], laidByText := true, laidKinds := [.data, .widerDeep, .widerDeep, .pinned], laidTests := true, laidLooks := .later }
def TaintRisesUptoCardSaid : Prop := Claim7.holds Tryz.pinned (.plain (OpenSpec.upto taintRisesSpec)) taintRisesUptoCard

/-- THE SECOND FORM's CARD OF 'invigilatorlaw27.TaintRules'. -/
def taintRulesUptoCard : Claim7 := { stood := { row := taintRulesUptoRow, standIns := [], harness := (true, "1f3e172e27379993340550fa4dfe32f5c0b73d230f3d6889fc2ae608cdd7e575"), looks := false }, kinds := [], alts := [], laidByText := true, laidKinds := [.data, .widerDeep, .widerDeep, .pinned], laidTests := true, laidLooks := .later }
def TaintRulesUptoCardSaid : Prop := Claim7.holds Tryz.pinned (.plain (OpenSpec.upto taintRulesSpec)) taintRulesUptoCard
end Rows
end Go.Proofs.YtblbgjfkbcdlfaaGreatDoor
