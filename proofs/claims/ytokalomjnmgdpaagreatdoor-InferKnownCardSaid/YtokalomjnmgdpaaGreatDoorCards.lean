/-
  DERIVED. GIVEN WITH THE SEED: THE CARDS: each row of YtokalomjnmgdpaaGreatDoorRows.lean that lists a variable, with what it lists TIED to the program's text (the seventh form; the later family's looks); each row that meets fmt, with fmt's text TOLD by the authors' own Lean function (tested against real Go, not proved from fmt's source: count such statements apart). THE CARD IS WHAT COUNTS. Prove the row's statement (the work); the ties are given (YtokalomjnmgdpaaGreatDoorTie.lean); close each card by the builder's one call (the guide's Derived/Test/ToyasCard.lean, 'card_holds'). Laid BY PROGRAM, IN A SANDBOX (cutbox-door.mjs). By AI agents, Wed Nov 11 2026. No macro, syntax, notation, axiom, sorry.
-/
import Derived.Test.YtokalomjnmgdpaaGreatDoorRows
import GoSem.ClaimSeven
namespace Go.Proofs.YtokalomjnmgdpaaGreatDoor
namespace Rows

/-- THE TIED CARD OF 'invigilatorlaw22.InferKnown'. -/
def inferKnownCard : Claim7 := { stood := { row := inferKnownRow, standIns := [], harness := (true, "855e3992bef2bc2b1561b2405d431786a43c6db7af52c111051dd20ec5027c40"), looks := true }, kinds := [], alts := [], laidByText := true, laidKinds := [.data, .widerDeep, .widerDeep, .pinned], laidTests := true, laidLooks := .later }
def InferKnownCardSaid : Prop := Claim7.holds Tryz.pinned (.plain (OpenSpec.ofChange inferKnownSpec)) inferKnownCard

/-- THE TIED CARD OF 'invigilatorlaw22.InferSites'. -/
def inferSitesCard : Claim7 := { stood := { row := inferSitesRow, standIns := [], harness := (true, "855e3992bef2bc2b1561b2405d431786a43c6db7af52c111051dd20ec5027c40"), looks := true }, kinds := [], alts := [], laidByText := true, laidKinds := [.data, .widerDeep, .widerDeep, .pinned], laidTests := true, laidLooks := .later }
def InferSitesCardSaid : Prop := Claim7.holds Tryz.pinned (.plain (OpenSpec.ofChange inferSitesSpec)) inferSitesCard

/-- THE SECOND FORM's CARD OF 'invigilatorlaw22.InferKnown'. -/
def inferKnownUptoCard : Claim7 := { stood := { row := inferKnownUptoRow, standIns := [], harness := (true, "855e3992bef2bc2b1561b2405d431786a43c6db7af52c111051dd20ec5027c40"), looks := true }, kinds := [], alts := [], laidByText := true, laidKinds := [.data, .widerDeep, .widerDeep, .pinned], laidTests := true, laidLooks := .later }
def InferKnownUptoCardSaid : Prop := Claim7.holds Tryz.pinned (.plain (OpenSpec.upto inferKnownSpec)) inferKnownUptoCard

/-- THE SECOND FORM's CARD OF 'invigilatorlaw22.InferSites'. -/
def inferSitesUptoCard : Claim7 := { stood := { row := inferSitesUptoRow, standIns := [], harness := (true, "855e3992bef2bc2b1561b2405d431786a43c6db7af52c111051dd20ec5027c40"), looks := true }, kinds := [], alts := [], laidByText := true, laidKinds := [.data, .widerDeep, .widerDeep, .pinned], laidTests := true, laidLooks := .later }
def InferSitesUptoCardSaid : Prop := Claim7.holds Tryz.pinned (.plain (OpenSpec.upto inferSitesSpec)) inferSitesUptoCard
end Rows
end Go.Proofs.YtokalomjnmgdpaaGreatDoor
