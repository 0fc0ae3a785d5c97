/-
  DERIVED. GIVEN WITH THE SEED: THE CARDS: each row of YtnpoohbeicakkaaGreatDoorRows.lean that lists a variable, with what it lists TIED to the program's text (the seventh form; the later family's looks); each row that meets fmt, with fmt's text TOLD by the authors' own Lean function (tested against real Go, not proved from fmt's source: count such statements apart). THE CARD IS WHAT COUNTS. Prove the row's statement (the work); the ties are given (YtnpoohbeicakkaaGreatDoorTie.lean); close each card by the builder's one call (the guide's Derived/Test/ToyasCard.lean, 'card_holds'). Laid BY PROGRAM, IN A SANDBOX (cutbox-door.mjs). By AI agents, Wed Nov 11 2026. No macro, syntax, notation, axiom, sorry.
-/
import Derived.Test.YtnpoohbeicakkaaGreatDoorRows
import GoSem.ClaimSeven
namespace Go.Proofs.YtnpoohbeicakkaaGreatDoor
namespace Rows

/-- THE TIED CARD OF 'invigilatorlaw22.InferLooks'. -/
def inferLooksCard : Claim7 := { stood := { row := inferLooksRow, standIns := [], harness := (true, "e719fc6713323a2e102ed7953e00243948e66f64b0dc16d0bce22a87586a5303"), looks := true }, kinds := [], alts := [], laidByText := true, laidKinds := [.data, .widerDeep, .widerDeep, .pinned], laidTests := true, laidLooks := .later }
def InferLooksCardSaid : Prop := Claim7.holds Tryz.pinned (.plain (OpenSpec.ofChange inferLooksSpec)) inferLooksCard

/-- THE TIED CARD OF 'invigilatorlaw22.InferJoins'. -/
def inferJoinsCard : Claim7 := { stood := { row := inferJoinsRow, standIns := [], harness := (true, "e719fc6713323a2e102ed7953e00243948e66f64b0dc16d0bce22a87586a5303"), looks := true }, kinds := [], alts := [], laidByText := true, laidKinds := [.data, .widerDeep, .widerDeep, .pinned], laidTests := true, laidLooks := .later }
def InferJoinsCardSaid : Prop := Claim7.holds Tryz.pinned (.plain (OpenSpec.ofChange inferJoinsSpec)) inferJoinsCard

/-- THE TIED CARD OF 'invigilatorlaw22.InferBehind'. -/
def inferBehindCard : Claim7 := { stood := { row := inferBehindRow, standIns := [], harness := (true, "e719fc6713323a2e102ed7953e00243948e66f64b0dc16d0bce22a87586a5303"), looks := true }, kinds := [], alts := [], laidByText := true, laidKinds := [.data, .widerDeep, .widerDeep, .pinned], laidTests := true, laidLooks := .later }
def InferBehindCardSaid : Prop := Claim7.holds Tryz.pinned (.plain (OpenSpec.ofChange inferBehindSpec)) inferBehindCard

/-- THE TIED CARD OF 'invigilatorlaw22.InferChecks'. -/
def inferChecksCard : Claim7 := { stood := { row := inferChecksRow, standIns := [], harness := (true, "e719fc6713323a2e102ed7953e00243948e66f64b0dc16d0bce22a87586a5303"), looks := true }, kinds := [], alts := [], laidByText := true, laidKinds := [.data, .widerDeep, .widerDeep, .pinned], laidTests := true, laidLooks := .later }
def InferChecksCardSaid : Prop := Claim7.holds Tryz.pinned (.plain (OpenSpec.ofChange inferChecksSpec)) inferChecksCard

/-- THE TIED CARD OF 'invigilatorlaw22.InferAsks'. -/
def inferAsksCard : Claim7 := { stood := { row := inferAsksRow, standIns := [], harness := (true, "e719fc6713323a2e102ed7953e00243948e66f64b0dc16d0bce22a87586a5303"), looks := true }, kinds := [], alts := [], laidByText := true, laidKinds := [.data, .widerDeep, .widerDeep, .pinned], laidTests := true, laidLooks := .later }
def InferAsksCardSaid : Prop := Claim7.holds Tryz.pinned (.plain (OpenSpec.ofChange inferAsksSpec)) inferAsksCard

/-- THE TIED CARD OF 'invigilatorlaw22.InferSites'. -/
def inferSitesCard : Claim7 := { stood := { row := inferSitesRow, standIns := [], harness := (true, "e719fc6713323a2e102ed7953e00243948e66f64b0dc16d0bce22a87586a5303"), looks := true }, kinds := [], alts := [], laidByText := true, laidKinds := [.data, .widerDeep, .widerDeep, .pinned], laidTests := true, laidLooks := .later }
def InferSitesCardSaid : Prop := Claim7.holds Tryz.pinned (.plain (OpenSpec.ofChange inferSitesSpec)) inferSitesCard

/-- THE TIED CARD OF 'invigilatorlaw22.InferGrow'. -/
def inferGrowCard : Claim7 := { stood := { row := inferGrowRow, standIns := [], harness := (true, "e719fc6713323a2e102ed7953e00243948e66f64b0dc16d0bce22a87586a5303"), looks := true }, kinds := [], alts := [], laidByText := true, laidKinds := [.data, .widerDeep, .widerDeep, .pinned], laidTests := true, laidLooks := .later }
def InferGrowCardSaid : Prop := Claim7.holds Tryz.pinned (.plain (OpenSpec.ofChange inferGrowSpec)) inferGrowCard

/-- THE SECOND FORM's CARD OF 'invigilatorlaw22.InferLooks'. -/
def inferLooksUptoCard : Claim7 := { stood := { row := inferLooksUptoRow, standIns := [], harness := (true, "e719fc6713323a2e102ed7953e00243948e66f64b0dc16d0bce22a87586a5303"), looks := true }, kinds := [], alts := [], laidByText := true, laidKinds := [.data, .widerDeep, .widerDeep, .pinned], laidTests := true, laidLooks := .later }
def InferLooksUptoCardSaid : Prop := Claim7.holds Tryz.pinned (.plain (OpenSpec.upto inferLooksSpec)) inferLooksUptoCard

/-- THE SECOND FORM's CARD OF 'invigilatorlaw22.InferJoins'. -/
def inferJoinsUptoCard : Claim7 := { stood := { row := inferJoinsUptoRow, standIns := [], harness := (true, "e719fc6713323a2e102ed7953e00243948e66f64b0dc16d0bce22a87586a5303"), looks := true }, kinds := [], alts := [], laidByText := true, laidKinds := [.data, .widerDeep, .widerDeep, .pinned], laidTests := true, laidLooks := .later }
def InferJoinsUptoCardSaid : Prop := Claim7.holds Tryz.pinned (.plain (OpenSpec.upto inferJoinsSpec)) inferJoinsUptoCard

/-- THE SECOND FORM's CARD OF 'invigilatorlaw22.InferBehind'. -/
def inferBehindUptoCard : Claim7 := { stood := { row := inferBehindUptoRow, standIns := [], harness := (true, "e719fc6713323a2e102ed7953e00243948e66f64b0dc16d0bce22a87586a5303"), looks := true }, kinds := [], alts := [], laidByText := true, laidKinds := [.data, .widerDeep, .widerDeep, .pinned], laidTests := true, laidLooks := .later }
def InferBehindUptoCardSaid : Prop := Claim7.holds Tryz.pinned (.plain (OpenSpec.upto inferBehindSpec)) inferBehindUptoCard

/-- THE SECOND FORM's CARD OF 'invigilatorlaw22.InferChecks'. -/
def inferChecksUptoCard : Claim7 := { stood := { row := inferChecksUptoRow, standIns := [], harness := (true, "e719fc6713323a2e102ed7953e00243948e66f64b0dc16d0bce22a87586a5303"), looks := true }, kinds := [], alts := [], laidByText := true, laidKinds := [.data, .widerDeep, .widerDeep, .pinned], laidTests := true, laidLooks := .later }
def InferChecksUptoCardSaid : Prop := Claim7.holds Tryz.pinned (.plain (OpenSpec.upto inferChecksSpec)) inferChecksUptoCard

/-- THE SECOND FORM's CARD OF 'invigilatorlaw22.InferAsks'. -/
def inferAsksUptoCard : Claim7 := { stood := { row := inferAsksUptoRow, standIns := [], harness := (true, "e719fc6713323a2e102ed7953e00243948e66f64b0dc16d0bce22a87586a5303"), looks := true }, kinds := [], alts := [], laidByText := true, laidKinds := [.data, .widerDeep, .widerDeep, .pinned], laidTests := true, laidLooks := .later }
def InferAsksUptoCardSaid : Prop := Claim7.holds Tryz.pinned (.plain (OpenSpec.upto inferAsksSpec)) inferAsksUptoCard

/-- THE SECOND FORM's CARD OF 'invigilatorlaw22.InferSites'. -/
def inferSitesUptoCard : Claim7 := { stood := { row := inferSitesUptoRow, standIns := [], harness := (true, "e719fc6713323a2e102ed7953e00243948e66f64b0dc16d0bce22a87586a5303"), looks := true }, kinds := [], alts := [], laidByText := true, laidKinds := [.data, .widerDeep, .widerDeep, .pinned], laidTests := true, laidLooks := .later }
def InferSitesUptoCardSaid : Prop := Claim7.holds Tryz.pinned (.plain (OpenSpec.upto inferSitesSpec)) inferSitesUptoCard

/-- THE SECOND FORM's CARD OF 'invigilatorlaw22.InferGrow'. -/
def inferGrowUptoCard : Claim7 := { stood := { row := inferGrowUptoRow, standIns := [], harness := (true, "e719fc6713323a2e102ed7953e00243948e66f64b0dc16d0bce22a87586a5303"), looks := true }, kinds := [], alts := [], laidByText := true, laidKinds := [.data, .widerDeep, .widerDeep, .pinned], laidTests := true, laidLooks := .later }
def InferGrowUptoCardSaid : Prop := Claim7.holds Tryz.pinned (.plain (OpenSpec.upto inferGrowSpec)) inferGrowUptoCard
end Rows
end Go.Proofs.YtnpoohbeicakkaaGreatDoor
