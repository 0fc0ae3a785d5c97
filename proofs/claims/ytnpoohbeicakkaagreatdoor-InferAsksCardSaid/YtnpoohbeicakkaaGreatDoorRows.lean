/-
  NARROWER THAN 'FOR EVERY INPUT', by the rows' own cells (each row's printed sentence says how): InferLooks: laid · InferJoins: laid · InferBehind: laid · InferChecks: laid · InferAsks: laid · InferSites: laid · InferGrow: laid.
  DERIVED. THE GIVEN ROWS OF THIS SEAT. 7 by the template 'for every input the law returns true; each argument reads behind the call as it read before'; 0 by the template 'total and deterministic' (their statements: YtnpoohbeicakkaaGreatDoorTotals.lean).
  GIVEN WITH THE SEED: the statements are not yours to turn. If you find one false, say at which input.
  Laid BY PROGRAM, IN A SANDBOX (cutbox-rows.mjs): the forced cells as the released guide's own fill.sh prints them over the translation a5aa04dd0b7c40be… (all of the seat's roots in one cut). By AI agents, Wed Nov 11 2026. No macro, syntax, notation, axiom, sorry.
-/
import Derived.Test.YtnpoohbeicakkaaGreatDoorChecked
import GoSem.PinnedTables
import GoSem.Claim
import GoSem.ClaimJoined
import GoSem.ClaimMapViews
import Derived.JoinedTies
import Derived.KernelRfl
namespace Go.Proofs.YtnpoohbeicakkaaGreatDoor
/- THE CELL 'sum', in the pinned program and in every row, IS THE sha256 OF THE DUMP (.gsa) THAT YtnpoohbeicakkaaGreatDoorProg.lean LOADS. Nothing in Lean hashes anything: it is a label: what it is worth is what the hold of that sum in a sandbox is worth. -/
noncomputable def Tryz.pinned : Pinned := { name := "ytnpoohbeicakkaagreatdoor", sum := "a5aa04dd0b7c40befccca94be7c334126a422bb671be4f8f0ff35664356263c0", checked := Tryz.checked }
namespace Rows
def none {H : Type} : Left H := { results := [], args := [] }

/- WHAT THE LISTED PACKAGE-LEVEL VARIABLES READ AS WHEN THE CALL BEGINS. Each datum BY PROGRAM (the guide's laid-datum.mjs) off the statement by which the dump's own 'gosem.cut.vars' lays the variable. In a bare row this is a premise. The card (YtnpoohbeicakkaaGreatDoorCards.lean) ties it to the program's text. -/
def laid_unicode_utf8_acceptRanges {H : Type} : DataW H := .agg [.agg [.lit (.int .u8 128), .lit (.int .u8 191)], .agg [.lit (.int .u8 160), .lit (.int .u8 191)], .agg [.lit (.int .u8 128), .lit (.int .u8 159)], .agg [.lit (.int .u8 144), .lit (.int .u8 191)], .agg [.lit (.int .u8 128), .lit (.int .u8 143)], .agg [.lit (.int .u8 0), .lit (.int .u8 0)], .agg [.lit (.int .u8 0), .lit (.int .u8 0)], .agg [.lit (.int .u8 0), .lit (.int .u8 0)], .agg [.lit (.int .u8 0), .lit (.int .u8 0)], .agg [.lit (.int .u8 0), .lit (.int .u8 0)], .agg [.lit (.int .u8 0), .lit (.int .u8 0)], .agg [.lit (.int .u8 0), .lit (.int .u8 0)], .agg [.lit (.int .u8 0), .lit (.int .u8 0)], .agg [.lit (.int .u8 0), .lit (.int .u8 0)], .agg [.lit (.int .u8 0), .lit (.int .u8 0)], .agg [.lit (.int .u8 0), .lit (.int .u8 0)]]
def laid_invigilator_prims_numbers {H : Type} : DataW H := .slice [.lit (.string [105, 110, 105, 110]), .lit (.string [105, 48, 105, 110, 105, 110]), .lit (.string [105, 110, 105, 48, 105, 110]), .lit (.string [105, 110, 105, 110, 105, 110])] []
def laid_invigilator_prims_alike {H : Type} : DataW H := .slice [.lit (.string [107, 48, 107, 110, 105, 110]), .lit (.string [107, 110, 107, 48, 105, 110]), .lit (.string [107, 110, 107, 110, 105, 110])] []
/-- One of Go's own tables, pinned by name: the form's constant. -/
def laid_unicode_utf8_first : DataW Unit := Go.Pinned.utf8First

/-- 'invigilatorlaw22.InferLooks': WHATEVER THE INPUT: true; the input reads as it did. -/
def inferLooksSpec : ChangeSpec := { name := "inferLooks", fn := fun _ => fun
  | [d1, d2, d3] => { results := [.lit (.bool true)], args := [d1, d2, d3] }
  | _ => none }
def inferLooksRow : OpenClaim := { program := "ytnpoohbeicakkaagreatdoor", sum := "a5aa04dd0b7c40befccca94be7c334126a422bb671be4f8f0ff35664356263c0", func := "invigilator/invigilatorlaw22.InferLooks", spec := "inferLooks", inPlace := ["internal/bytealg.IndexByteString", "internal/bytealg.IndexString"], unfollowed := true, recurses := true, named := ["unicode/utf8.first", "unicode/utf8.acceptRanges", "invigilator/prims.numbers", "invigilator/prims.alike", "internal/bytealg.MaxLen"], apart := false, laid := [("unicode/utf8.acceptRanges", laid_unicode_utf8_acceptRanges), ("invigilator/prims.numbers", laid_invigilator_prims_numbers), ("invigilator/prims.alike", laid_invigilator_prims_alike), ("unicode/utf8.first", laid_unicode_utf8_first)] }
def InferLooksSaid : Prop := inferLooksRow.holds Tryz.pinned (OpenSpec.ofChange inferLooksSpec)

/-- ITS FALSE NEIGHBOUR: 'it returns false'. Refute it at one input. -/
def inferLooksWrong : ChangeSpec := { name := "inferLooks", fn := fun _ => fun
  | [d1, d2, d3] => { results := [.lit (.bool false)], args := [d1, d2, d3] }
  | _ => none }
def InferLooksWrongFalsely : Prop := inferLooksRow.holds Tryz.pinned (OpenSpec.ofChange inferLooksWrong)

/-- 'invigilatorlaw22.InferJoins': WHATEVER THE INPUT: true; the input reads as it did. -/
def inferJoinsSpec : ChangeSpec := { name := "inferJoins", fn := fun _ => fun
  | [d1, d2, d3] => { results := [.lit (.bool true)], args := [d1, d2, d3] }
  | _ => none }
def inferJoinsRow : OpenClaim := { program := "ytnpoohbeicakkaagreatdoor", sum := "a5aa04dd0b7c40befccca94be7c334126a422bb671be4f8f0ff35664356263c0", func := "invigilator/invigilatorlaw22.InferJoins", spec := "inferJoins", inPlace := ["internal/bytealg.IndexByteString", "internal/bytealg.IndexString"], unfollowed := true, recurses := true, named := ["unicode/utf8.first", "unicode/utf8.acceptRanges", "invigilator/prims.numbers", "invigilator/prims.alike", "internal/bytealg.MaxLen"], apart := false, laid := [("unicode/utf8.acceptRanges", laid_unicode_utf8_acceptRanges), ("invigilator/prims.numbers", laid_invigilator_prims_numbers), ("invigilator/prims.alike", laid_invigilator_prims_alike), ("unicode/utf8.first", laid_unicode_utf8_first)] }
def InferJoinsSaid : Prop := inferJoinsRow.holds Tryz.pinned (OpenSpec.ofChange inferJoinsSpec)

/-- ITS FALSE NEIGHBOUR: 'it returns false'. Refute it at one input. -/
def inferJoinsWrong : ChangeSpec := { name := "inferJoins", fn := fun _ => fun
  | [d1, d2, d3] => { results := [.lit (.bool false)], args := [d1, d2, d3] }
  | _ => none }
def InferJoinsWrongFalsely : Prop := inferJoinsRow.holds Tryz.pinned (OpenSpec.ofChange inferJoinsWrong)

/-- 'invigilatorlaw22.InferBehind': WHATEVER THE INPUT: true; the input reads as it did. -/
def inferBehindSpec : ChangeSpec := { name := "inferBehind", fn := fun _ => fun
  | [d1, d2, d3] => { results := [.lit (.bool true)], args := [d1, d2, d3] }
  | _ => none }
def inferBehindRow : OpenClaim := { program := "ytnpoohbeicakkaagreatdoor", sum := "a5aa04dd0b7c40befccca94be7c334126a422bb671be4f8f0ff35664356263c0", func := "invigilator/invigilatorlaw22.InferBehind", spec := "inferBehind", inPlace := ["internal/bytealg.IndexByteString", "internal/bytealg.IndexString"], unfollowed := true, recurses := true, named := ["unicode/utf8.first", "unicode/utf8.acceptRanges", "invigilator/prims.numbers", "invigilator/prims.alike", "internal/bytealg.MaxLen"], apart := false, laid := [("unicode/utf8.acceptRanges", laid_unicode_utf8_acceptRanges), ("invigilator/prims.numbers", laid_invigilator_prims_numbers), ("invigilator/prims.alike", laid_invigilator_prims_alike), ("unicode/utf8.first", laid_unicode_utf8_first)] }
def InferBehindSaid : Prop := inferBehindRow.holds Tryz.pinned (OpenSpec.ofChange inferBehindSpec)

/-- ITS FALSE NEIGHBOUR: 'it returns false'. Refute it at one input. -/
def inferBehindWrong : ChangeSpec := { name := "inferBehind", fn := fun _ => fun
  | [d1, d2, d3] => { results := [.lit (.bool false)], args := [d1, d2, d3] }
  | _ => none }
def InferBehindWrongFalsely : Prop := inferBehindRow.holds Tryz.pinned (OpenSpec.ofChange inferBehindWrong)

/-- 'invigilatorlaw22.InferChecks': WHATEVER THE INPUT: true; the input reads as it did. -/
def inferChecksSpec : ChangeSpec := { name := "inferChecks", fn := fun _ => fun
  | [d1, d2] => { results := [.lit (.bool true)], args := [d1, d2] }
  | _ => none }
def inferChecksRow : OpenClaim := { program := "ytnpoohbeicakkaagreatdoor", sum := "a5aa04dd0b7c40befccca94be7c334126a422bb671be4f8f0ff35664356263c0", func := "invigilator/invigilatorlaw22.InferChecks", spec := "inferChecks", inPlace := ["internal/bytealg.IndexByteString", "internal/bytealg.IndexString"], unfollowed := true, recurses := true, named := ["unicode/utf8.first", "unicode/utf8.acceptRanges", "invigilator/prims.numbers", "invigilator/prims.alike", "internal/bytealg.MaxLen"], apart := false, laid := [("unicode/utf8.acceptRanges", laid_unicode_utf8_acceptRanges), ("invigilator/prims.numbers", laid_invigilator_prims_numbers), ("invigilator/prims.alike", laid_invigilator_prims_alike), ("unicode/utf8.first", laid_unicode_utf8_first)] }
def InferChecksSaid : Prop := inferChecksRow.holds Tryz.pinned (OpenSpec.ofChange inferChecksSpec)

/-- ITS FALSE NEIGHBOUR: 'it returns false'. Refute it at one input. -/
def inferChecksWrong : ChangeSpec := { name := "inferChecks", fn := fun _ => fun
  | [d1, d2] => { results := [.lit (.bool false)], args := [d1, d2] }
  | _ => none }
def InferChecksWrongFalsely : Prop := inferChecksRow.holds Tryz.pinned (OpenSpec.ofChange inferChecksWrong)

/-- 'invigilatorlaw22.InferAsks': WHATEVER THE INPUT: true; the input reads as it did. -/
def inferAsksSpec : ChangeSpec := { name := "inferAsks", fn := fun _ => fun
  | [d1, d2, d3] => { results := [.lit (.bool true)], args := [d1, d2, d3] }
  | _ => none }
def inferAsksRow : OpenClaim := { program := "ytnpoohbeicakkaagreatdoor", sum := "a5aa04dd0b7c40befccca94be7c334126a422bb671be4f8f0ff35664356263c0", func := "invigilator/invigilatorlaw22.InferAsks", spec := "inferAsks", inPlace := ["internal/bytealg.IndexByteString", "internal/bytealg.IndexString"], unfollowed := true, recurses := true, named := ["unicode/utf8.first", "unicode/utf8.acceptRanges", "invigilator/prims.numbers", "invigilator/prims.alike", "internal/bytealg.MaxLen"], apart := false, laid := [("unicode/utf8.acceptRanges", laid_unicode_utf8_acceptRanges), ("invigilator/prims.numbers", laid_invigilator_prims_numbers), ("invigilator/prims.alike", laid_invigilator_prims_alike), ("unicode/utf8.first", laid_unicode_utf8_first)] }
def InferAsksSaid : Prop := inferAsksRow.holds Tryz.pinned (OpenSpec.ofChange inferAsksSpec)

/-- ITS FALSE NEIGHBOUR: 'it returns false'. Refute it at one input. -/
def inferAsksWrong : ChangeSpec := { name := "inferAsks", fn := fun _ => fun
  | [d1, d2, d3] => { results := [.lit (.bool false)], args := [d1, d2, d3] }
  | _ => none }
def InferAsksWrongFalsely : Prop := inferAsksRow.holds Tryz.pinned (OpenSpec.ofChange inferAsksWrong)

/-- 'invigilatorlaw22.InferSites': WHATEVER THE INPUT: true; the input reads as it did. -/
def inferSitesSpec : ChangeSpec := { name := "inferSites", fn := fun _ => fun
  | [d1, d2, d3] => { results := [.lit (.bool true)], args := [d1, d2, d3] }
  | _ => none }
def inferSitesRow : OpenClaim := { program := "ytnpoohbeicakkaagreatdoor", sum := "a5aa04dd0b7c40befccca94be7c334126a422bb671be4f8f0ff35664356263c0", func := "invigilator/invigilatorlaw22.InferSites", spec := "inferSites", inPlace := ["internal/bytealg.IndexByteString", "internal/bytealg.IndexString"], unfollowed := true, recurses := true, named := ["unicode/utf8.first", "unicode/utf8.acceptRanges", "invigilator/prims.numbers", "invigilator/prims.alike", "internal/bytealg.MaxLen"], apart := false, laid := [("unicode/utf8.acceptRanges", laid_unicode_utf8_acceptRanges), ("invigilator/prims.numbers", laid_invigilator_prims_numbers), ("invigilator/prims.alike", laid_invigilator_prims_alike), ("unicode/utf8.first", laid_unicode_utf8_first)] }
def InferSitesSaid : Prop := inferSitesRow.holds Tryz.pinned (OpenSpec.ofChange inferSitesSpec)

/-- ITS FALSE NEIGHBOUR: 'it returns false'. Refute it at one input. -/
def inferSitesWrong : ChangeSpec := { name := "inferSites", fn := fun _ => fun
  | [d1, d2, d3] => { results := [.lit (.bool false)], args := [d1, d2, d3] }
  | _ => none }
def InferSitesWrongFalsely : Prop := inferSitesRow.holds Tryz.pinned (OpenSpec.ofChange inferSitesWrong)

/-- 'invigilatorlaw22.InferGrow': WHATEVER THE INPUT: true; the input reads as it did. -/
def inferGrowSpec : ChangeSpec := { name := "inferGrow", fn := fun _ => fun
  | [d1, d2, d3] => { results := [.lit (.bool true)], args := [d1, d2, d3] }
  | _ => none }
def inferGrowRow : OpenClaim := { program := "ytnpoohbeicakkaagreatdoor", sum := "a5aa04dd0b7c40befccca94be7c334126a422bb671be4f8f0ff35664356263c0", func := "invigilator/invigilatorlaw22.InferGrow", spec := "inferGrow", inPlace := ["internal/bytealg.IndexByteString", "internal/bytealg.IndexString"], unfollowed := true, recurses := true, named := ["unicode/utf8.first", "unicode/utf8.acceptRanges", "invigilator/prims.numbers", "invigilator/prims.alike", "internal/bytealg.MaxLen"], apart := false, laid := [("unicode/utf8.acceptRanges", laid_unicode_utf8_acceptRanges), ("invigilator/prims.numbers", laid_invigilator_prims_numbers), ("invigilator/prims.alike", laid_invigilator_prims_alike), ("unicode/utf8.first", laid_unicode_utf8_first)] }
def InferGrowSaid : Prop := inferGrowRow.holds Tryz.pinned (OpenSpec.ofChange inferGrowSpec)

/-- ITS FALSE NEIGHBOUR: 'it returns false'. Refute it at one input. -/
def inferGrowWrong : ChangeSpec := { name := "inferGrow", fn := fun _ => fun
  | [d1, d2, d3] => { results := [.lit (.bool false)], args := [d1, d2, d3] }
  | _ => none }
def InferGrowWrongFalsely : Prop := inferGrowRow.holds Tryz.pinned (OpenSpec.ofChange inferGrowWrong)

/- THE SECOND FORM. 'bulk': how many values and letters a reading holds, each counted each time it is reached (what is shared counts as often as it is met; a slice's spare places count too). A statement '..UptoSaid' is the law's where the arguments, and the package variables that the reading takes, are together of bulk at most 1048576: NARROWER than '..Said'. Prove '..Said' where nothing that the law and all that it calls make is longer than what came in: it says more and counts as full. Else prove '..UptoSaid'. A law counts once. -/
mutual
def uptoBulk {H : Type} : DataW H → Nat
  | .lit (.string bytes) => bytes.length + 1
  | .lit _ => 1
  | .nil => 1
  | .ptr d => uptoBulk d + 1
  | .slice elems spare => uptoBulkAll elems + uptoBulkAll spare + 1
  | .agg parts => uptoBulkAll parts + 1
  | .iface _ d => uptoBulk d + 1
  | .map entries => uptoBulkEntries entries + 1
  | .held _ => 1
def uptoBulkAll {H : Type} : List (DataW H) → Nat
  | [] => 0
  | d :: r => uptoBulk d + uptoBulkAll r
def uptoBulkEntries {H : Type} : List (Lit × DataW H) → Nat
  | [] => 0
  | x :: r => uptoBulkEntry x + uptoBulkEntries r
def uptoBulkEntry {H : Type} : Lit × DataW H → Nat
  | (.string bytes, d) => bytes.length + uptoBulk d + 1
  | (_, d) => uptoBulk d + 1
 end
def uptoSmall : (H : Type) → List (DataW H) → Bool := fun _ ds => decide (uptoBulkAll ds ≤ 1048576)
def OpenSpec.upto (s : _root_.Go.ChangeSpec) : _root_.Go.OpenSpec := { _root_.Go.OpenSpec.ofChange s with cond := some uptoSmall }

/-- 'invigilatorlaw22.InferLooks', WHERE WHAT IT READS IS OF BULK AT MOST 1048576: true; the input reads as it did. -/
def inferLooksUptoRow : OpenClaim := { program := "ytnpoohbeicakkaagreatdoor", sum := "a5aa04dd0b7c40befccca94be7c334126a422bb671be4f8f0ff35664356263c0", func := "invigilator/invigilatorlaw22.InferLooks", spec := "inferLooks", inPlace := ["internal/bytealg.IndexByteString", "internal/bytealg.IndexString"], unfollowed := true, recurses := true, named := ["unicode/utf8.first", "unicode/utf8.acceptRanges", "invigilator/prims.numbers", "invigilator/prims.alike", "internal/bytealg.MaxLen"], apart := false, laid := [("unicode/utf8.acceptRanges", laid_unicode_utf8_acceptRanges), ("invigilator/prims.numbers", laid_invigilator_prims_numbers), ("invigilator/prims.alike", laid_invigilator_prims_alike), ("unicode/utf8.first", laid_unicode_utf8_first)], narrowed := true }
def InferLooksUptoSaid : Prop := inferLooksUptoRow.holds Tryz.pinned (OpenSpec.upto inferLooksSpec)

/-- 'invigilatorlaw22.InferJoins', WHERE WHAT IT READS IS OF BULK AT MOST 1048576: true; the input reads as it did. -/
def inferJoinsUptoRow : OpenClaim := { program := "ytnpoohbeicakkaagreatdoor", sum := "a5aa04dd0b7c40befccca94be7c334126a422bb671be4f8f0ff35664356263c0", func := "invigilator/invigilatorlaw22.InferJoins", spec := "inferJoins", inPlace := ["internal/bytealg.IndexByteString", "internal/bytealg.IndexString"], unfollowed := true, recurses := true, named := ["unicode/utf8.first", "unicode/utf8.acceptRanges", "invigilator/prims.numbers", "invigilator/prims.alike", "internal/bytealg.MaxLen"], apart := false, laid := [("unicode/utf8.acceptRanges", laid_unicode_utf8_acceptRanges), ("invigilator/prims.numbers", laid_invigilator_prims_numbers), ("invigilator/prims.alike", laid_invigilator_prims_alike), ("unicode/utf8.first", laid_unicode_utf8_first)], narrowed := true }
def InferJoinsUptoSaid : Prop := inferJoinsUptoRow.holds Tryz.pinned (OpenSpec.upto inferJoinsSpec)

/-- 'invigilatorlaw22.InferBehind', WHERE WHAT IT READS IS OF BULK AT MOST 1048576: true; the input reads as it did. -/
def inferBehindUptoRow : OpenClaim := { program := "ytnpoohbeicakkaagreatdoor", sum := "a5aa04dd0b7c40befccca94be7c334126a422bb671be4f8f0ff35664356263c0", func := "invigilator/invigilatorlaw22.InferBehind", spec := "inferBehind", inPlace := ["internal/bytealg.IndexByteString", "internal/bytealg.IndexString"], unfollowed := true, recurses := true, named := ["unicode/utf8.first", "unicode/utf8.acceptRanges", "invigilator/prims.numbers", "invigilator/prims.alike", "internal/bytealg.MaxLen"], apart := false, laid := [("unicode/utf8.acceptRanges", laid_unicode_utf8_acceptRanges), ("invigilator/prims.numbers", laid_invigilator_prims_numbers), ("invigilator/prims.alike", laid_invigilator_prims_alike), ("unicode/utf8.first", laid_unicode_utf8_first)], narrowed := true }
def InferBehindUptoSaid : Prop := inferBehindUptoRow.holds Tryz.pinned (OpenSpec.upto inferBehindSpec)

/-- 'invigilatorlaw22.InferChecks', WHERE WHAT IT READS IS OF BULK AT MOST 1048576: true; the input reads as it did. -/
def inferChecksUptoRow : OpenClaim := { program := "ytnpoohbeicakkaagreatdoor", sum := "a5aa04dd0b7c40befccca94be7c334126a422bb671be4f8f0ff35664356263c0", func := "invigilator/invigilatorlaw22.InferChecks", spec := "inferChecks", inPlace := ["internal/bytealg.IndexByteString", "internal/bytealg.IndexString"], unfollowed := true, recurses := true, named := ["unicode/utf8.first", "unicode/utf8.acceptRanges", "invigilator/prims.numbers", "invigilator/prims.alike", "internal/bytealg.MaxLen"], apart := false, laid := [("unicode/utf8.acceptRanges", laid_unicode_utf8_acceptRanges), ("invigilator/prims.numbers", laid_invigilator_prims_numbers), ("invigilator/prims.alike", laid_invigilator_prims_alike), ("unicode/utf8.first", laid_unicode_utf8_first)], narrowed := true }
def InferChecksUptoSaid : Prop := inferChecksUptoRow.holds Tryz.pinned (OpenSpec.upto inferChecksSpec)

/-- 'invigilatorlaw22.InferAsks', WHERE WHAT IT READS IS OF BULK AT MOST 1048576: true; the input reads as it did. -/
def inferAsksUptoRow : OpenClaim := { program := "ytnpoohbeicakkaagreatdoor", sum := "a5aa04dd0b7c40befccca94be7c334126a422bb671be4f8f0ff35664356263c0", func := "invigilator/invigilatorlaw22.InferAsks", spec := "inferAsks", inPlace := ["internal/bytealg.IndexByteString", "internal/bytealg.IndexString"], unfollowed := true, recurses := true, named := ["unicode/utf8.first", "unicode/utf8.acceptRanges", "invigilator/prims.numbers", "invigilator/prims.alike", "internal/bytealg.MaxLen"], apart := false, laid := [("unicode/utf8.acceptRanges", laid_unicode_utf8_acceptRanges), ("invigilator/prims.numbers", laid_invigilator_prims_numbers), ("invigilator/prims.alike", laid_invigilator_prims_alike), ("unicode/utf8.first", laid_unicode_utf8_first)], narrowed := true }
def InferAsksUptoSaid : Prop := inferAsksUptoRow.holds Tryz.pinned (OpenSpec.upto inferAsksSpec)

/-- 'invigilatorlaw22.InferSites', WHERE WHAT IT READS IS OF BULK AT MOST 1048576: true; the input reads as it did. -/
def inferSitesUptoRow : OpenClaim := { program := "ytnpoohbeicakkaagreatdoor", sum := "a5aa04dd0b7c40befccca94be7c334126a422bb671be4f8f0ff35664356263c0", func := "invigilator/invigilatorlaw22.InferSites", spec := "inferSites", inPlace := ["internal/bytealg.IndexByteString", "internal/bytealg.IndexString"], unfollowed := true, recurses := true, named := ["unicode/utf8.first", "unicode/utf8.acceptRanges", "invigilator/prims.numbers", "invigilator/prims.alike", "internal/bytealg.MaxLen"], apart := false, laid := [("unicode/utf8.acceptRanges", laid_unicode_utf8_acceptRanges), ("invigilator/prims.numbers", laid_invigilator_prims_numbers), ("invigilator/prims.alike", laid_invigilator_prims_alike), ("unicode/utf8.first", laid_unicode_utf8_first)], narrowed := true }
def InferSitesUptoSaid : Prop := inferSitesUptoRow.holds Tryz.pinned (OpenSpec.upto inferSitesSpec)

/-- 'invigilatorlaw22.InferGrow', WHERE WHAT IT READS IS OF BULK AT MOST 1048576: true; the input reads as it did. -/
def inferGrowUptoRow : OpenClaim := { program := "ytnpoohbeicakkaagreatdoor", sum := "a5aa04dd0b7c40befccca94be7c334126a422bb671be4f8f0ff35664356263c0", func := "invigilator/invigilatorlaw22.InferGrow", spec := "inferGrow", inPlace := ["internal/bytealg.IndexByteString", "internal/bytealg.IndexString"], unfollowed := true, recurses := true, named := ["unicode/utf8.first", "unicode/utf8.acceptRanges", "invigilator/prims.numbers", "invigilator/prims.alike", "internal/bytealg.MaxLen"], apart := false, laid := [("unicode/utf8.acceptRanges", laid_unicode_utf8_acceptRanges), ("invigilator/prims.numbers", laid_invigilator_prims_numbers), ("invigilator/prims.alike", laid_invigilator_prims_alike), ("unicode/utf8.first", laid_unicode_utf8_first)], narrowed := true }
def InferGrowUptoSaid : Prop := inferGrowUptoRow.holds Tryz.pinned (OpenSpec.upto inferGrowSpec)

end Rows
end Go.Proofs.YtnpoohbeicakkaaGreatDoor
