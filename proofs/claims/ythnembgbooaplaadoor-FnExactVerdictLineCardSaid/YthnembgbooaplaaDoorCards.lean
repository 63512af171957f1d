/-
  DERIVED. GIVEN WITH THE SEED: THE CARDS: each row of YthnembgbooaplaaDoorRows.lean that lists a variable, with what it lists TIED to the program's text (the seventh form; the later family's looks); each row that meets fmt, with fmt's text TOLD by the authors' own Lean function (tested against real Go, not proved from fmt's source: count such statements apart). THE CARD IS WHAT COUNTS. Prove the row's statement (the work); the ties are given (YthnembgbooaplaaDoorTie.lean); close each card by the builder's one call (the guide's Derived/Test/ToyasCard.lean, 'card_holds'). Laid BY PROGRAM, IN A SANDBOX (cutbox-door.mjs). By AI agents, Wed Nov 11 2026. No macro, syntax, notation, axiom, sorry.
-/
import Derived.Test.YthnembgbooaplaaDoorRows
import GoSem.ClaimSeven
namespace Go.Proofs.YthnembgbooaplaaDoor
namespace Rows

/-- THE TIED CARD OF 'laws.FnExactFirstChange'. -/
def fnExactFirstChangeCard : Claim7 := { stood := { row := fnExactFirstChangeRow, standIns := [], harness := (true, "6ea81c7f6412211a9cde187ddac16eb20a6bc9783d50467b731864b060911ab7"), looks := true }, kinds := [], alts := [], laidByText := true, laidKinds := [.data, .pinned], laidTests := true, laidLooks := .later }
def FnExactFirstChangeCardSaid : Prop := Claim7.holds Tryd.pinned (.plain (OpenSpec.ofChange fnExactFirstChangeSpec)) fnExactFirstChangeCard

/-- THE TIED CARD OF 'laws.FnExactReported'. -/
def fnExactReportedCard : Claim7 := { stood := { row := fnExactReportedRow, standIns := [], harness := (true, "6ea81c7f6412211a9cde187ddac16eb20a6bc9783d50467b731864b060911ab7"), looks := true }, kinds := [], alts := [], laidByText := true, laidKinds := [.data, .pinned], laidTests := true, laidLooks := .later }
def FnExactReportedCardSaid : Prop := Claim7.holds Tryd.pinned (.plain (OpenSpec.ofChange fnExactReportedSpec)) fnExactReportedCard

/-- THE TIED CARD OF 'laws.FnExactFuelIn'. -/
def fnExactFuelInCard : Claim7 := { stood := { row := fnExactFuelInRow, standIns := [], harness := (true, "6ea81c7f6412211a9cde187ddac16eb20a6bc9783d50467b731864b060911ab7"), looks := true }, kinds := [], alts := [], laidByText := true, laidKinds := [.data, .data, .data, .sentinel, .sentinel], laidTests := true, laidLooks := .later }
def FnExactFuelInCardSaid : Prop := Claim7.holds Tryd.pinned (.plain (OpenSpec.ofChange fnExactFuelInSpec)) fnExactFuelInCard

/-- THE TIED CARD OF 'laws.FnExactVerdictLine'. -/
def fnExactVerdictLineCard : Claim7 := { stood := { row := fnExactVerdictLineRow, standIns := [], harness := (true, "6ea81c7f6412211a9cde187ddac16eb20a6bc9783d50467b731864b060911ab7"), looks := true }, kinds := [], alts := [], laidByText := true, laidKinds := [.data, .data, .data, .data, .pinned], laidTests := true, laidLooks := .later }
def FnExactVerdictLineCardSaid : Prop := Claim7.holds Tryd.pinned (.plain (OpenSpec.ofChange fnExactVerdictLineSpec)) fnExactVerdictLineCard

/-- THE TIED CARD OF 'laws.FnChanges'. -/
def fnChangesCard : Claim7 := { stood := { row := fnChangesRow, standIns := [], harness := (true, "6ea81c7f6412211a9cde187ddac16eb20a6bc9783d50467b731864b060911ab7"), looks := true }, kinds := [], alts := [], laidByText := true, laidKinds := [.data, .pinned], laidTests := true, laidLooks := .later }
def FnChangesCardSaid : Prop := Claim7.holds Tryd.pinned (.plain (OpenSpec.ofChange fnChangesSpec)) fnChangesCard

/-- THE SECOND FORM's CARD OF 'laws.FnExactFirstChange'. -/
def fnExactFirstChangeUptoCard : Claim7 := { stood := { row := fnExactFirstChangeUptoRow, standIns := [], harness := (true, "6ea81c7f6412211a9cde187ddac16eb20a6bc9783d50467b731864b060911ab7"), looks := true }, kinds := [], alts := [], laidByText := true, laidKinds := [.data, .pinned], laidTests := true, laidLooks := .later }
def FnExactFirstChangeUptoCardSaid : Prop := Claim7.holds Tryd.pinned (.plain (OpenSpec.upto fnExactFirstChangeSpec)) fnExactFirstChangeUptoCard

/-- THE SECOND FORM's CARD OF 'laws.FnExactReported'. -/
def fnExactReportedUptoCard : Claim7 := { stood := { row := fnExactReportedUptoRow, standIns := [], harness := (true, "6ea81c7f6412211a9cde187ddac16eb20a6bc9783d50467b731864b060911ab7"), looks := true }, kinds := [], alts := [], laidByText := true, laidKinds := [.data, .pinned], laidTests := true, laidLooks := .later }
def FnExactReportedUptoCardSaid : Prop := Claim7.holds Tryd.pinned (.plain (OpenSpec.upto fnExactReportedSpec)) fnExactReportedUptoCard

/-- THE SECOND FORM's CARD OF 'laws.FnExactFuelIn'. -/
def fnExactFuelInUptoCard : Claim7 := { stood := { row := fnExactFuelInUptoRow, standIns := [], harness := (true, "6ea81c7f6412211a9cde187ddac16eb20a6bc9783d50467b731864b060911ab7"), looks := true }, kinds := [], alts := [], laidByText := true, laidKinds := [.data, .data, .data, .sentinel, .sentinel], laidTests := true, laidLooks := .later }
def FnExactFuelInUptoCardSaid : Prop := Claim7.holds Tryd.pinned (.plain (OpenSpec.upto fnExactFuelInSpec)) fnExactFuelInUptoCard

/-- THE SECOND FORM's CARD OF 'laws.FnExactVerdictLine'. -/
def fnExactVerdictLineUptoCard : Claim7 := { stood := { row := fnExactVerdictLineUptoRow, standIns := [], harness := (true, "6ea81c7f6412211a9cde187ddac16eb20a6bc9783d50467b731864b060911ab7"), looks := true }, kinds := [], alts := [], laidByText := true, laidKinds := [.data, .data, .data, .data, .pinned], laidTests := true, laidLooks := .later }
def FnExactVerdictLineUptoCardSaid : Prop := Claim7.holds Tryd.pinned (.plain (OpenSpec.upto fnExactVerdictLineSpec)) fnExactVerdictLineUptoCard

/-- THE SECOND FORM's CARD OF 'laws.FnChanges'. -/
def fnChangesUptoCard : Claim7 := { stood := { row := fnChangesUptoRow, standIns := [], harness := (true, "6ea81c7f6412211a9cde187ddac16eb20a6bc9783d50467b731864b060911ab7"), looks := true }, kinds := [], alts := [], laidByText := true, laidKinds := [.data, .pinned], laidTests := true, laidLooks := .later }
def FnChangesUptoCardSaid : Prop := Claim7.holds Tryd.pinned (.plain (OpenSpec.upto fnChangesSpec)) fnChangesUptoCard
end Rows
end Go.Proofs.YthnembgbooaplaaDoor
