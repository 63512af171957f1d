/-
  DERIVED. GIVEN WITH THE SEED: THE CARDS: each row of YtefiapcfdabfpaaDoorRows.lean that lists a variable, with what it lists TIED to the program's text (the seventh form; the later family's looks); each row that meets fmt, with fmt's text TOLD by the authors' own Lean function (tested against real Go, not proved from fmt's source: count such statements apart). THE CARD IS WHAT COUNTS. Prove the row's statement (the work); the ties are given (YtefiapcfdabfpaaDoorTie.lean); close each card by the builder's one call (the guide's Derived/Test/ToyasCard.lean, 'card_holds'). Laid BY PROGRAM, IN A SANDBOX (cutbox-door.mjs). By AI agents, Wed Nov 11 2026. No macro, syntax, notation, axiom, sorry.
-/
import Derived.Test.YtefiapcfdabfpaaDoorRows
import GoSem.ClaimSeven
namespace Go.Proofs.YtefiapcfdabfpaaDoor
namespace Rows

/-- THE TIED CARD OF 'laws.FnExactTermOk'. -/
def fnExactTermOkCard : Claim7 := { stood := { row := fnExactTermOkRow, standIns := [], harness := (true, "297631d8dead1c04a6edc8b3a8afb5f08cb01dbc377d63fc3ce3fc1c49af5030"), looks := true }, kinds := [], alts := [], laidByText := true, laidKinds := [.data, .data, .data, .data, .sentinel, .sentinel, .pinned], laidTests := true, laidLooks := .later }
def FnExactTermOkCardSaid : Prop := Claim7.holds Tryd.pinned (.plain (OpenSpec.ofChange fnExactTermOkSpec)) fnExactTermOkCard

/-- THE TIED CARD OF 'laws.FnExactTermSize'. -/
def fnExactTermSizeCard : Claim7 := { stood := { row := fnExactTermSizeRow, standIns := [], harness := (true, "297631d8dead1c04a6edc8b3a8afb5f08cb01dbc377d63fc3ce3fc1c49af5030"), looks := true }, kinds := [], alts := [], laidByText := true, laidKinds := [.data, .data, .data, .data, .sentinel, .sentinel, .pinned], laidTests := true, laidLooks := .later }
def FnExactTermSizeCardSaid : Prop := Claim7.holds Tryd.pinned (.plain (OpenSpec.ofChange fnExactTermSizeSpec)) fnExactTermSizeCard

/-- THE TIED CARD OF 'laws.FnExactTermKind'. -/
def fnExactTermKindCard : Claim7 := { stood := { row := fnExactTermKindRow, standIns := [], harness := (true, "297631d8dead1c04a6edc8b3a8afb5f08cb01dbc377d63fc3ce3fc1c49af5030"), looks := true }, kinds := [], alts := [], laidByText := true, laidKinds := [.data, .data, .data, .data, .sentinel, .sentinel, .pinned], laidTests := true, laidLooks := .later }
def FnExactTermKindCardSaid : Prop := Claim7.holds Tryd.pinned (.plain (OpenSpec.ofChange fnExactTermKindSpec)) fnExactTermKindCard

/-- THE TIED CARD OF 'laws.FnExactParamsIn'. -/
def fnExactParamsInCard : Claim7 := { stood := { row := fnExactParamsInRow, standIns := [], harness := (true, "297631d8dead1c04a6edc8b3a8afb5f08cb01dbc377d63fc3ce3fc1c49af5030"), looks := true }, kinds := [], alts := [], laidByText := true, laidKinds := [.data, .data, .data, .data, .sentinel, .sentinel, .pinned], laidTests := true, laidLooks := .later }
def FnExactParamsInCardSaid : Prop := Claim7.holds Tryd.pinned (.plain (OpenSpec.ofChange fnExactParamsInSpec)) fnExactParamsInCard

/-- THE TIED CARD OF 'laws.FnExactConstIn'. -/
def fnExactConstInCard : Claim7 := { stood := { row := fnExactConstInRow, standIns := [], harness := (true, "297631d8dead1c04a6edc8b3a8afb5f08cb01dbc377d63fc3ce3fc1c49af5030"), looks := true }, kinds := [], alts := [], laidByText := true, laidKinds := [.data, .data, .data, .data, .sentinel, .sentinel, .pinned], laidTests := true, laidLooks := .later }
def FnExactConstInCardSaid : Prop := Claim7.holds Tryd.pinned (.plain (OpenSpec.ofChange fnExactConstInSpec)) fnExactConstInCard

/-- THE TIED CARD OF 'laws.FnExactTermOpen'. -/
def fnExactTermOpenCard : Claim7 := { stood := { row := fnExactTermOpenRow, standIns := [], harness := (true, "297631d8dead1c04a6edc8b3a8afb5f08cb01dbc377d63fc3ce3fc1c49af5030"), looks := true }, kinds := [], alts := [], laidByText := true, laidKinds := [.data, .data, .data, .data, .sentinel, .sentinel, .pinned], laidTests := true, laidLooks := .later }
def FnExactTermOpenCardSaid : Prop := Claim7.holds Tryd.pinned (.plain (OpenSpec.ofChange fnExactTermOpenSpec)) fnExactTermOpenCard

/-- THE TIED CARD OF 'laws.FnExactHasName'. -/
def fnExactHasNameCard : Claim7 := { stood := { row := fnExactHasNameRow, standIns := [], harness := (true, "297631d8dead1c04a6edc8b3a8afb5f08cb01dbc377d63fc3ce3fc1c49af5030"), looks := true }, kinds := [], alts := [], laidByText := true, laidKinds := [.data, .data, .data, .data, .sentinel, .sentinel, .pinned], laidTests := true, laidLooks := .later }
def FnExactHasNameCardSaid : Prop := Claim7.holds Tryd.pinned (.plain (OpenSpec.ofChange fnExactHasNameSpec)) fnExactHasNameCard

/-- THE TIED CARD OF 'laws.FnExactTarget'. -/
def fnExactTargetCard : Claim7 := { stood := { row := fnExactTargetRow, standIns := [], harness := (true, "297631d8dead1c04a6edc8b3a8afb5f08cb01dbc377d63fc3ce3fc1c49af5030"), looks := true }, kinds := [], alts := [], laidByText := true, laidKinds := [.data, .data, .data, .data, .sentinel, .sentinel, .pinned], laidTests := true, laidLooks := .later }
def FnExactTargetCardSaid : Prop := Claim7.holds Tryd.pinned (.plain (OpenSpec.ofChange fnExactTargetSpec)) fnExactTargetCard

/-- THE TIED CARD OF 'laws.FnExactHeadOf'. -/
def fnExactHeadOfCard : Claim7 := { stood := { row := fnExactHeadOfRow, standIns := [], harness := (true, "297631d8dead1c04a6edc8b3a8afb5f08cb01dbc377d63fc3ce3fc1c49af5030"), looks := true }, kinds := [], alts := [], laidByText := true, laidKinds := [.data, .data, .data, .data, .sentinel, .sentinel, .pinned], laidTests := true, laidLooks := .later }
def FnExactHeadOfCardSaid : Prop := Claim7.holds Tryd.pinned (.plain (OpenSpec.ofChange fnExactHeadOfSpec)) fnExactHeadOfCard

/-- THE TIED CARD OF 'laws.FnExactArrows'. -/
def fnExactArrowsCard : Claim7 := { stood := { row := fnExactArrowsRow, standIns := [], harness := (true, "297631d8dead1c04a6edc8b3a8afb5f08cb01dbc377d63fc3ce3fc1c49af5030"), looks := true }, kinds := [], alts := [], laidByText := true, laidKinds := [.data, .data, .data, .data, .sentinel, .sentinel, .pinned], laidTests := true, laidLooks := .later }
def FnExactArrowsCardSaid : Prop := Claim7.holds Tryd.pinned (.plain (OpenSpec.ofChange fnExactArrowsSpec)) fnExactArrowsCard

/-- THE TIED CARD OF 'laws.FnExactTermParts'. -/
def fnExactTermPartsCard : Claim7 := { stood := { row := fnExactTermPartsRow, standIns := [], harness := (true, "297631d8dead1c04a6edc8b3a8afb5f08cb01dbc377d63fc3ce3fc1c49af5030"), looks := true }, kinds := [], alts := [], laidByText := true, laidKinds := [.data, .data, .data, .data, .sentinel, .sentinel, .pinned], laidTests := true, laidLooks := .later }
def FnExactTermPartsCardSaid : Prop := Claim7.holds Tryd.pinned (.plain (OpenSpec.ofChange fnExactTermPartsSpec)) fnExactTermPartsCard

/-- THE TIED CARD OF 'laws.FnExactDomains'. -/
def fnExactDomainsCard : Claim7 := { stood := { row := fnExactDomainsRow, standIns := [], harness := (true, "297631d8dead1c04a6edc8b3a8afb5f08cb01dbc377d63fc3ce3fc1c49af5030"), looks := true }, kinds := [], alts := [], laidByText := true, laidKinds := [.data, .data, .data, .data, .sentinel, .sentinel, .pinned], laidTests := true, laidLooks := .later }
def FnExactDomainsCardSaid : Prop := Claim7.holds Tryd.pinned (.plain (OpenSpec.ofChange fnExactDomainsSpec)) fnExactDomainsCard

/-- THE SECOND FORM's CARD OF 'laws.FnExactTermOk'. -/
def fnExactTermOkUptoCard : Claim7 := { stood := { row := fnExactTermOkUptoRow, standIns := [], harness := (true, "297631d8dead1c04a6edc8b3a8afb5f08cb01dbc377d63fc3ce3fc1c49af5030"), looks := true }, kinds := [], alts := [], laidByText := true, laidKinds := [.data, .data, .data, .data, .sentinel, .sentinel, .pinned], laidTests := true, laidLooks := .later }
def FnExactTermOkUptoCardSaid : Prop := Claim7.holds Tryd.pinned (.plain (OpenSpec.upto fnExactTermOkSpec)) fnExactTermOkUptoCard

/-- THE SECOND FORM's CARD OF 'laws.FnExactTermSize'. -/
def fnExactTermSizeUptoCard : Claim7 := { stood := { row := fnExactTermSizeUptoRow, standIns := [], harness := (true, "297631d8dead1c04a6edc8b3a8afb5f08cb01dbc377d63fc3ce3fc1c49af5030"), looks := true }, kinds := [], alts := [], laidByText := true, laidKinds := [.data, .data, .data, .data, .sentinel, .sentinel, .pinned], laidTests := true, laidLooks := .later }
def FnExactTermSizeUptoCardSaid : Prop := Claim7.holds Tryd.pinned (.plain (OpenSpec.upto fnExactTermSizeSpec)) fnExactTermSizeUptoCard

/-- THE SECOND FORM's CARD OF 'laws.FnExactTermKind'. -/
def fnExactTermKindUptoCard : Claim7 := { stood := { row := fnExactTermKindUptoRow, standIns := [], harness := (true, "297631d8dead1c04a6edc8b3a8afb5f08cb01dbc377d63fc3ce3fc1c49af5030"), looks := true }, kinds := [], alts := [], laidByText := true, laidKinds := [.data, .data, .data, .data, .sentinel, .sentinel, .pinned], laidTests := true, laidLooks := .later }
def FnExactTermKindUptoCardSaid : Prop := Claim7.holds Tryd.pinned (.plain (OpenSpec.upto fnExactTermKindSpec)) fnExactTermKindUptoCard

/-- THE SECOND FORM's CARD OF 'laws.FnExactParamsIn'. -/
def fnExactParamsInUptoCard : Claim7 := { stood := { row := fnExactParamsInUptoRow, standIns := [], harness := (true, "297631d8dead1c04a6edc8b3a8afb5f08cb01dbc377d63fc3ce3fc1c49af5030"), looks := true }, kinds := [], alts := [], laidByText := true, laidKinds := [.data, .data, .data, .data, .sentinel, .sentinel, .pinned], laidTests := true, laidLooks := .later }
def FnExactParamsInUptoCardSaid : Prop := Claim7.holds Tryd.pinned (.plain (OpenSpec.upto fnExactParamsInSpec)) fnExactParamsInUptoCard

/-- THE SECOND FORM's CARD OF 'laws.FnExactConstIn'. -/
def fnExactConstInUptoCard : Claim7 := { stood := { row := fnExactConstInUptoRow, standIns := [], harness := (true, "297631d8dead1c04a6edc8b3a8afb5f08cb01dbc377d63fc3ce3fc1c49af5030"), looks := true }, kinds := [], alts := [], laidByText := true, laidKinds := [.data, .data, .data, .data, .sentinel, .sentinel, .pinned], laidTests := true, laidLooks := .later }
def FnExactConstInUptoCardSaid : Prop := Claim7.holds Tryd.pinned (.plain (OpenSpec.upto fnExactConstInSpec)) fnExactConstInUptoCard

/-- THE SECOND FORM's CARD OF 'laws.FnExactTermOpen'. -/
def fnExactTermOpenUptoCard : Claim7 := { stood := { row := fnExactTermOpenUptoRow, standIns := [], harness := (true, "297631d8dead1c04a6edc8b3a8afb5f08cb01dbc377d63fc3ce3fc1c49af5030"), looks := true }, kinds := [], alts := [], laidByText := true, laidKinds := [.data, .data, .data, .data, .sentinel, .sentinel, .pinned], laidTests := true, laidLooks := .later }
def FnExactTermOpenUptoCardSaid : Prop := Claim7.holds Tryd.pinned (.plain (OpenSpec.upto fnExactTermOpenSpec)) fnExactTermOpenUptoCard

/-- THE SECOND FORM's CARD OF 'laws.FnExactHasName'. -/
def fnExactHasNameUptoCard : Claim7 := { stood := { row := fnExactHasNameUptoRow, standIns := [], harness := (true, "297631d8dead1c04a6edc8b3a8afb5f08cb01dbc377d63fc3ce3fc1c49af5030"), looks := true }, kinds := [], alts := [], laidByText := true, laidKinds := [.data, .data, .data, .data, .sentinel, .sentinel, .pinned], laidTests := true, laidLooks := .later }
def FnExactHasNameUptoCardSaid : Prop := Claim7.holds Tryd.pinned (.plain (OpenSpec.upto fnExactHasNameSpec)) fnExactHasNameUptoCard

/-- THE SECOND FORM's CARD OF 'laws.FnExactTarget'. -/
def fnExactTargetUptoCard : Claim7 := { stood := { row := fnExactTargetUptoRow, standIns := [], harness := (true, "297631d8dead1c04a6edc8b3a8afb5f08cb01dbc377d63fc3ce3fc1c49af5030"), looks := true }, kinds := [], alts := [], laidByText := true, laidKinds := [.data, .data, .data, .data, .sentinel, .sentinel, .pinned], laidTests := true, laidLooks := .later }
def FnExactTargetUptoCardSaid : Prop := Claim7.holds Tryd.pinned (.plain (OpenSpec.upto fnExactTargetSpec)) fnExactTargetUptoCard

/-- THE SECOND FORM's CARD OF 'laws.FnExactHeadOf'. -/
def fnExactHeadOfUptoCard : Claim7 := { stood := { row := fnExactHeadOfUptoRow, standIns := [], harness := (true, "297631d8dead1c04a6edc8b3a8afb5f08cb01dbc377d63fc3ce3fc1c49af5030"), looks := true }, kinds := [], alts := [], laidByText := true, laidKinds := [.data, .data, .data, .data, .sentinel, .sentinel, .pinned], laidTests := true, laidLooks := .later }
def FnExactHeadOfUptoCardSaid : Prop := Claim7.holds Tryd.pinned (.plain (OpenSpec.upto fnExactHeadOfSpec)) fnExactHeadOfUptoCard

/-- THE SECOND FORM's CARD OF 'laws.FnExactArrows'. -/
def fnExactArrowsUptoCard : Claim7 := { stood := { row := fnExactArrowsUptoRow, standIns := [], harness := (true, "297631d8dead1c04a6edc8b3a8afb5f08cb01dbc377d63fc3ce3fc1c49af5030"), looks := true }, kinds := [], alts := [], laidByText := true, laidKinds := [.data, .data, .data, .data, .sentinel, .sentinel, .pinned], laidTests := true, laidLooks := .later }
def FnExactArrowsUptoCardSaid : Prop := Claim7.holds Tryd.pinned (.plain (OpenSpec.upto fnExactArrowsSpec)) fnExactArrowsUptoCard

/-- THE SECOND FORM's CARD OF 'laws.FnExactTermParts'. -/
def fnExactTermPartsUptoCard : Claim7 := { stood := { row := fnExactTermPartsUptoRow, standIns := [], harness := (true, "297631d8dead1c04a6edc8b3a8afb5f08cb01dbc377d63fc3ce3fc1c49af5030"), looks := true }, kinds := [], alts := [], laidByText := true, laidKinds := [.data, .data, .data, .data, .sentinel, .sentinel, .pinned], laidTests := true, laidLooks := .later }
def FnExactTermPartsUptoCardSaid : Prop := Claim7.holds Tryd.pinned (.plain (OpenSpec.upto fnExactTermPartsSpec)) fnExactTermPartsUptoCard

/-- THE SECOND FORM's CARD OF 'laws.FnExactDomains'. -/
def fnExactDomainsUptoCard : Claim7 := { stood := { row := fnExactDomainsUptoRow, standIns := [], harness := (true, "297631d8dead1c04a6edc8b3a8afb5f08cb01dbc377d63fc3ce3fc1c49af5030"), looks := true }, kinds := [], alts := [], laidByText := true, laidKinds := [.data, .data, .data, .data, .sentinel, .sentinel, .pinned], laidTests := true, laidLooks := .later }
def FnExactDomainsUptoCardSaid : Prop := Claim7.holds Tryd.pinned (.plain (OpenSpec.upto fnExactDomainsSpec)) fnExactDomainsUptoCard
end Rows
end Go.Proofs.YtefiapcfdabfpaaDoor
