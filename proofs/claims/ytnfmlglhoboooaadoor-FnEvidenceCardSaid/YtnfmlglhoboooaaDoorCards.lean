/-
  DERIVED. GIVEN WITH THE SEED: THE CARDS: each row of YtnfmlglhoboooaaDoorRows.lean that lists a variable, with what it lists TIED to the program's text (the seventh form; the later family's looks); each row that meets fmt, with fmt's text TOLD by the authors' own Lean function (tested against real Go, not proved from fmt's source: count such statements apart). THE CARD IS WHAT COUNTS. Prove the row's statement (the work); the ties are given (YtnfmlglhoboooaaDoorTie.lean); close each card by the builder's one call (the guide's Derived/Test/ToyasCard.lean, 'card_holds'). Laid BY PROGRAM, IN A SANDBOX (cutbox-door.mjs). By AI agents, Wed Nov 11 2026. No macro, syntax, notation, axiom, sorry.
-/
import Derived.Test.YtnfmlglhoboooaaDoorRows
import GoSem.ClaimSeven
namespace Go.Proofs.YtnfmlglhoboooaaDoor
namespace Rows

/-- THE TIED CARD OF 'laws.FnExactPairHash'. -/
def fnExactPairHashCard : Claim7 := { stood := { row := fnExactPairHashRow, standIns := [], harness := (true, "3e0d290a89cc181e69f930c3057ab3e6579b3ddca53f4c98a6e360fcca39ec8f"), looks := false }, kinds := [], alts := [], laidByText := true, laidKinds := [.data, .data, .data], laidTests := true, laidLooks := .later }
def FnExactPairHashCardSaid : Prop := Claim7.holds Tryd.pinned (.plain (OpenSpec.ofChange fnExactPairHashSpec)) fnExactPairHashCard

/-- THE TIED CARD OF 'laws.FnExactLeafHash'. -/
def fnExactLeafHashCard : Claim7 := { stood := { row := fnExactLeafHashRow, standIns := [], harness := (true, "3e0d290a89cc181e69f930c3057ab3e6579b3ddca53f4c98a6e360fcca39ec8f"), looks := false }, kinds := [], alts := [], laidByText := true, laidKinds := [.data, .data, .data], laidTests := true, laidLooks := .later }
def FnExactLeafHashCardSaid : Prop := Claim7.holds Tryd.pinned (.plain (OpenSpec.ofChange fnExactLeafHashSpec)) fnExactLeafHashCard

/-- THE TIED CARD OF 'laws.FnExactVerifyLeaf'. -/
def fnExactVerifyLeafCard : Claim7 := { stood := { row := fnExactVerifyLeafRow, standIns := [], harness := (true, "3e0d290a89cc181e69f930c3057ab3e6579b3ddca53f4c98a6e360fcca39ec8f"), looks := false }, kinds := [], alts := [], laidByText := true, laidKinds := [.data, .data, .data], laidTests := true, laidLooks := .later }
def FnExactVerifyLeafCardSaid : Prop := Claim7.holds Tryd.pinned (.plain (OpenSpec.ofChange fnExactVerifyLeafSpec)) fnExactVerifyLeafCard

/-- THE TIED CARD OF 'laws.FnExactTreeRoot'. -/
def fnExactTreeRootCard : Claim7 := { stood := { row := fnExactTreeRootRow, standIns := [], harness := (true, "3e0d290a89cc181e69f930c3057ab3e6579b3ddca53f4c98a6e360fcca39ec8f"), looks := false }, kinds := [], alts := [], laidByText := true, laidKinds := [.data, .data, .data], laidTests := true, laidLooks := .later }
def FnExactTreeRootCardSaid : Prop := Claim7.holds Tryd.pinned (.plain (OpenSpec.ofChange fnExactTreeRootSpec)) fnExactTreeRootCard

/-- THE TIED CARD OF 'laws.FnExactFirstChanged'. -/
def fnExactFirstChangedCard : Claim7 := { stood := { row := fnExactFirstChangedRow, standIns := [], harness := (true, "3e0d290a89cc181e69f930c3057ab3e6579b3ddca53f4c98a6e360fcca39ec8f"), looks := false }, kinds := [], alts := [], laidByText := true, laidKinds := [.data, .data, .data], laidTests := true, laidLooks := .later }
def FnExactFirstChangedCardSaid : Prop := Claim7.holds Tryd.pinned (.plain (OpenSpec.ofChange fnExactFirstChangedSpec)) fnExactFirstChangedCard

/-- THE TIED CARD OF 'laws.FnExactVerifySubset'. -/
def fnExactVerifySubsetCard : Claim7 := { stood := { row := fnExactVerifySubsetRow, standIns := [], harness := (true, "3e0d290a89cc181e69f930c3057ab3e6579b3ddca53f4c98a6e360fcca39ec8f"), looks := false }, kinds := [], alts := [], laidByText := true, laidKinds := [.data, .data, .data], laidTests := true, laidLooks := .later }
def FnExactVerifySubsetCardSaid : Prop := Claim7.holds Tryd.pinned (.plain (OpenSpec.ofChange fnExactVerifySubsetSpec)) fnExactVerifySubsetCard

/-- THE TIED CARD OF 'laws.FnExactEvidenceRoot'. -/
def fnExactEvidenceRootCard : Claim7 := { stood := { row := fnExactEvidenceRootRow, standIns := [], harness := (true, "3e0d290a89cc181e69f930c3057ab3e6579b3ddca53f4c98a6e360fcca39ec8f"), looks := false }, kinds := [], alts := [], laidByText := true, laidKinds := [.data, .data, .data], laidTests := true, laidLooks := .later }
def FnExactEvidenceRootCardSaid : Prop := Claim7.holds Tryd.pinned (.plain (OpenSpec.ofChange fnExactEvidenceRootSpec)) fnExactEvidenceRootCard

/-- THE TIED CARD OF 'laws.FnExactProveLeaf'. -/
def fnExactProveLeafCard : Claim7 := { stood := { row := fnExactProveLeafRow, standIns := [], harness := (true, "3e0d290a89cc181e69f930c3057ab3e6579b3ddca53f4c98a6e360fcca39ec8f"), looks := false }, kinds := [], alts := [], laidByText := true, laidKinds := [.data, .data, .data], laidTests := true, laidLooks := .later }
def FnExactProveLeafCardSaid : Prop := Claim7.holds Tryd.pinned (.plain (OpenSpec.ofChange fnExactProveLeafSpec)) fnExactProveLeafCard

/-- THE TIED CARD OF 'laws.FnExactProveSubset'. -/
def fnExactProveSubsetCard : Claim7 := { stood := { row := fnExactProveSubsetRow, standIns := [], harness := (true, "3e0d290a89cc181e69f930c3057ab3e6579b3ddca53f4c98a6e360fcca39ec8f"), looks := false }, kinds := [], alts := [], laidByText := true, laidKinds := [.data, .data, .data], laidTests := true, laidLooks := .later }
def FnExactProveSubsetCardSaid : Prop := Claim7.holds Tryd.pinned (.plain (OpenSpec.ofChange fnExactProveSubsetSpec)) fnExactProveSubsetCard

/-- THE TIED CARD OF 'laws.FnChanged'. -/
def fnChangedCard : Claim7 := { stood := { row := fnChangedRow, standIns := [], harness := (true, "3e0d290a89cc181e69f930c3057ab3e6579b3ddca53f4c98a6e360fcca39ec8f"), looks := false }, kinds := [], alts := [], laidByText := true, laidKinds := [.data, .data, .data], laidTests := true, laidLooks := .later }
def FnChangedCardSaid : Prop := Claim7.holds Tryd.pinned (.plain (OpenSpec.ofChange fnChangedSpec)) fnChangedCard

/-- THE TIED CARD OF 'laws.FnEvidence'. -/
def fnEvidenceCard : Claim7 := { stood := { row := fnEvidenceRow, standIns := [], harness := (true, "3e0d290a89cc181e69f930c3057ab3e6579b3ddca53f4c98a6e360fcca39ec8f"), looks := false }, kinds := [], alts := [], laidByText := true, laidKinds := [.data, .data, .data], laidTests := true, laidLooks := .later }
def FnEvidenceCardSaid : Prop := Claim7.holds Tryd.pinned (.plain (OpenSpec.ofChange fnEvidenceSpec)) fnEvidenceCard

/-- THE SECOND FORM's CARD OF 'laws.FnExactPairHash'. -/
def fnExactPairHashUptoCard : Claim7 := { stood := { row := fnExactPairHashUptoRow, standIns := [], harness := (true, "3e0d290a89cc181e69f930c3057ab3e6579b3ddca53f4c98a6e360fcca39ec8f"), looks := false }, kinds := [], alts := [], laidByText := true, laidKinds := [.data, .data, .data], laidTests := true, laidLooks := .later }
def FnExactPairHashUptoCardSaid : Prop := Claim7.holds Tryd.pinned (.plain (OpenSpec.upto fnExactPairHashSpec)) fnExactPairHashUptoCard

/-- THE SECOND FORM's CARD OF 'laws.FnExactLeafHash'. -/
def fnExactLeafHashUptoCard : Claim7 := { stood := { row := fnExactLeafHashUptoRow, standIns := [], harness := (true, "3e0d290a89cc181e69f930c3057ab3e6579b3ddca53f4c98a6e360fcca39ec8f"), looks := false }, kinds := [], alts := [], laidByText := true, laidKinds := [.data, .data, .data], laidTests := true, laidLooks := .later }
def FnExactLeafHashUptoCardSaid : Prop := Claim7.holds Tryd.pinned (.plain (OpenSpec.upto fnExactLeafHashSpec)) fnExactLeafHashUptoCard

/-- THE SECOND FORM's CARD OF 'laws.FnExactVerifyLeaf'. -/
def fnExactVerifyLeafUptoCard : Claim7 := { stood := { row := fnExactVerifyLeafUptoRow, standIns := [], harness := (true, "3e0d290a89cc181e69f930c3057ab3e6579b3ddca53f4c98a6e360fcca39ec8f"), looks := false }, kinds := [], alts := [], laidByText := true, laidKinds := [.data, .data, .data], laidTests := true, laidLooks := .later }
def FnExactVerifyLeafUptoCardSaid : Prop := Claim7.holds Tryd.pinned (.plain (OpenSpec.upto fnExactVerifyLeafSpec)) fnExactVerifyLeafUptoCard

/-- THE SECOND FORM's CARD OF 'laws.FnExactTreeRoot'. -/
def fnExactTreeRootUptoCard : Claim7 := { stood := { row := fnExactTreeRootUptoRow, standIns := [], harness := (true, "3e0d290a89cc181e69f930c3057ab3e6579b3ddca53f4c98a6e360fcca39ec8f"), looks := false }, kinds := [], alts := [], laidByText := true, laidKinds := [.data, .data, .data], laidTests := true, laidLooks := .later }
def FnExactTreeRootUptoCardSaid : Prop := Claim7.holds Tryd.pinned (.plain (OpenSpec.upto fnExactTreeRootSpec)) fnExactTreeRootUptoCard

/-- THE SECOND FORM's CARD OF 'laws.FnExactFirstChanged'. -/
def fnExactFirstChangedUptoCard : Claim7 := { stood := { row := fnExactFirstChangedUptoRow, standIns := [], harness := (true, "3e0d290a89cc181e69f930c3057ab3e6579b3ddca53f4c98a6e360fcca39ec8f"), looks := false }, kinds := [], alts := [], laidByText := true, laidKinds := [.data, .data, .data], laidTests := true, laidLooks := .later }
def FnExactFirstChangedUptoCardSaid : Prop := Claim7.holds Tryd.pinned (.plain (OpenSpec.upto fnExactFirstChangedSpec)) fnExactFirstChangedUptoCard

/-- THE SECOND FORM's CARD OF 'laws.FnExactVerifySubset'. -/
def fnExactVerifySubsetUptoCard : Claim7 := { stood := { row := fnExactVerifySubsetUptoRow, standIns := [], harness := (true, "3e0d290a89cc181e69f930c3057ab3e6579b3ddca53f4c98a6e360fcca39ec8f"), looks := false }, kinds := [], alts := [], laidByText := true, laidKinds := [.data, .data, .data], laidTests := true, laidLooks := .later }
def FnExactVerifySubsetUptoCardSaid : Prop := Claim7.holds Tryd.pinned (.plain (OpenSpec.upto fnExactVerifySubsetSpec)) fnExactVerifySubsetUptoCard

/-- THE SECOND FORM's CARD OF 'laws.FnExactEvidenceRoot'. -/
def fnExactEvidenceRootUptoCard : Claim7 := { stood := { row := fnExactEvidenceRootUptoRow, standIns := [], harness := (true, "3e0d290a89cc181e69f930c3057ab3e6579b3ddca53f4c98a6e360fcca39ec8f"), looks := false }, kinds := [], alts := [], laidByText := true, laidKinds := [.data, .data, .data], laidTests := true, laidLooks := .later }
def FnExactEvidenceRootUptoCardSaid : Prop := Claim7.holds Tryd.pinned (.plain (OpenSpec.upto fnExactEvidenceRootSpec)) fnExactEvidenceRootUptoCard

/-- THE SECOND FORM's CARD OF 'laws.FnExactProveLeaf'. -/
def fnExactProveLeafUptoCard : Claim7 := { stood := { row := fnExactProveLeafUptoRow, standIns := [], harness := (true, "3e0d290a89cc181e69f930c3057ab3e6579b3ddca53f4c98a6e360fcca39ec8f"), looks := false }, kinds := [], alts := [], laidByText := true, laidKinds := [.data, .data, .data], laidTests := true, laidLooks := .later }
def FnExactProveLeafUptoCardSaid : Prop := Claim7.holds Tryd.pinned (.plain (OpenSpec.upto fnExactProveLeafSpec)) fnExactProveLeafUptoCard

/-- THE SECOND FORM's CARD OF 'laws.FnExactProveSubset'. -/
def fnExactProveSubsetUptoCard : Claim7 := { stood := { row := fnExactProveSubsetUptoRow, standIns := [], harness := (true, "3e0d290a89cc181e69f930c3057ab3e6579b3ddca53f4c98a6e360fcca39ec8f"), looks := false }, kinds := [], alts := [], laidByText := true, laidKinds := [.data, .data, .data], laidTests := true, laidLooks := .later }
def FnExactProveSubsetUptoCardSaid : Prop := Claim7.holds Tryd.pinned (.plain (OpenSpec.upto fnExactProveSubsetSpec)) fnExactProveSubsetUptoCard

/-- THE SECOND FORM's CARD OF 'laws.FnChanged'. -/
def fnChangedUptoCard : Claim7 := { stood := { row := fnChangedUptoRow, standIns := [], harness := (true, "3e0d290a89cc181e69f930c3057ab3e6579b3ddca53f4c98a6e360fcca39ec8f"), looks := false }, kinds := [], alts := [], laidByText := true, laidKinds := [.data, .data, .data], laidTests := true, laidLooks := .later }
def FnChangedUptoCardSaid : Prop := Claim7.holds Tryd.pinned (.plain (OpenSpec.upto fnChangedSpec)) fnChangedUptoCard

/-- THE SECOND FORM's CARD OF 'laws.FnEvidence'. -/
def fnEvidenceUptoCard : Claim7 := { stood := { row := fnEvidenceUptoRow, standIns := [], harness := (true, "3e0d290a89cc181e69f930c3057ab3e6579b3ddca53f4c98a6e360fcca39ec8f"), looks := false }, kinds := [], alts := [], laidByText := true, laidKinds := [.data, .data, .data], laidTests := true, laidLooks := .later }
def FnEvidenceUptoCardSaid : Prop := Claim7.holds Tryd.pinned (.plain (OpenSpec.upto fnEvidenceSpec)) fnEvidenceUptoCard
end Rows
end Go.Proofs.YtnfmlglhoboooaaDoor
