/-
  DERIVED. GIVEN WITH THE SEED: THE CARDS: each row of YtccdjchaaeligaaDoorRows.lean that lists a variable, with what it lists TIED to the program's text (the seventh form; the later family's looks); each row that meets fmt, with fmt's text TOLD by the authors' own Lean function (tested against real Go, not proved from fmt's source: count such statements apart). THE CARD IS WHAT COUNTS. Prove the row's statement (the work); the ties are given (YtccdjchaaeligaaDoorTie.lean); close each card by the builder's one call (the guide's Derived/Test/ToyasCard.lean, 'card_holds'). Laid BY PROGRAM, IN A SANDBOX (cutbox-door.mjs). By AI agents, Wed Nov 11 2026. No macro, syntax, notation, axiom, sorry.
-/
import Derived.Test.YtccdjchaaeligaaDoorRows
import GoSem.ClaimSeven
namespace Go.Proofs.YtccdjchaaeligaaDoor
namespace Rows

/-- THE TIED CARD OF 'laws.FnExactIsValidLedger'. -/
def fnExactIsValidLedgerCard : Claim7 := { stood := { row := fnExactIsValidLedgerRow, standIns := [], harness := (true, "f638782d5d08a1ae9df2f650b7d8a732a1f265be362e12d72c91bb3b10821afa"), looks := false }, kinds := [], alts := [], laidByText := true, laidKinds := [.data, .pinned], laidTests := true, laidLooks := .later }
def FnExactIsValidLedgerCardSaid : Prop := Claim7.holds Tryd.pinned (.plain (OpenSpec.ofChange fnExactIsValidLedgerSpec)) fnExactIsValidLedgerCard

/-- THE TIED CARD OF 'laws.FnExactBalanceOf'. -/
def fnExactBalanceOfCard : Claim7 := { stood := { row := fnExactBalanceOfRow, standIns := [], harness := (true, "f638782d5d08a1ae9df2f650b7d8a732a1f265be362e12d72c91bb3b10821afa"), looks := false }, kinds := [], alts := [], laidByText := true, laidKinds := [.data, .pinned], laidTests := true, laidLooks := .later }
def FnExactBalanceOfCardSaid : Prop := Claim7.holds Tryd.pinned (.plain (OpenSpec.ofChange fnExactBalanceOfSpec)) fnExactBalanceOfCard

/-- THE TIED CARD OF 'laws.FnExactResultOf'. -/
def fnExactResultOfCard : Claim7 := { stood := { row := fnExactResultOfRow, standIns := [], harness := (true, "f638782d5d08a1ae9df2f650b7d8a732a1f265be362e12d72c91bb3b10821afa"), looks := false }, kinds := [], alts := [], laidByText := true, laidKinds := [.data, .pinned], laidTests := true, laidLooks := .later }
def FnExactResultOfCardSaid : Prop := Claim7.holds Tryd.pinned (.plain (OpenSpec.ofChange fnExactResultOfSpec)) fnExactResultOfCard

/-- THE TIED CARD OF 'laws.FnClosing'. -/
def fnClosingCard : Claim7 := { stood := { row := fnClosingRow, standIns := [], harness := (true, "f638782d5d08a1ae9df2f650b7d8a732a1f265be362e12d72c91bb3b10821afa"), looks := false }, kinds := [], alts := [], laidByText := true, laidKinds := [.data, .pinned], laidTests := true, laidLooks := .later }
def FnClosingCardSaid : Prop := Claim7.holds Tryd.pinned (.plain (OpenSpec.ofChange fnClosingSpec)) fnClosingCard

/-- THE TIED CARD OF 'laws.FnExactAccountStatement'. -/
def fnExactAccountStatementCard : Claim7 := { stood := { row := fnExactAccountStatementRow, standIns := [], harness := (true, "f638782d5d08a1ae9df2f650b7d8a732a1f265be362e12d72c91bb3b10821afa"), looks := false }, kinds := [], alts := [], laidByText := true, laidKinds := [.data, .pinned], laidTests := true, laidLooks := .later }
def FnExactAccountStatementCardSaid : Prop := Claim7.holds Tryd.pinned (.plain (OpenSpec.ofChange fnExactAccountStatementSpec)) fnExactAccountStatementCard

/-- THE TIED CARD OF 'laws.FnExactTrialBalance'. -/
def fnExactTrialBalanceCard : Claim7 := { stood := { row := fnExactTrialBalanceRow, standIns := [], harness := (true, "f638782d5d08a1ae9df2f650b7d8a732a1f265be362e12d72c91bb3b10821afa"), looks := false }, kinds := [], alts := [], laidByText := true, laidKinds := [.data, .pinned], laidTests := true, laidLooks := .later }
def FnExactTrialBalanceCardSaid : Prop := Claim7.holds Tryd.pinned (.plain (OpenSpec.ofChange fnExactTrialBalanceSpec)) fnExactTrialBalanceCard

/-- THE TIED CARD OF 'laws.FnExactPostEntry'. -/
def fnExactPostEntryCard : Claim7 := { stood := { row := fnExactPostEntryRow, standIns := [], harness := (true, "f638782d5d08a1ae9df2f650b7d8a732a1f265be362e12d72c91bb3b10821afa"), looks := false }, kinds := [], alts := [], laidByText := true, laidKinds := [.data, .pinned], laidTests := true, laidLooks := .later }
def FnExactPostEntryCardSaid : Prop := Claim7.holds Tryd.pinned (.plain (OpenSpec.ofChange fnExactPostEntrySpec)) fnExactPostEntryCard

/-- THE TIED CARD OF 'laws.FnExactCloseAccounts'. -/
def fnExactCloseAccountsCard : Claim7 := { stood := { row := fnExactCloseAccountsRow, standIns := [], harness := (true, "f638782d5d08a1ae9df2f650b7d8a732a1f265be362e12d72c91bb3b10821afa"), looks := false }, kinds := [], alts := [], laidByText := true, laidKinds := [.data, .pinned], laidTests := true, laidLooks := .later }
def FnExactCloseAccountsCardSaid : Prop := Claim7.holds Tryd.pinned (.plain (OpenSpec.ofChange fnExactCloseAccountsSpec)) fnExactCloseAccountsCard

/-- THE TIED CARD OF 'laws.FnLedger'. -/
def fnLedgerCard : Claim7 := { stood := { row := fnLedgerRow, standIns := [], harness := (true, "f638782d5d08a1ae9df2f650b7d8a732a1f265be362e12d72c91bb3b10821afa"), looks := false }, kinds := [], alts := [], laidByText := true, laidKinds := [.data, .data, .data, .data, .pinned], laidTests := true, laidLooks := .later }
def FnLedgerCardSaid : Prop := Claim7.holds Tryd.pinned (.plain (OpenSpec.ofChange fnLedgerSpec)) fnLedgerCard

/-- THE TIED CARD OF 'laws.FnExactFormatEntry'. -/
def fnExactFormatEntryCard : Claim7 := { stood := { row := fnExactFormatEntryRow, standIns := [], harness := (true, "f638782d5d08a1ae9df2f650b7d8a732a1f265be362e12d72c91bb3b10821afa"), looks := false }, kinds := [], alts := [], laidByText := true, laidKinds := [.data, .data, .data, .data, .pinned], laidTests := true, laidLooks := .later }
def FnExactFormatEntryCardSaid : Prop := Claim7.holds Tryd.pinned (.plain (OpenSpec.ofChange fnExactFormatEntrySpec)) fnExactFormatEntryCard

/-- THE TIED CARD OF 'laws.FnExactReverseEntry'. -/
def fnExactReverseEntryCard : Claim7 := { stood := { row := fnExactReverseEntryRow, standIns := [], harness := (true, "f638782d5d08a1ae9df2f650b7d8a732a1f265be362e12d72c91bb3b10821afa"), looks := false }, kinds := [], alts := [], laidByText := true, laidKinds := [.data, .data, .data, .data, .pinned], laidTests := true, laidLooks := .later }
def FnExactReverseEntryCardSaid : Prop := Claim7.holds Tryd.pinned (.plain (OpenSpec.ofChange fnExactReverseEntrySpec)) fnExactReverseEntryCard

/-- THE SECOND FORM's CARD OF 'laws.FnExactIsValidLedger'. -/
def fnExactIsValidLedgerUptoCard : Claim7 := { stood := { row := fnExactIsValidLedgerUptoRow, standIns := [], harness := (true, "f638782d5d08a1ae9df2f650b7d8a732a1f265be362e12d72c91bb3b10821afa"), looks := false }, kinds := [], alts := [], laidByText := true, laidKinds := [.data, .pinned], laidTests := true, laidLooks := .later }
def FnExactIsValidLedgerUptoCardSaid : Prop := Claim7.holds Tryd.pinned (.plain (OpenSpec.upto fnExactIsValidLedgerSpec)) fnExactIsValidLedgerUptoCard

/-- THE SECOND FORM's CARD OF 'laws.FnExactBalanceOf'. -/
def fnExactBalanceOfUptoCard : Claim7 := { stood := { row := fnExactBalanceOfUptoRow, standIns := [], harness := (true, "f638782d5d08a1ae9df2f650b7d8a732a1f265be362e12d72c91bb3b10821afa"), looks := false }, kinds := [], alts := [], laidByText := true, laidKinds := [.data, .pinned], laidTests := true, laidLooks := .later }
def FnExactBalanceOfUptoCardSaid : Prop := Claim7.holds Tryd.pinned (.plain (OpenSpec.upto fnExactBalanceOfSpec)) fnExactBalanceOfUptoCard

/-- THE SECOND FORM's CARD OF 'laws.FnExactResultOf'. -/
def fnExactResultOfUptoCard : Claim7 := { stood := { row := fnExactResultOfUptoRow, standIns := [], harness := (true, "f638782d5d08a1ae9df2f650b7d8a732a1f265be362e12d72c91bb3b10821afa"), looks := false }, kinds := [], alts := [], laidByText := true, laidKinds := [.data, .pinned], laidTests := true, laidLooks := .later }
def FnExactResultOfUptoCardSaid : Prop := Claim7.holds Tryd.pinned (.plain (OpenSpec.upto fnExactResultOfSpec)) fnExactResultOfUptoCard

/-- THE SECOND FORM's CARD OF 'laws.FnClosing'. -/
def fnClosingUptoCard : Claim7 := { stood := { row := fnClosingUptoRow, standIns := [], harness := (true, "f638782d5d08a1ae9df2f650b7d8a732a1f265be362e12d72c91bb3b10821afa"), looks := false }, kinds := [], alts := [], laidByText := true, laidKinds := [.data, .pinned], laidTests := true, laidLooks := .later }
def FnClosingUptoCardSaid : Prop := Claim7.holds Tryd.pinned (.plain (OpenSpec.upto fnClosingSpec)) fnClosingUptoCard

/-- THE SECOND FORM's CARD OF 'laws.FnExactAccountStatement'. -/
def fnExactAccountStatementUptoCard : Claim7 := { stood := { row := fnExactAccountStatementUptoRow, standIns := [], harness := (true, "f638782d5d08a1ae9df2f650b7d8a732a1f265be362e12d72c91bb3b10821afa"), looks := false }, kinds := [], alts := [], laidByText := true, laidKinds := [.data, .pinned], laidTests := true, laidLooks := .later }
def FnExactAccountStatementUptoCardSaid : Prop := Claim7.holds Tryd.pinned (.plain (OpenSpec.upto fnExactAccountStatementSpec)) fnExactAccountStatementUptoCard

/-- THE SECOND FORM's CARD OF 'laws.FnExactTrialBalance'. -/
def fnExactTrialBalanceUptoCard : Claim7 := { stood := { row := fnExactTrialBalanceUptoRow, standIns := [], harness := (true, "f638782d5d08a1ae9df2f650b7d8a732a1f265be362e12d72c91bb3b10821afa"), looks := false }, kinds := [], alts := [], laidByText := true, laidKinds := [.data, .pinned], laidTests := true, laidLooks := .later }
def FnExactTrialBalanceUptoCardSaid : Prop := Claim7.holds Tryd.pinned (.plain (OpenSpec.upto fnExactTrialBalanceSpec)) fnExactTrialBalanceUptoCard

/-- THE SECOND FORM's CARD OF 'laws.FnExactPostEntry'. -/
def fnExactPostEntryUptoCard : Claim7 := { stood := { row := fnExactPostEntryUptoRow, standIns := [], harness := (true, "f638782d5d08a1ae9df2f650b7d8a732a1f265be362e12d72c91bb3b10821afa"), looks := false }, kinds := [], alts := [], laidByText := true, laidKinds := [.data, .pinned], laidTests := true, laidLooks := .later }
def FnExactPostEntryUptoCardSaid : Prop := Claim7.holds Tryd.pinned (.plain (OpenSpec.upto fnExactPostEntrySpec)) fnExactPostEntryUptoCard

/-- THE SECOND FORM's CARD OF 'laws.FnExactCloseAccounts'. -/
def fnExactCloseAccountsUptoCard : Claim7 := { stood := { row := fnExactCloseAccountsUptoRow, standIns := [], harness := (true, "f638782d5d08a1ae9df2f650b7d8a732a1f265be362e12d72c91bb3b10821afa"), looks := false }, kinds := [], alts := [], laidByText := true, laidKinds := [.data, .pinned], laidTests := true, laidLooks := .later }
def FnExactCloseAccountsUptoCardSaid : Prop := Claim7.holds Tryd.pinned (.plain (OpenSpec.upto fnExactCloseAccountsSpec)) fnExactCloseAccountsUptoCard

/-- THE SECOND FORM's CARD OF 'laws.FnLedger'. -/
def fnLedgerUptoCard : Claim7 := { stood := { row := fnLedgerUptoRow, standIns := [], harness := (true, "f638782d5d08a1ae9df2f650b7d8a732a1f265be362e12d72c91bb3b10821afa"), looks := false }, kinds := [], alts := [], laidByText := true, laidKinds := [.data, .data, .data, .data, .pinned], laidTests := true, laidLooks := .later }
def FnLedgerUptoCardSaid : Prop := Claim7.holds Tryd.pinned (.plain (OpenSpec.upto fnLedgerSpec)) fnLedgerUptoCard

/-- THE SECOND FORM's CARD OF 'laws.FnExactFormatEntry'. -/
def fnExactFormatEntryUptoCard : Claim7 := { stood := { row := fnExactFormatEntryUptoRow, standIns := [], harness := (true, "f638782d5d08a1ae9df2f650b7d8a732a1f265be362e12d72c91bb3b10821afa"), looks := false }, kinds := [], alts := [], laidByText := true, laidKinds := [.data, .data, .data, .data, .pinned], laidTests := true, laidLooks := .later }
def FnExactFormatEntryUptoCardSaid : Prop := Claim7.holds Tryd.pinned (.plain (OpenSpec.upto fnExactFormatEntrySpec)) fnExactFormatEntryUptoCard

/-- THE SECOND FORM's CARD OF 'laws.FnExactReverseEntry'. -/
def fnExactReverseEntryUptoCard : Claim7 := { stood := { row := fnExactReverseEntryUptoRow, standIns := [], harness := (true, "f638782d5d08a1ae9df2f650b7d8a732a1f265be362e12d72c91bb3b10821afa"), looks := false }, kinds := [], alts := [], laidByText := true, laidKinds := [.data, .data, .data, .data, .pinned], laidTests := true, laidLooks := .later }
def FnExactReverseEntryUptoCardSaid : Prop := Claim7.holds Tryd.pinned (.plain (OpenSpec.upto fnExactReverseEntrySpec)) fnExactReverseEntryUptoCard
end Rows
end Go.Proofs.YtccdjchaaeligaaDoor
