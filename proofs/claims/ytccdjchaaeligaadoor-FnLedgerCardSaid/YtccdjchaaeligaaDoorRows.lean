/-
  NARROWER THAN 'FOR EVERY INPUT', by the rows' own cells (each row's printed sentence says how): FnExactIsValidLedger: laid · FnExactBalanceOf: laid · FnExactResultOf: laid · FnClosing: laid · FnExactAccountStatement: laid · FnExactTrialBalance: laid · FnExactPostEntry: laid · FnExactCloseAccounts: laid · FnLedger: laid · FnExactFormatEntry: laid · FnExactReverseEntry: laid.
  DERIVED. THE GIVEN ROWS OF THIS SEAT. 11 by the template 'for every input the law returns true; each argument reads behind the call as it read before'; 0 by the template 'total and deterministic' (their statements: YtccdjchaaeligaaDoorTotals.lean).
  GIVEN WITH THE SEED: the statements are not yours to turn. If you find one false, say at which input.
  Laid BY PROGRAM, IN A SANDBOX (cutbox-rows.mjs): the forced cells as the released guide's own fill.sh prints them over the translation ccf70929f663cb09… (all of the seat's roots in one cut). By AI agents, Wed Nov 11 2026. No macro, syntax, notation, axiom, sorry.
-/
import Derived.Test.YtccdjchaaeligaaDoorChecked
import GoSem.PinnedTables
import GoSem.Claim
import GoSem.ClaimJoined
import GoSem.ClaimMapViews
import Derived.JoinedTies
import Derived.KernelRfl
namespace Go.Proofs.YtccdjchaaeligaaDoor
/- THE CELL 'sum', in the pinned program and in every row, IS THE sha256 OF THE DUMP (.gsa) THAT YtccdjchaaeligaaDoorProg.lean LOADS. Nothing in Lean hashes anything: it is a label: what it is worth is what the hold of that sum in a sandbox is worth. -/
noncomputable def Tryd.pinned : Pinned := { name := "ytccdjchaaeligaadoor", sum := "ccf70929f663cb09a50bea71abb5199cfea249690d10ca1866cd9afd2b8c2795", checked := Tryd.checked }
namespace Rows
def none {H : Type} : Left H := { results := [], args := [] }

/- WHAT THE LISTED PACKAGE-LEVEL VARIABLES READ AS WHEN THE CALL BEGINS. Each datum BY PROGRAM (the guide's laid-datum.mjs) off the statement by which the dump's own 'gosem.cut.vars' lays the variable. In a bare row this is a premise. The card (YtccdjchaaeligaaDoorCards.lean) ties it to the program's text. -/
def laid_unicode_utf8_acceptRanges {H : Type} : DataW H := .agg [.agg [.lit (.int .u8 128), .lit (.int .u8 191)], .agg [.lit (.int .u8 160), .lit (.int .u8 191)], .agg [.lit (.int .u8 128), .lit (.int .u8 159)], .agg [.lit (.int .u8 144), .lit (.int .u8 191)], .agg [.lit (.int .u8 128), .lit (.int .u8 143)], .agg [.lit (.int .u8 0), .lit (.int .u8 0)], .agg [.lit (.int .u8 0), .lit (.int .u8 0)], .agg [.lit (.int .u8 0), .lit (.int .u8 0)], .agg [.lit (.int .u8 0), .lit (.int .u8 0)], .agg [.lit (.int .u8 0), .lit (.int .u8 0)], .agg [.lit (.int .u8 0), .lit (.int .u8 0)], .agg [.lit (.int .u8 0), .lit (.int .u8 0)], .agg [.lit (.int .u8 0), .lit (.int .u8 0)], .agg [.lit (.int .u8 0), .lit (.int .u8 0)], .agg [.lit (.int .u8 0), .lit (.int .u8 0)], .agg [.lit (.int .u8 0), .lit (.int .u8 0)]]
/-- One of Go's own tables, pinned by name: the form's constant. -/
def laid_unicode_utf8_first : DataW Unit := Go.Pinned.utf8First
def laid_math_bits_deBruijn32tab {H : Type} : DataW H := .agg [.lit (.int .u8 0), .lit (.int .u8 1), .lit (.int .u8 28), .lit (.int .u8 2), .lit (.int .u8 29), .lit (.int .u8 14), .lit (.int .u8 24), .lit (.int .u8 3), .lit (.int .u8 30), .lit (.int .u8 22), .lit (.int .u8 20), .lit (.int .u8 15), .lit (.int .u8 25), .lit (.int .u8 17), .lit (.int .u8 4), .lit (.int .u8 8), .lit (.int .u8 31), .lit (.int .u8 27), .lit (.int .u8 13), .lit (.int .u8 23), .lit (.int .u8 21), .lit (.int .u8 19), .lit (.int .u8 16), .lit (.int .u8 7), .lit (.int .u8 26), .lit (.int .u8 12), .lit (.int .u8 18), .lit (.int .u8 6), .lit (.int .u8 11), .lit (.int .u8 5), .lit (.int .u8 10), .lit (.int .u8 9)]
def laid_math_bits_deBruijn64tab {H : Type} : DataW H := .agg [.lit (.int .u8 0), .lit (.int .u8 1), .lit (.int .u8 56), .lit (.int .u8 2), .lit (.int .u8 57), .lit (.int .u8 49), .lit (.int .u8 28), .lit (.int .u8 3), .lit (.int .u8 61), .lit (.int .u8 58), .lit (.int .u8 42), .lit (.int .u8 50), .lit (.int .u8 38), .lit (.int .u8 29), .lit (.int .u8 17), .lit (.int .u8 4), .lit (.int .u8 62), .lit (.int .u8 47), .lit (.int .u8 59), .lit (.int .u8 36), .lit (.int .u8 45), .lit (.int .u8 43), .lit (.int .u8 51), .lit (.int .u8 22), .lit (.int .u8 53), .lit (.int .u8 39), .lit (.int .u8 33), .lit (.int .u8 30), .lit (.int .u8 24), .lit (.int .u8 18), .lit (.int .u8 12), .lit (.int .u8 5), .lit (.int .u8 63), .lit (.int .u8 55), .lit (.int .u8 48), .lit (.int .u8 27), .lit (.int .u8 60), .lit (.int .u8 41), .lit (.int .u8 37), .lit (.int .u8 16), .lit (.int .u8 46), .lit (.int .u8 35), .lit (.int .u8 44), .lit (.int .u8 21), .lit (.int .u8 52), .lit (.int .u8 32), .lit (.int .u8 23), .lit (.int .u8 11), .lit (.int .u8 54), .lit (.int .u8 26), .lit (.int .u8 40), .lit (.int .u8 15), .lit (.int .u8 34), .lit (.int .u8 20), .lit (.int .u8 31), .lit (.int .u8 10), .lit (.int .u8 25), .lit (.int .u8 14), .lit (.int .u8 19), .lit (.int .u8 9), .lit (.int .u8 13), .lit (.int .u8 8), .lit (.int .u8 7), .lit (.int .u8 6)]
def laid_internal_strconv_uint64pow10 {H : Type} : DataW H := .agg [.lit (.int .u64 1), .lit (.int .u64 10), .lit (.int .u64 100), .lit (.int .u64 1000), .lit (.int .u64 10000), .lit (.int .u64 100000), .lit (.int .u64 1000000), .lit (.int .u64 10000000), .lit (.int .u64 100000000), .lit (.int .u64 1000000000), .lit (.int .u64 10000000000), .lit (.int .u64 100000000000), .lit (.int .u64 1000000000000), .lit (.int .u64 10000000000000), .lit (.int .u64 100000000000000), .lit (.int .u64 1000000000000000), .lit (.int .u64 10000000000000000), .lit (.int .u64 100000000000000000), .lit (.int .u64 1000000000000000000), .lit (.int .u64 10000000000000000000)]

/-- 'laws.FnExactIsValidLedger': WHATEVER THE INPUT: true; the input reads as it did. -/
def fnExactIsValidLedgerSpec : ChangeSpec := { name := "fnExactIsValidLedger", fn := fun _ => fun
  | [d] => { results := [.lit (.bool true)], args := [d] }
  | _ => none }
def fnExactIsValidLedgerRow : OpenClaim := { program := "ytccdjchaaeligaadoor", sum := "ccf70929f663cb09a50bea71abb5199cfea249690d10ca1866cd9afd2b8c2795", func := "loop.example/g00902/laws.FnExactIsValidLedger", spec := "fnExactIsValidLedger", inPlace := ["internal/bytealg.IndexByteString", "internal/bytealg.IndexString"], unfollowed := true, recurses := true, named := ["unicode/utf8.first", "unicode/utf8.acceptRanges", "internal/bytealg.MaxLen"], apart := false, laid := [("unicode/utf8.acceptRanges", laid_unicode_utf8_acceptRanges), ("unicode/utf8.first", laid_unicode_utf8_first)] }
def FnExactIsValidLedgerSaid : Prop := fnExactIsValidLedgerRow.holds Tryd.pinned (OpenSpec.ofChange fnExactIsValidLedgerSpec)

/-- ITS FALSE NEIGHBOUR: 'it returns false'. Refute it at one input. -/
def fnExactIsValidLedgerWrong : ChangeSpec := { name := "fnExactIsValidLedger", fn := fun _ => fun
  | [d] => { results := [.lit (.bool false)], args := [d] }
  | _ => none }
def FnExactIsValidLedgerWrongFalsely : Prop := fnExactIsValidLedgerRow.holds Tryd.pinned (OpenSpec.ofChange fnExactIsValidLedgerWrong)

/-- 'laws.FnExactBalanceOf': WHATEVER THE INPUT: true; the input reads as it did. -/
def fnExactBalanceOfSpec : ChangeSpec := { name := "fnExactBalanceOf", fn := fun _ => fun
  | [d1, d2, d3] => { results := [.lit (.bool true)], args := [d1, d2, d3] }
  | _ => none }
def fnExactBalanceOfRow : OpenClaim := { program := "ytccdjchaaeligaadoor", sum := "ccf70929f663cb09a50bea71abb5199cfea249690d10ca1866cd9afd2b8c2795", func := "loop.example/g00902/laws.FnExactBalanceOf", spec := "fnExactBalanceOf", inPlace := ["internal/bytealg.IndexByteString", "internal/bytealg.IndexString"], unfollowed := true, recurses := true, named := ["unicode/utf8.first", "unicode/utf8.acceptRanges", "internal/bytealg.MaxLen"], apart := false, laid := [("unicode/utf8.acceptRanges", laid_unicode_utf8_acceptRanges), ("unicode/utf8.first", laid_unicode_utf8_first)] }
def FnExactBalanceOfSaid : Prop := fnExactBalanceOfRow.holds Tryd.pinned (OpenSpec.ofChange fnExactBalanceOfSpec)

/-- ITS FALSE NEIGHBOUR: 'it returns false'. Refute it at one input. -/
def fnExactBalanceOfWrong : ChangeSpec := { name := "fnExactBalanceOf", fn := fun _ => fun
  | [d1, d2, d3] => { results := [.lit (.bool false)], args := [d1, d2, d3] }
  | _ => none }
def FnExactBalanceOfWrongFalsely : Prop := fnExactBalanceOfRow.holds Tryd.pinned (OpenSpec.ofChange fnExactBalanceOfWrong)

/-- 'laws.FnExactResultOf': WHATEVER THE INPUT: true; the input reads as it did. -/
def fnExactResultOfSpec : ChangeSpec := { name := "fnExactResultOf", fn := fun _ => fun
  | [d1, d2, d3] => { results := [.lit (.bool true)], args := [d1, d2, d3] }
  | _ => none }
def fnExactResultOfRow : OpenClaim := { program := "ytccdjchaaeligaadoor", sum := "ccf70929f663cb09a50bea71abb5199cfea249690d10ca1866cd9afd2b8c2795", func := "loop.example/g00902/laws.FnExactResultOf", spec := "fnExactResultOf", inPlace := ["internal/bytealg.IndexByteString", "internal/bytealg.IndexString"], unfollowed := true, recurses := true, named := ["unicode/utf8.first", "unicode/utf8.acceptRanges", "internal/bytealg.MaxLen"], apart := false, laid := [("unicode/utf8.acceptRanges", laid_unicode_utf8_acceptRanges), ("unicode/utf8.first", laid_unicode_utf8_first)] }
def FnExactResultOfSaid : Prop := fnExactResultOfRow.holds Tryd.pinned (OpenSpec.ofChange fnExactResultOfSpec)

/-- ITS FALSE NEIGHBOUR: 'it returns false'. Refute it at one input. -/
def fnExactResultOfWrong : ChangeSpec := { name := "fnExactResultOf", fn := fun _ => fun
  | [d1, d2, d3] => { results := [.lit (.bool false)], args := [d1, d2, d3] }
  | _ => none }
def FnExactResultOfWrongFalsely : Prop := fnExactResultOfRow.holds Tryd.pinned (OpenSpec.ofChange fnExactResultOfWrong)

/-- 'laws.FnClosing': WHATEVER THE INPUT: true; the input reads as it did. -/
def fnClosingSpec : ChangeSpec := { name := "fnClosing", fn := fun _ => fun
  | [d] => { results := [.lit (.bool true)], args := [d] }
  | _ => none }
def fnClosingRow : OpenClaim := { program := "ytccdjchaaeligaadoor", sum := "ccf70929f663cb09a50bea71abb5199cfea249690d10ca1866cd9afd2b8c2795", func := "loop.example/g00902/laws.FnClosing", spec := "fnClosing", inPlace := ["internal/bytealg.IndexByteString", "internal/bytealg.IndexString"], unfollowed := true, recurses := true, named := ["unicode/utf8.first", "unicode/utf8.acceptRanges", "internal/bytealg.MaxLen"], apart := false, laid := [("unicode/utf8.acceptRanges", laid_unicode_utf8_acceptRanges), ("unicode/utf8.first", laid_unicode_utf8_first)] }
def FnClosingSaid : Prop := fnClosingRow.holds Tryd.pinned (OpenSpec.ofChange fnClosingSpec)

/-- ITS FALSE NEIGHBOUR: 'it returns false'. Refute it at one input. -/
def fnClosingWrong : ChangeSpec := { name := "fnClosing", fn := fun _ => fun
  | [d] => { results := [.lit (.bool false)], args := [d] }
  | _ => none }
def FnClosingWrongFalsely : Prop := fnClosingRow.holds Tryd.pinned (OpenSpec.ofChange fnClosingWrong)

/-- 'laws.FnExactAccountStatement': WHATEVER THE INPUT: true; the input reads as it did. -/
def fnExactAccountStatementSpec : ChangeSpec := { name := "fnExactAccountStatement", fn := fun _ => fun
  | [d1, d2, d3, d4] => { results := [.lit (.bool true)], args := [d1, d2, d3, d4] }
  | _ => none }
def fnExactAccountStatementRow : OpenClaim := { program := "ytccdjchaaeligaadoor", sum := "ccf70929f663cb09a50bea71abb5199cfea249690d10ca1866cd9afd2b8c2795", func := "loop.example/g00902/laws.FnExactAccountStatement", spec := "fnExactAccountStatement", inPlace := ["internal/bytealg.IndexByteString", "internal/bytealg.IndexString"], unfollowed := true, recurses := true, named := ["unicode/utf8.first", "unicode/utf8.acceptRanges", "internal/bytealg.MaxLen"], apart := false, laid := [("unicode/utf8.acceptRanges", laid_unicode_utf8_acceptRanges), ("unicode/utf8.first", laid_unicode_utf8_first)] }
def FnExactAccountStatementSaid : Prop := fnExactAccountStatementRow.holds Tryd.pinned (OpenSpec.ofChange fnExactAccountStatementSpec)

/-- ITS FALSE NEIGHBOUR: 'it returns false'. Refute it at one input. -/
def fnExactAccountStatementWrong : ChangeSpec := { name := "fnExactAccountStatement", fn := fun _ => fun
  | [d1, d2, d3, d4] => { results := [.lit (.bool false)], args := [d1, d2, d3, d4] }
  | _ => none }
def FnExactAccountStatementWrongFalsely : Prop := fnExactAccountStatementRow.holds Tryd.pinned (OpenSpec.ofChange fnExactAccountStatementWrong)

/-- 'laws.FnExactTrialBalance': WHATEVER THE INPUT: true; the input reads as it did. -/
def fnExactTrialBalanceSpec : ChangeSpec := { name := "fnExactTrialBalance", fn := fun _ => fun
  | [d1, d2] => { results := [.lit (.bool true)], args := [d1, d2] }
  | _ => none }
def fnExactTrialBalanceRow : OpenClaim := { program := "ytccdjchaaeligaadoor", sum := "ccf70929f663cb09a50bea71abb5199cfea249690d10ca1866cd9afd2b8c2795", func := "loop.example/g00902/laws.FnExactTrialBalance", spec := "fnExactTrialBalance", inPlace := ["internal/bytealg.IndexByteString", "internal/bytealg.IndexString"], unfollowed := true, recurses := true, named := ["unicode/utf8.first", "unicode/utf8.acceptRanges", "internal/bytealg.MaxLen"], apart := false, laid := [("unicode/utf8.acceptRanges", laid_unicode_utf8_acceptRanges), ("unicode/utf8.first", laid_unicode_utf8_first)] }
def FnExactTrialBalanceSaid : Prop := fnExactTrialBalanceRow.holds Tryd.pinned (OpenSpec.ofChange fnExactTrialBalanceSpec)

/-- ITS FALSE NEIGHBOUR: 'it returns false'. Refute it at one input. -/
def fnExactTrialBalanceWrong : ChangeSpec := { name := "fnExactTrialBalance", fn := fun _ => fun
  | [d1, d2] => { results := [.lit (.bool false)], args := [d1, d2] }
  | _ => none }
def FnExactTrialBalanceWrongFalsely : Prop := fnExactTrialBalanceRow.holds Tryd.pinned (OpenSpec.ofChange fnExactTrialBalanceWrong)

/-- 'laws.FnExactPostEntry': WHATEVER THE INPUT: true; the input reads as it did. -/
def fnExactPostEntrySpec : ChangeSpec := { name := "fnExactPostEntry", fn := fun _ => fun
  | [d1, d2] => { results := [.lit (.bool true)], args := [d1, d2] }
  | _ => none }
def fnExactPostEntryRow : OpenClaim := { program := "ytccdjchaaeligaadoor", sum := "ccf70929f663cb09a50bea71abb5199cfea249690d10ca1866cd9afd2b8c2795", func := "loop.example/g00902/laws.FnExactPostEntry", spec := "fnExactPostEntry", inPlace := ["internal/bytealg.IndexByteString", "internal/bytealg.IndexString"], unfollowed := true, recurses := true, named := ["unicode/utf8.first", "unicode/utf8.acceptRanges", "internal/bytealg.MaxLen"], apart := false, laid := [("unicode/utf8.acceptRanges", laid_unicode_utf8_acceptRanges), ("unicode/utf8.first", laid_unicode_utf8_first)] }
def FnExactPostEntrySaid : Prop := fnExactPostEntryRow.holds Tryd.pinned (OpenSpec.ofChange fnExactPostEntrySpec)

/-- ITS FALSE NEIGHBOUR: 'it returns false'. Refute it at one input. -/
def fnExactPostEntryWrong : ChangeSpec := { name := "fnExactPostEntry", fn := fun _ => fun
  | [d1, d2] => { results := [.lit (.bool false)], args := [d1, d2] }
  | _ => none }
def FnExactPostEntryWrongFalsely : Prop := fnExactPostEntryRow.holds Tryd.pinned (OpenSpec.ofChange fnExactPostEntryWrong)

/-- 'laws.FnExactCloseAccounts': WHATEVER THE INPUT: true; the input reads as it did. -/
def fnExactCloseAccountsSpec : ChangeSpec := { name := "fnExactCloseAccounts", fn := fun _ => fun
  | [d1, d2, d3] => { results := [.lit (.bool true)], args := [d1, d2, d3] }
  | _ => none }
def fnExactCloseAccountsRow : OpenClaim := { program := "ytccdjchaaeligaadoor", sum := "ccf70929f663cb09a50bea71abb5199cfea249690d10ca1866cd9afd2b8c2795", func := "loop.example/g00902/laws.FnExactCloseAccounts", spec := "fnExactCloseAccounts", inPlace := ["internal/bytealg.IndexByteString", "internal/bytealg.IndexString"], unfollowed := true, recurses := true, named := ["unicode/utf8.first", "unicode/utf8.acceptRanges", "internal/bytealg.MaxLen"], apart := false, laid := [("unicode/utf8.acceptRanges", laid_unicode_utf8_acceptRanges), ("unicode/utf8.first", laid_unicode_utf8_first)] }
def FnExactCloseAccountsSaid : Prop := fnExactCloseAccountsRow.holds Tryd.pinned (OpenSpec.ofChange fnExactCloseAccountsSpec)

/-- ITS FALSE NEIGHBOUR: 'it returns false'. Refute it at one input. -/
def fnExactCloseAccountsWrong : ChangeSpec := { name := "fnExactCloseAccounts", fn := fun _ => fun
  | [d1, d2, d3] => { results := [.lit (.bool false)], args := [d1, d2, d3] }
  | _ => none }
def FnExactCloseAccountsWrongFalsely : Prop := fnExactCloseAccountsRow.holds Tryd.pinned (OpenSpec.ofChange fnExactCloseAccountsWrong)

/-- 'laws.FnLedger': WHATEVER THE INPUT: true; the input reads as it did. -/
def fnLedgerSpec : ChangeSpec := { name := "fnLedger", fn := fun _ => fun
  | [d] => { results := [.lit (.bool true)], args := [d] }
  | _ => none }
def fnLedgerRow : OpenClaim := { program := "ytccdjchaaeligaadoor", sum := "ccf70929f663cb09a50bea71abb5199cfea249690d10ca1866cd9afd2b8c2795", func := "loop.example/g00902/laws.FnLedger", spec := "fnLedger", inPlace := ["internal/bytealg.IndexByteString", "internal/bytealg.IndexString"], unfollowed := true, recurses := true, named := ["unicode/utf8.first", "unicode/utf8.acceptRanges", "internal/strconv.uint64pow10", "math/bits.deBruijn32tab", "math/bits.deBruijn64tab", "internal/bytealg.MaxLen"], apart := false, laid := [("math/bits.deBruijn32tab", laid_math_bits_deBruijn32tab), ("math/bits.deBruijn64tab", laid_math_bits_deBruijn64tab), ("internal/strconv.uint64pow10", laid_internal_strconv_uint64pow10), ("unicode/utf8.acceptRanges", laid_unicode_utf8_acceptRanges), ("unicode/utf8.first", laid_unicode_utf8_first)] }
def FnLedgerSaid : Prop := fnLedgerRow.holds Tryd.pinned (OpenSpec.ofChange fnLedgerSpec)

/-- ITS FALSE NEIGHBOUR: 'it returns false'. Refute it at one input. -/
def fnLedgerWrong : ChangeSpec := { name := "fnLedger", fn := fun _ => fun
  | [d] => { results := [.lit (.bool false)], args := [d] }
  | _ => none }
def FnLedgerWrongFalsely : Prop := fnLedgerRow.holds Tryd.pinned (OpenSpec.ofChange fnLedgerWrong)

/-- 'laws.FnExactFormatEntry': WHATEVER THE INPUT: true; the input reads as it did. -/
def fnExactFormatEntrySpec : ChangeSpec := { name := "fnExactFormatEntry", fn := fun _ => fun
  | [d1, d2] => { results := [.lit (.bool true)], args := [d1, d2] }
  | _ => none }
def fnExactFormatEntryRow : OpenClaim := { program := "ytccdjchaaeligaadoor", sum := "ccf70929f663cb09a50bea71abb5199cfea249690d10ca1866cd9afd2b8c2795", func := "loop.example/g00902/laws.FnExactFormatEntry", spec := "fnExactFormatEntry", inPlace := ["internal/bytealg.IndexByteString", "internal/bytealg.IndexString"], unfollowed := true, recurses := true, named := ["unicode/utf8.first", "unicode/utf8.acceptRanges", "internal/strconv.uint64pow10", "math/bits.deBruijn32tab", "math/bits.deBruijn64tab", "internal/bytealg.MaxLen"], apart := false, laid := [("math/bits.deBruijn32tab", laid_math_bits_deBruijn32tab), ("math/bits.deBruijn64tab", laid_math_bits_deBruijn64tab), ("internal/strconv.uint64pow10", laid_internal_strconv_uint64pow10), ("unicode/utf8.acceptRanges", laid_unicode_utf8_acceptRanges), ("unicode/utf8.first", laid_unicode_utf8_first)] }
def FnExactFormatEntrySaid : Prop := fnExactFormatEntryRow.holds Tryd.pinned (OpenSpec.ofChange fnExactFormatEntrySpec)

/-- ITS FALSE NEIGHBOUR: 'it returns false'. Refute it at one input. -/
def fnExactFormatEntryWrong : ChangeSpec := { name := "fnExactFormatEntry", fn := fun _ => fun
  | [d1, d2] => { results := [.lit (.bool false)], args := [d1, d2] }
  | _ => none }
def FnExactFormatEntryWrongFalsely : Prop := fnExactFormatEntryRow.holds Tryd.pinned (OpenSpec.ofChange fnExactFormatEntryWrong)

/-- 'laws.FnExactReverseEntry': WHATEVER THE INPUT: true; the input reads as it did. -/
def fnExactReverseEntrySpec : ChangeSpec := { name := "fnExactReverseEntry", fn := fun _ => fun
  | [d1, d2, d3] => { results := [.lit (.bool true)], args := [d1, d2, d3] }
  | _ => none }
def fnExactReverseEntryRow : OpenClaim := { program := "ytccdjchaaeligaadoor", sum := "ccf70929f663cb09a50bea71abb5199cfea249690d10ca1866cd9afd2b8c2795", func := "loop.example/g00902/laws.FnExactReverseEntry", spec := "fnExactReverseEntry", inPlace := ["internal/bytealg.IndexByteString", "internal/bytealg.IndexString"], unfollowed := true, recurses := true, named := ["unicode/utf8.first", "unicode/utf8.acceptRanges", "internal/strconv.uint64pow10", "math/bits.deBruijn32tab", "math/bits.deBruijn64tab", "internal/bytealg.MaxLen"], apart := false, laid := [("math/bits.deBruijn32tab", laid_math_bits_deBruijn32tab), ("math/bits.deBruijn64tab", laid_math_bits_deBruijn64tab), ("internal/strconv.uint64pow10", laid_internal_strconv_uint64pow10), ("unicode/utf8.acceptRanges", laid_unicode_utf8_acceptRanges), ("unicode/utf8.first", laid_unicode_utf8_first)] }
def FnExactReverseEntrySaid : Prop := fnExactReverseEntryRow.holds Tryd.pinned (OpenSpec.ofChange fnExactReverseEntrySpec)

/-- ITS FALSE NEIGHBOUR: 'it returns false'. Refute it at one input. -/
def fnExactReverseEntryWrong : ChangeSpec := { name := "fnExactReverseEntry", fn := fun _ => fun
  | [d1, d2, d3] => { results := [.lit (.bool false)], args := [d1, d2, d3] }
  | _ => none }
def FnExactReverseEntryWrongFalsely : Prop := fnExactReverseEntryRow.holds Tryd.pinned (OpenSpec.ofChange fnExactReverseEntryWrong)

/- THE SECOND FORM. 'bulk': how many values and letters a reading holds, each counted each time it is reached (what is shared counts as often as it is met; a slice's spare places count too). A statement '..UptoSaid' is the law's where the arguments, and the package variables that the reading takes, are together of bulk at most 1048576: NARROWER than '..Said'. Prove '..Said' where nothing that the law and all that it calls make is longer than what came in: it says more and counts as full. Else prove '..UptoSaid'. A law counts once. -/
mutual
def uptoBulk {H : Type} : DataW H → Nat
  | .lit (.string bytes) => bytes.length + 1
  | .lit _ => 1
  | .nil => 1
  | .ptr d => uptoBulk d + 1
  | .slice elems spare => uptoBulkAll elems + uptoBulkAll spare + 1
  | .agg parts => uptoBulkAll parts + 1
  | .iface _ d => uptoBulk d + 1
  | .map entries => uptoBulkEntries entries + 1
  | .held _ => 1
def uptoBulkAll {H : Type} : List (DataW H) → Nat
  | [] => 0
  | d :: r => uptoBulk d + uptoBulkAll r
def uptoBulkEntries {H : Type} : List (Lit × DataW H) → Nat
  | [] => 0
  | x :: r => uptoBulkEntry x + uptoBulkEntries r
def uptoBulkEntry {H : Type} : Lit × DataW H → Nat
  | (.string bytes, d) => bytes.length + uptoBulk d + 1
  | (_, d) => uptoBulk d + 1
 end
def uptoSmall : (H : Type) → List (DataW H) → Bool := fun _ ds => decide (uptoBulkAll ds ≤ 1048576)
def OpenSpec.upto (s : _root_.Go.ChangeSpec) : _root_.Go.OpenSpec := { _root_.Go.OpenSpec.ofChange s with cond := some uptoSmall }

/-- 'laws.FnExactIsValidLedger', WHERE WHAT IT READS IS OF BULK AT MOST 1048576: true; the input reads as it did. -/
def fnExactIsValidLedgerUptoRow : OpenClaim := { program := "ytccdjchaaeligaadoor", sum := "ccf70929f663cb09a50bea71abb5199cfea249690d10ca1866cd9afd2b8c2795", func := "loop.example/g00902/laws.FnExactIsValidLedger", spec := "fnExactIsValidLedger", inPlace := ["internal/bytealg.IndexByteString", "internal/bytealg.IndexString"], unfollowed := true, recurses := true, named := ["unicode/utf8.first", "unicode/utf8.acceptRanges", "internal/bytealg.MaxLen"], apart := false, laid := [("unicode/utf8.acceptRanges", laid_unicode_utf8_acceptRanges), ("unicode/utf8.first", laid_unicode_utf8_first)], narrowed := true }
def FnExactIsValidLedgerUptoSaid : Prop := fnExactIsValidLedgerUptoRow.holds Tryd.pinned (OpenSpec.upto fnExactIsValidLedgerSpec)

/-- 'laws.FnExactBalanceOf', WHERE WHAT IT READS IS OF BULK AT MOST 1048576: true; the input reads as it did. -/
def fnExactBalanceOfUptoRow : OpenClaim := { program := "ytccdjchaaeligaadoor", sum := "ccf70929f663cb09a50bea71abb5199cfea249690d10ca1866cd9afd2b8c2795", func := "loop.example/g00902/laws.FnExactBalanceOf", spec := "fnExactBalanceOf", inPlace := ["internal/bytealg.IndexByteString", "internal/bytealg.IndexString"], unfollowed := true, recurses := true, named := ["unicode/utf8.first", "unicode/utf8.acceptRanges", "internal/bytealg.MaxLen"], apart := false, laid := [("unicode/utf8.acceptRanges", laid_unicode_utf8_acceptRanges), ("unicode/utf8.first", laid_unicode_utf8_first)], narrowed := true }
def FnExactBalanceOfUptoSaid : Prop := fnExactBalanceOfUptoRow.holds Tryd.pinned (OpenSpec.upto fnExactBalanceOfSpec)

/-- 'laws.FnExactResultOf', WHERE WHAT IT READS IS OF BULK AT MOST 1048576: true; the input reads as it did. -/
def fnExactResultOfUptoRow : OpenClaim := { program := "ytccdjchaaeligaadoor", sum := "ccf70929f663cb09a50bea71abb5199cfea249690d10ca1866cd9afd2b8c2795", func := "loop.example/g00902/laws.FnExactResultOf", spec := "fnExactResultOf", inPlace := ["internal/bytealg.IndexByteString", "internal/bytealg.IndexString"], unfollowed := true, recurses := true, named := ["unicode/utf8.first", "unicode/utf8.acceptRanges", "internal/bytealg.MaxLen"], apart := false, laid := [("unicode/utf8.acceptRanges", laid_unicode_utf8_acceptRanges), ("unicode/utf8.first", laid_unicode_utf8_first)], narrowed := true }
def FnExactResultOfUptoSaid : Prop := fnExactResultOfUptoRow.holds Tryd.pinned (OpenSpec.upto fnExactResultOfSpec)

/-- 'laws.FnClosing', WHERE WHAT IT READS IS OF BULK AT MOST 1048576: true; the input reads as it did. -/
def fnClosingUptoRow : OpenClaim := { program := "ytccdjchaaeligaadoor", sum := "ccf70929f663cb09a50bea71abb5199cfea249690d10ca1866cd9afd2b8c2795", func := "loop.example/g00902/laws.FnClosing", spec := "fnClosing", inPlace := ["internal/bytealg.IndexByteString", "internal/bytealg.IndexString"], unfollowed := true, recurses := true, named := ["unicode/utf8.first", "unicode/utf8.acceptRanges", "internal/bytealg.MaxLen"], apart := false, laid := [("unicode/utf8.acceptRanges", laid_unicode_utf8_acceptRanges), ("unicode/utf8.first", laid_unicode_utf8_first)], narrowed := true }
def FnClosingUptoSaid : Prop := fnClosingUptoRow.holds Tryd.pinned (OpenSpec.upto fnClosingSpec)

/-- 'laws.FnExactAccountStatement', WHERE WHAT IT READS IS OF BULK AT MOST 1048576: true; the input reads as it did. -/
def fnExactAccountStatementUptoRow : OpenClaim := { program := "ytccdjchaaeligaadoor", sum := "ccf70929f663cb09a50bea71abb5199cfea249690d10ca1866cd9afd2b8c2795", func := "loop.example/g00902/laws.FnExactAccountStatement", spec := "fnExactAccountStatement", inPlace := ["internal/bytealg.IndexByteString", "internal/bytealg.IndexString"], unfollowed := true, recurses := true, named := ["unicode/utf8.first", "unicode/utf8.acceptRanges", "internal/bytealg.MaxLen"], apart := false, laid := [("unicode/utf8.acceptRanges", laid_unicode_utf8_acceptRanges), ("unicode/utf8.first", laid_unicode_utf8_first)], narrowed := true }
def FnExactAccountStatementUptoSaid : Prop := fnExactAccountStatementUptoRow.holds Tryd.pinned (OpenSpec.upto fnExactAccountStatementSpec)

/-- 'laws.FnExactTrialBalance', WHERE WHAT IT READS IS OF BULK AT MOST 1048576: true; the input reads as it did. -/
def fnExactTrialBalanceUptoRow : OpenClaim := { program := "ytccdjchaaeligaadoor", sum := "ccf70929f663cb09a50bea71abb5199cfea249690d10ca1866cd9afd2b8c2795", func := "loop.example/g00902/laws.FnExactTrialBalance", spec := "fnExactTrialBalance", inPlace := ["internal/bytealg.IndexByteString", "internal/bytealg.IndexString"], unfollowed := true, recurses := true, named := ["unicode/utf8.first", "unicode/utf8.acceptRanges", "internal/bytealg.MaxLen"], apart := false, laid := [("unicode/utf8.acceptRanges", laid_unicode_utf8_acceptRanges), ("unicode/utf8.first", laid_unicode_utf8_first)], narrowed := true }
def FnExactTrialBalanceUptoSaid : Prop := fnExactTrialBalanceUptoRow.holds Tryd.pinned (OpenSpec.upto fnExactTrialBalanceSpec)

/-- 'laws.FnExactPostEntry', WHERE WHAT IT READS IS OF BULK AT MOST 1048576: true; the input reads as it did. -/
def fnExactPostEntryUptoRow : OpenClaim := { program := "ytccdjchaaeligaadoor", sum := "ccf70929f663cb09a50bea71abb5199cfea249690d10ca1866cd9afd2b8c2795", func := "loop.example/g00902/laws.FnExactPostEntry", spec := "fnExactPostEntry", inPlace := ["internal/bytealg.IndexByteString", "internal/bytealg.IndexString"], unfollowed := true, recurses := true, named := ["unicode/utf8.first", "unicode/utf8.acceptRanges", "internal/bytealg.MaxLen"], apart := false, laid := [("unicode/utf8.acceptRanges", laid_unicode_utf8_acceptRanges), ("unicode/utf8.first", laid_unicode_utf8_first)], narrowed := true }
def FnExactPostEntryUptoSaid : Prop := fnExactPostEntryUptoRow.holds Tryd.pinned (OpenSpec.upto fnExactPostEntrySpec)

/-- 'laws.FnExactCloseAccounts', WHERE WHAT IT READS IS OF BULK AT MOST 1048576: true; the input reads as it did. -/
def fnExactCloseAccountsUptoRow : OpenClaim := { program := "ytccdjchaaeligaadoor", sum := "ccf70929f663cb09a50bea71abb5199cfea249690d10ca1866cd9afd2b8c2795", func := "loop.example/g00902/laws.FnExactCloseAccounts", spec := "fnExactCloseAccounts", inPlace := ["internal/bytealg.IndexByteString", "internal/bytealg.IndexString"], unfollowed := true, recurses := true, named := ["unicode/utf8.first", "unicode/utf8.acceptRanges", "internal/bytealg.MaxLen"], apart := false, laid := [("unicode/utf8.acceptRanges", laid_unicode_utf8_acceptRanges), ("unicode/utf8.first", laid_unicode_utf8_first)], narrowed := true }
def FnExactCloseAccountsUptoSaid : Prop := fnExactCloseAccountsUptoRow.holds Tryd.pinned (OpenSpec.upto fnExactCloseAccountsSpec)

/-- 'laws.FnLedger', WHERE WHAT IT READS IS OF BULK AT MOST 1048576: true; the input reads as it did. -/
def fnLedgerUptoRow : OpenClaim := { program := "ytccdjchaaeligaadoor", sum := "ccf70929f663cb09a50bea71abb5199cfea249690d10ca1866cd9afd2b8c2795", func := "loop.example/g00902/laws.FnLedger", spec := "fnLedger", inPlace := ["internal/bytealg.IndexByteString", "internal/bytealg.IndexString"], unfollowed := true, recurses := true, named := ["unicode/utf8.first", "unicode/utf8.acceptRanges", "internal/strconv.uint64pow10", "math/bits.deBruijn32tab", "math/bits.deBruijn64tab", "internal/bytealg.MaxLen"], apart := false, laid := [("math/bits.deBruijn32tab", laid_math_bits_deBruijn32tab), ("math/bits.deBruijn64tab", laid_math_bits_deBruijn64tab), ("internal/strconv.uint64pow10", laid_internal_strconv_uint64pow10), ("unicode/utf8.acceptRanges", laid_unicode_utf8_acceptRanges), ("unicode/utf8.first", laid_unicode_utf8_first)], narrowed := true }
def FnLedgerUptoSaid : Prop := fnLedgerUptoRow.holds Tryd.pinned (OpenSpec.upto fnLedgerSpec)

/-- 'laws.FnExactFormatEntry', WHERE WHAT IT READS IS OF BULK AT MOST 1048576: true; the input reads as it did. -/
def fnExactFormatEntryUptoRow : OpenClaim := { program := "ytccdjchaaeligaadoor", sum := "ccf70929f663cb09a50bea71abb5199cfea249690d10ca1866cd9afd2b8c2795", func := "loop.example/g00902/laws.FnExactFormatEntry", spec := "fnExactFormatEntry", inPlace := ["internal/bytealg.IndexByteString", "internal/bytealg.IndexString"], unfollowed := true, recurses := true, named := ["unicode/utf8.first", "unicode/utf8.acceptRanges", "internal/strconv.uint64pow10", "math/bits.deBruijn32tab", "math/bits.deBruijn64tab", "internal/bytealg.MaxLen"], apart := false, laid := [("math/bits.deBruijn32tab", laid_math_bits_deBruijn32tab), ("math/bits.deBruijn64tab", laid_math_bits_deBruijn64tab), ("internal/strconv.uint64pow10", laid_internal_strconv_uint64pow10), ("unicode/utf8.acceptRanges", laid_unicode_utf8_acceptRanges), ("unicode/utf8.first", laid_unicode_utf8_first)], narrowed := true }
def FnExactFormatEntryUptoSaid : Prop := fnExactFormatEntryUptoRow.holds Tryd.pinned (OpenSpec.upto fnExactFormatEntrySpec)

/-- 'laws.FnExactReverseEntry', WHERE WHAT IT READS IS OF BULK AT MOST 1048576: true; the input reads as it did. -/
def fnExactReverseEntryUptoRow : OpenClaim := { program := "ytccdjchaaeligaadoor", sum := "ccf70929f663cb09a50bea71abb5199cfea249690d10ca1866cd9afd2b8c2795", func := "loop.example/g00902/laws.FnExactReverseEntry", spec := "fnExactReverseEntry", inPlace := ["internal/bytealg.IndexByteString", "internal/bytealg.IndexString"], unfollowed := true, recurses := true, named := ["unicode/utf8.first", "unicode/utf8.acceptRanges", "internal/strconv.uint64pow10", "math/bits.deBruijn32tab", "math/bits.deBruijn64tab", "internal/bytealg.MaxLen"], apart := false, laid := [("math/bits.deBruijn32tab", laid_math_bits_deBruijn32tab), ("math/bits.deBruijn64tab", laid_math_bits_deBruijn64tab), ("internal/strconv.uint64pow10", laid_internal_strconv_uint64pow10), ("unicode/utf8.acceptRanges", laid_unicode_utf8_acceptRanges), ("unicode/utf8.first", laid_unicode_utf8_first)], narrowed := true }
def FnExactReverseEntryUptoSaid : Prop := fnExactReverseEntryUptoRow.holds Tryd.pinned (OpenSpec.upto fnExactReverseEntrySpec)

end Rows
end Go.Proofs.YtccdjchaaeligaaDoor
