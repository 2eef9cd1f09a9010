/-
  NARROWER THAN 'FOR EVERY INPUT', by the rows' own cells (each row's printed sentence says how): FnExactPairHash: laid · FnExactLeafHash: laid · FnExactVerifyLeaf: laid · FnExactTreeRoot: laid · FnExactFirstChanged: laid · FnExactVerifySubset: laid · FnExactEvidenceRoot: laid · FnExactProveLeaf: laid · FnExactProveSubset: laid · FnChanged: laid · FnEvidence: laid.
  DERIVED. THE GIVEN ROWS OF THIS SEAT. 11 by the template 'for every input the law returns true; each argument reads behind the call as it read before'; 0 by the template 'total and deterministic' (their statements: YtnfmlglhoboooaaDoorTotals.lean).
  GIVEN WITH THE SEED: the statements are not yours to turn. If you find one false, say at which input.
  Laid BY PROGRAM, IN A SANDBOX (cutbox-rows.mjs): the forced cells as the released guide's own fill.sh prints them over the translation c40c6f50ab7124d0… (all of the seat's roots in one cut). By AI agents, Wed Nov 11 2026. No macro, syntax, notation, axiom, sorry.
-/
import Derived.Test.YtnfmlglhoboooaaDoorChecked
import GoSem.Claim
import GoSem.ClaimJoined
import GoSem.ClaimMapViews
import Derived.JoinedTies
import Derived.KernelRfl
namespace Go.Proofs.YtnfmlglhoboooaaDoor
/- THE CELL 'sum', in the pinned program and in every row, IS THE sha256 OF THE DUMP (.gsa) THAT YtnfmlglhoboooaaDoorProg.lean LOADS. Nothing in Lean hashes anything: it is a label: what it is worth is what the hold of that sum in a sandbox is worth. -/
noncomputable def Tryd.pinned : Pinned := { name := "ytnfmlglhoboooaadoor", sum := "c40c6f50ab7124d0689f6578a7d28d1b41cba271cc5ed46318abeacabc7f2f44", checked := Tryd.checked }
namespace Rows
def none {H : Type} : Left H := { results := [], args := [] }

/- WHAT THE LISTED PACKAGE-LEVEL VARIABLES READ AS WHEN THE CALL BEGINS. Each datum BY PROGRAM (the guide's laid-datum.mjs) off the statement by which the dump's own 'gosem.cut.vars' lays the variable. In a bare row this is a premise. The card (YtnfmlglhoboooaaDoorCards.lean) ties it to the program's text. -/
def laid_math_bits_deBruijn32tab {H : Type} : DataW H := .agg [.lit (.int .u8 0), .lit (.int .u8 1), .lit (.int .u8 28), .lit (.int .u8 2), .lit (.int .u8 29), .lit (.int .u8 14), .lit (.int .u8 24), .lit (.int .u8 3), .lit (.int .u8 30), .lit (.int .u8 22), .lit (.int .u8 20), .lit (.int .u8 15), .lit (.int .u8 25), .lit (.int .u8 17), .lit (.int .u8 4), .lit (.int .u8 8), .lit (.int .u8 31), .lit (.int .u8 27), .lit (.int .u8 13), .lit (.int .u8 23), .lit (.int .u8 21), .lit (.int .u8 19), .lit (.int .u8 16), .lit (.int .u8 7), .lit (.int .u8 26), .lit (.int .u8 12), .lit (.int .u8 18), .lit (.int .u8 6), .lit (.int .u8 11), .lit (.int .u8 5), .lit (.int .u8 10), .lit (.int .u8 9)]
def laid_math_bits_deBruijn64tab {H : Type} : DataW H := .agg [.lit (.int .u8 0), .lit (.int .u8 1), .lit (.int .u8 56), .lit (.int .u8 2), .lit (.int .u8 57), .lit (.int .u8 49), .lit (.int .u8 28), .lit (.int .u8 3), .lit (.int .u8 61), .lit (.int .u8 58), .lit (.int .u8 42), .lit (.int .u8 50), .lit (.int .u8 38), .lit (.int .u8 29), .lit (.int .u8 17), .lit (.int .u8 4), .lit (.int .u8 62), .lit (.int .u8 47), .lit (.int .u8 59), .lit (.int .u8 36), .lit (.int .u8 45), .lit (.int .u8 43), .lit (.int .u8 51), .lit (.int .u8 22), .lit (.int .u8 53), .lit (.int .u8 39), .lit (.int .u8 33), .lit (.int .u8 30), .lit (.int .u8 24), .lit (.int .u8 18), .lit (.int .u8 12), .lit (.int .u8 5), .lit (.int .u8 63), .lit (.int .u8 55), .lit (.int .u8 48), .lit (.int .u8 27), .lit (.int .u8 60), .lit (.int .u8 41), .lit (.int .u8 37), .lit (.int .u8 16), .lit (.int .u8 46), .lit (.int .u8 35), .lit (.int .u8 44), .lit (.int .u8 21), .lit (.int .u8 52), .lit (.int .u8 32), .lit (.int .u8 23), .lit (.int .u8 11), .lit (.int .u8 54), .lit (.int .u8 26), .lit (.int .u8 40), .lit (.int .u8 15), .lit (.int .u8 34), .lit (.int .u8 20), .lit (.int .u8 31), .lit (.int .u8 10), .lit (.int .u8 25), .lit (.int .u8 14), .lit (.int .u8 19), .lit (.int .u8 9), .lit (.int .u8 13), .lit (.int .u8 8), .lit (.int .u8 7), .lit (.int .u8 6)]
def laid_internal_strconv_uint64pow10 {H : Type} : DataW H := .agg [.lit (.int .u64 1), .lit (.int .u64 10), .lit (.int .u64 100), .lit (.int .u64 1000), .lit (.int .u64 10000), .lit (.int .u64 100000), .lit (.int .u64 1000000), .lit (.int .u64 10000000), .lit (.int .u64 100000000), .lit (.int .u64 1000000000), .lit (.int .u64 10000000000), .lit (.int .u64 100000000000), .lit (.int .u64 1000000000000), .lit (.int .u64 10000000000000), .lit (.int .u64 100000000000000), .lit (.int .u64 1000000000000000), .lit (.int .u64 10000000000000000), .lit (.int .u64 100000000000000000), .lit (.int .u64 1000000000000000000), .lit (.int .u64 10000000000000000000)]

/-- 'laws.FnExactPairHash': WHATEVER THE INPUT: true; the input reads as it did. -/
def fnExactPairHashSpec : ChangeSpec := { name := "fnExactPairHash", fn := fun _ => fun
  | [d1, d2] => { results := [.lit (.bool true)], args := [d1, d2] }
  | _ => none }
def fnExactPairHashRow : OpenClaim := { program := "ytnfmlglhoboooaadoor", sum := "c40c6f50ab7124d0689f6578a7d28d1b41cba271cc5ed46318abeacabc7f2f44", func := "loop.example/g00902/laws.FnExactPairHash", spec := "fnExactPairHash", recurses := true, named := ["internal/strconv.uint64pow10", "math/bits.deBruijn32tab", "math/bits.deBruijn64tab"], apart := false, laid := [("math/bits.deBruijn32tab", laid_math_bits_deBruijn32tab), ("math/bits.deBruijn64tab", laid_math_bits_deBruijn64tab), ("internal/strconv.uint64pow10", laid_internal_strconv_uint64pow10)] }
def FnExactPairHashSaid : Prop := fnExactPairHashRow.holds Tryd.pinned (OpenSpec.ofChange fnExactPairHashSpec)

/-- ITS FALSE NEIGHBOUR: 'it returns false'. Refute it at one input. -/
def fnExactPairHashWrong : ChangeSpec := { name := "fnExactPairHash", fn := fun _ => fun
  | [d1, d2] => { results := [.lit (.bool false)], args := [d1, d2] }
  | _ => none }
def FnExactPairHashWrongFalsely : Prop := fnExactPairHashRow.holds Tryd.pinned (OpenSpec.ofChange fnExactPairHashWrong)

/-- 'laws.FnExactLeafHash': WHATEVER THE INPUT: true; the input reads as it did. -/
def fnExactLeafHashSpec : ChangeSpec := { name := "fnExactLeafHash", fn := fun _ => fun
  | [d] => { results := [.lit (.bool true)], args := [d] }
  | _ => none }
def fnExactLeafHashRow : OpenClaim := { program := "ytnfmlglhoboooaadoor", sum := "c40c6f50ab7124d0689f6578a7d28d1b41cba271cc5ed46318abeacabc7f2f44", func := "loop.example/g00902/laws.FnExactLeafHash", spec := "fnExactLeafHash", recurses := true, named := ["internal/strconv.uint64pow10", "math/bits.deBruijn32tab", "math/bits.deBruijn64tab"], apart := false, laid := [("math/bits.deBruijn32tab", laid_math_bits_deBruijn32tab), ("math/bits.deBruijn64tab", laid_math_bits_deBruijn64tab), ("internal/strconv.uint64pow10", laid_internal_strconv_uint64pow10)] }
def FnExactLeafHashSaid : Prop := fnExactLeafHashRow.holds Tryd.pinned (OpenSpec.ofChange fnExactLeafHashSpec)

/-- ITS FALSE NEIGHBOUR: 'it returns false'. Refute it at one input. -/
def fnExactLeafHashWrong : ChangeSpec := { name := "fnExactLeafHash", fn := fun _ => fun
  | [d] => { results := [.lit (.bool false)], args := [d] }
  | _ => none }
def FnExactLeafHashWrongFalsely : Prop := fnExactLeafHashRow.holds Tryd.pinned (OpenSpec.ofChange fnExactLeafHashWrong)

/-- 'laws.FnExactVerifyLeaf': WHATEVER THE INPUT: true; the input reads as it did. -/
def fnExactVerifyLeafSpec : ChangeSpec := { name := "fnExactVerifyLeaf", fn := fun _ => fun
  | [d1, d2, d3] => { results := [.lit (.bool true)], args := [d1, d2, d3] }
  | _ => none }
def fnExactVerifyLeafRow : OpenClaim := { program := "ytnfmlglhoboooaadoor", sum := "c40c6f50ab7124d0689f6578a7d28d1b41cba271cc5ed46318abeacabc7f2f44", func := "loop.example/g00902/laws.FnExactVerifyLeaf", spec := "fnExactVerifyLeaf", recurses := true, named := ["internal/strconv.uint64pow10", "math/bits.deBruijn32tab", "math/bits.deBruijn64tab"], apart := false, laid := [("math/bits.deBruijn32tab", laid_math_bits_deBruijn32tab), ("math/bits.deBruijn64tab", laid_math_bits_deBruijn64tab), ("internal/strconv.uint64pow10", laid_internal_strconv_uint64pow10)] }
def FnExactVerifyLeafSaid : Prop := fnExactVerifyLeafRow.holds Tryd.pinned (OpenSpec.ofChange fnExactVerifyLeafSpec)

/-- ITS FALSE NEIGHBOUR: 'it returns false'. Refute it at one input. -/
def fnExactVerifyLeafWrong : ChangeSpec := { name := "fnExactVerifyLeaf", fn := fun _ => fun
  | [d1, d2, d3] => { results := [.lit (.bool false)], args := [d1, d2, d3] }
  | _ => none }
def FnExactVerifyLeafWrongFalsely : Prop := fnExactVerifyLeafRow.holds Tryd.pinned (OpenSpec.ofChange fnExactVerifyLeafWrong)

/-- 'laws.FnExactTreeRoot': WHATEVER THE INPUT: true; the input reads as it did. -/
def fnExactTreeRootSpec : ChangeSpec := { name := "fnExactTreeRoot", fn := fun _ => fun
  | [d] => { results := [.lit (.bool true)], args := [d] }
  | _ => none }
def fnExactTreeRootRow : OpenClaim := { program := "ytnfmlglhoboooaadoor", sum := "c40c6f50ab7124d0689f6578a7d28d1b41cba271cc5ed46318abeacabc7f2f44", func := "loop.example/g00902/laws.FnExactTreeRoot", spec := "fnExactTreeRoot", unfollowed := true, recurses := true, named := ["internal/strconv.uint64pow10", "math/bits.deBruijn32tab", "math/bits.deBruijn64tab"], apart := false, laid := [("math/bits.deBruijn32tab", laid_math_bits_deBruijn32tab), ("math/bits.deBruijn64tab", laid_math_bits_deBruijn64tab), ("internal/strconv.uint64pow10", laid_internal_strconv_uint64pow10)] }
def FnExactTreeRootSaid : Prop := fnExactTreeRootRow.holds Tryd.pinned (OpenSpec.ofChange fnExactTreeRootSpec)

/-- ITS FALSE NEIGHBOUR: 'it returns false'. Refute it at one input. -/
def fnExactTreeRootWrong : ChangeSpec := { name := "fnExactTreeRoot", fn := fun _ => fun
  | [d] => { results := [.lit (.bool false)], args := [d] }
  | _ => none }
def FnExactTreeRootWrongFalsely : Prop := fnExactTreeRootRow.holds Tryd.pinned (OpenSpec.ofChange fnExactTreeRootWrong)

/-- 'laws.FnExactFirstChanged': WHATEVER THE INPUT: true; the input reads as it did. -/
def fnExactFirstChangedSpec : ChangeSpec := { name := "fnExactFirstChanged", fn := fun _ => fun
  | [d1, d2] => { results := [.lit (.bool true)], args := [d1, d2] }
  | _ => none }
def fnExactFirstChangedRow : OpenClaim := { program := "ytnfmlglhoboooaadoor", sum := "c40c6f50ab7124d0689f6578a7d28d1b41cba271cc5ed46318abeacabc7f2f44", func := "loop.example/g00902/laws.FnExactFirstChanged", spec := "fnExactFirstChanged", unfollowed := true, recurses := true, named := ["internal/strconv.uint64pow10", "math/bits.deBruijn32tab", "math/bits.deBruijn64tab"], apart := false, laid := [("math/bits.deBruijn32tab", laid_math_bits_deBruijn32tab), ("math/bits.deBruijn64tab", laid_math_bits_deBruijn64tab), ("internal/strconv.uint64pow10", laid_internal_strconv_uint64pow10)] }
def FnExactFirstChangedSaid : Prop := fnExactFirstChangedRow.holds Tryd.pinned (OpenSpec.ofChange fnExactFirstChangedSpec)

/-- ITS FALSE NEIGHBOUR: 'it returns false'. Refute it at one input. -/
def fnExactFirstChangedWrong : ChangeSpec := { name := "fnExactFirstChanged", fn := fun _ => fun
  | [d1, d2] => { results := [.lit (.bool false)], args := [d1, d2] }
  | _ => none }
def FnExactFirstChangedWrongFalsely : Prop := fnExactFirstChangedRow.holds Tryd.pinned (OpenSpec.ofChange fnExactFirstChangedWrong)

/-- 'laws.FnExactVerifySubset': WHATEVER THE INPUT: true; the input reads as it did. -/
def fnExactVerifySubsetSpec : ChangeSpec := { name := "fnExactVerifySubset", fn := fun _ => fun
  | [d1, d2, d3, d4, d5] => { results := [.lit (.bool true)], args := [d1, d2, d3, d4, d5] }
  | _ => none }
def fnExactVerifySubsetRow : OpenClaim := { program := "ytnfmlglhoboooaadoor", sum := "c40c6f50ab7124d0689f6578a7d28d1b41cba271cc5ed46318abeacabc7f2f44", func := "loop.example/g00902/laws.FnExactVerifySubset", spec := "fnExactVerifySubset", unfollowed := true, recurses := true, named := ["internal/strconv.uint64pow10", "math/bits.deBruijn32tab", "math/bits.deBruijn64tab"], apart := false, laid := [("math/bits.deBruijn32tab", laid_math_bits_deBruijn32tab), ("math/bits.deBruijn64tab", laid_math_bits_deBruijn64tab), ("internal/strconv.uint64pow10", laid_internal_strconv_uint64pow10)] }
def FnExactVerifySubsetSaid : Prop := fnExactVerifySubsetRow.holds Tryd.pinned (OpenSpec.ofChange fnExactVerifySubsetSpec)

/-- ITS FALSE NEIGHBOUR: 'it returns false'. Refute it at one input. -/
def fnExactVerifySubsetWrong : ChangeSpec := { name := "fnExactVerifySubset", fn := fun _ => fun
  | [d1, d2, d3, d4, d5] => { results := [.lit (.bool false)], args := [d1, d2, d3, d4, d5] }
  | _ => none }
def FnExactVerifySubsetWrongFalsely : Prop := fnExactVerifySubsetRow.holds Tryd.pinned (OpenSpec.ofChange fnExactVerifySubsetWrong)

/-- 'laws.FnExactEvidenceRoot': WHATEVER THE INPUT: true; the input reads as it did. -/
def fnExactEvidenceRootSpec : ChangeSpec := { name := "fnExactEvidenceRoot", fn := fun _ => fun
  | [d] => { results := [.lit (.bool true)], args := [d] }
  | _ => none }
def fnExactEvidenceRootRow : OpenClaim := { program := "ytnfmlglhoboooaadoor", sum := "c40c6f50ab7124d0689f6578a7d28d1b41cba271cc5ed46318abeacabc7f2f44", func := "loop.example/g00902/laws.FnExactEvidenceRoot", spec := "fnExactEvidenceRoot", unfollowed := true, recurses := true, named := ["internal/strconv.uint64pow10", "math/bits.deBruijn32tab", "math/bits.deBruijn64tab"], apart := false, laid := [("math/bits.deBruijn32tab", laid_math_bits_deBruijn32tab), ("math/bits.deBruijn64tab", laid_math_bits_deBruijn64tab), ("internal/strconv.uint64pow10", laid_internal_strconv_uint64pow10)] }
def FnExactEvidenceRootSaid : Prop := fnExactEvidenceRootRow.holds Tryd.pinned (OpenSpec.ofChange fnExactEvidenceRootSpec)

/-- ITS FALSE NEIGHBOUR: 'it returns false'. Refute it at one input. -/
def fnExactEvidenceRootWrong : ChangeSpec := { name := "fnExactEvidenceRoot", fn := fun _ => fun
  | [d] => { results := [.lit (.bool false)], args := [d] }
  | _ => none }
def FnExactEvidenceRootWrongFalsely : Prop := fnExactEvidenceRootRow.holds Tryd.pinned (OpenSpec.ofChange fnExactEvidenceRootWrong)

/-- 'laws.FnExactProveLeaf': WHATEVER THE INPUT: true; the input reads as it did. -/
def fnExactProveLeafSpec : ChangeSpec := { name := "fnExactProveLeaf", fn := fun _ => fun
  | [d1, d2] => { results := [.lit (.bool true)], args := [d1, d2] }
  | _ => none }
def fnExactProveLeafRow : OpenClaim := { program := "ytnfmlglhoboooaadoor", sum := "c40c6f50ab7124d0689f6578a7d28d1b41cba271cc5ed46318abeacabc7f2f44", func := "loop.example/g00902/laws.FnExactProveLeaf", spec := "fnExactProveLeaf", unfollowed := true, recurses := true, named := ["internal/strconv.uint64pow10", "math/bits.deBruijn32tab", "math/bits.deBruijn64tab"], apart := false, laid := [("math/bits.deBruijn32tab", laid_math_bits_deBruijn32tab), ("math/bits.deBruijn64tab", laid_math_bits_deBruijn64tab), ("internal/strconv.uint64pow10", laid_internal_strconv_uint64pow10)] }
def FnExactProveLeafSaid : Prop := fnExactProveLeafRow.holds Tryd.pinned (OpenSpec.ofChange fnExactProveLeafSpec)

/-- ITS FALSE NEIGHBOUR: 'it returns false'. Refute it at one input. -/
def fnExactProveLeafWrong : ChangeSpec := { name := "fnExactProveLeaf", fn := fun _ => fun
  | [d1, d2] => { results := [.lit (.bool false)], args := [d1, d2] }
  | _ => none }
def FnExactProveLeafWrongFalsely : Prop := fnExactProveLeafRow.holds Tryd.pinned (OpenSpec.ofChange fnExactProveLeafWrong)

/-- 'laws.FnExactProveSubset': WHATEVER THE INPUT: true; the input reads as it did. -/
def fnExactProveSubsetSpec : ChangeSpec := { name := "fnExactProveSubset", fn := fun _ => fun
  | [d1, d2] => { results := [.lit (.bool true)], args := [d1, d2] }
  | _ => none }
def fnExactProveSubsetRow : OpenClaim := { program := "ytnfmlglhoboooaadoor", sum := "c40c6f50ab7124d0689f6578a7d28d1b41cba271cc5ed46318abeacabc7f2f44", func := "loop.example/g00902/laws.FnExactProveSubset", spec := "fnExactProveSubset", unfollowed := true, recurses := true, named := ["internal/strconv.uint64pow10", "math/bits.deBruijn32tab", "math/bits.deBruijn64tab"], apart := false, laid := [("math/bits.deBruijn32tab", laid_math_bits_deBruijn32tab), ("math/bits.deBruijn64tab", laid_math_bits_deBruijn64tab), ("internal/strconv.uint64pow10", laid_internal_strconv_uint64pow10)] }
def FnExactProveSubsetSaid : Prop := fnExactProveSubsetRow.holds Tryd.pinned (OpenSpec.ofChange fnExactProveSubsetSpec)

/-- ITS FALSE NEIGHBOUR: 'it returns false'. Refute it at one input. -/
def fnExactProveSubsetWrong : ChangeSpec := { name := "fnExactProveSubset", fn := fun _ => fun
  | [d1, d2] => { results := [.lit (.bool false)], args := [d1, d2] }
  | _ => none }
def FnExactProveSubsetWrongFalsely : Prop := fnExactProveSubsetRow.holds Tryd.pinned (OpenSpec.ofChange fnExactProveSubsetWrong)

/-- 'laws.FnChanged': WHATEVER THE INPUT: true; the input reads as it did. -/
def fnChangedSpec : ChangeSpec := { name := "fnChanged", fn := fun _ => fun
  | [d] => { results := [.lit (.bool true)], args := [d] }
  | _ => none }
def fnChangedRow : OpenClaim := { program := "ytnfmlglhoboooaadoor", sum := "c40c6f50ab7124d0689f6578a7d28d1b41cba271cc5ed46318abeacabc7f2f44", func := "loop.example/g00902/laws.FnChanged", spec := "fnChanged", unfollowed := true, recurses := true, named := ["internal/strconv.uint64pow10", "math/bits.deBruijn32tab", "math/bits.deBruijn64tab"], apart := false, laid := [("math/bits.deBruijn32tab", laid_math_bits_deBruijn32tab), ("math/bits.deBruijn64tab", laid_math_bits_deBruijn64tab), ("internal/strconv.uint64pow10", laid_internal_strconv_uint64pow10)] }
def FnChangedSaid : Prop := fnChangedRow.holds Tryd.pinned (OpenSpec.ofChange fnChangedSpec)

/-- ITS FALSE NEIGHBOUR: 'it returns false'. Refute it at one input. -/
def fnChangedWrong : ChangeSpec := { name := "fnChanged", fn := fun _ => fun
  | [d] => { results := [.lit (.bool false)], args := [d] }
  | _ => none }
def FnChangedWrongFalsely : Prop := fnChangedRow.holds Tryd.pinned (OpenSpec.ofChange fnChangedWrong)

/-- 'laws.FnEvidence': WHATEVER THE INPUT: true; the input reads as it did. -/
def fnEvidenceSpec : ChangeSpec := { name := "fnEvidence", fn := fun _ => fun
  | [d] => { results := [.lit (.bool true)], args := [d] }
  | _ => none }
def fnEvidenceRow : OpenClaim := { program := "ytnfmlglhoboooaadoor", sum := "c40c6f50ab7124d0689f6578a7d28d1b41cba271cc5ed46318abeacabc7f2f44", func := "loop.example/g00902/laws.FnEvidence", spec := "fnEvidence", unfollowed := true, recurses := true, named := ["internal/strconv.uint64pow10", "math/bits.deBruijn32tab", "math/bits.deBruijn64tab"], apart := false, laid := [("math/bits.deBruijn32tab", laid_math_bits_deBruijn32tab), ("math/bits.deBruijn64tab", laid_math_bits_deBruijn64tab), ("internal/strconv.uint64pow10", laid_internal_strconv_uint64pow10)] }
def FnEvidenceSaid : Prop := fnEvidenceRow.holds Tryd.pinned (OpenSpec.ofChange fnEvidenceSpec)

/-- ITS FALSE NEIGHBOUR: 'it returns false'. Refute it at one input. -/
def fnEvidenceWrong : ChangeSpec := { name := "fnEvidence", fn := fun _ => fun
  | [d] => { results := [.lit (.bool false)], args := [d] }
  | _ => none }
def FnEvidenceWrongFalsely : Prop := fnEvidenceRow.holds Tryd.pinned (OpenSpec.ofChange fnEvidenceWrong)

/- THE SECOND FORM. 'bulk': how many values and letters a reading holds, each counted each time it is reached (what is shared counts as often as it is met; a slice's spare places count too). A statement '..UptoSaid' is the law's where the arguments, and the package variables that the reading takes, are together of bulk at most 1048576: NARROWER than '..Said'. Prove '..Said' where nothing that the law and all that it calls make is longer than what came in: it says more and counts as full. Else prove '..UptoSaid'. A law counts once. -/
mutual
def uptoBulk {H : Type} : DataW H → Nat
  | .lit (.string bytes) => bytes.length + 1
  | .lit _ => 1
  | .nil => 1
  | .ptr d => uptoBulk d + 1
  | .slice elems spare => uptoBulkAll elems + uptoBulkAll spare + 1
  | .agg parts => uptoBulkAll parts + 1
  | .iface _ d => uptoBulk d + 1
  | .map entries => uptoBulkEntries entries + 1
  | .held _ => 1
def uptoBulkAll {H : Type} : List (DataW H) → Nat
  | [] => 0
  | d :: r => uptoBulk d + uptoBulkAll r
def uptoBulkEntries {H : Type} : List (Lit × DataW H) → Nat
  | [] => 0
  | x :: r => uptoBulkEntry x + uptoBulkEntries r
def uptoBulkEntry {H : Type} : Lit × DataW H → Nat
  | (.string bytes, d) => bytes.length + uptoBulk d + 1
  | (_, d) => uptoBulk d + 1
 end
def uptoSmall : (H : Type) → List (DataW H) → Bool := fun _ ds => decide (uptoBulkAll ds ≤ 1048576)
def OpenSpec.upto (s : _root_.Go.ChangeSpec) : _root_.Go.OpenSpec := { _root_.Go.OpenSpec.ofChange s with cond := some uptoSmall }

/-- 'laws.FnExactPairHash', WHERE WHAT IT READS IS OF BULK AT MOST 1048576: true; the input reads as it did. -/
def fnExactPairHashUptoRow : OpenClaim := { program := "ytnfmlglhoboooaadoor", sum := "c40c6f50ab7124d0689f6578a7d28d1b41cba271cc5ed46318abeacabc7f2f44", func := "loop.example/g00902/laws.FnExactPairHash", spec := "fnExactPairHash", recurses := true, named := ["internal/strconv.uint64pow10", "math/bits.deBruijn32tab", "math/bits.deBruijn64tab"], apart := false, laid := [("math/bits.deBruijn32tab", laid_math_bits_deBruijn32tab), ("math/bits.deBruijn64tab", laid_math_bits_deBruijn64tab), ("internal/strconv.uint64pow10", laid_internal_strconv_uint64pow10)], narrowed := true }
def FnExactPairHashUptoSaid : Prop := fnExactPairHashUptoRow.holds Tryd.pinned (OpenSpec.upto fnExactPairHashSpec)

/-- 'laws.FnExactLeafHash', WHERE WHAT IT READS IS OF BULK AT MOST 1048576: true; the input reads as it did. -/
def fnExactLeafHashUptoRow : OpenClaim := { program := "ytnfmlglhoboooaadoor", sum := "c40c6f50ab7124d0689f6578a7d28d1b41cba271cc5ed46318abeacabc7f2f44", func := "loop.example/g00902/laws.FnExactLeafHash", spec := "fnExactLeafHash", recurses := true, named := ["internal/strconv.uint64pow10", "math/bits.deBruijn32tab", "math/bits.deBruijn64tab"], apart := false, laid := [("math/bits.deBruijn32tab", laid_math_bits_deBruijn32tab), ("math/bits.deBruijn64tab", laid_math_bits_deBruijn64tab), ("internal/strconv.uint64pow10", laid_internal_strconv_uint64pow10)], narrowed := true }
def FnExactLeafHashUptoSaid : Prop := fnExactLeafHashUptoRow.holds Tryd.pinned (OpenSpec.upto fnExactLeafHashSpec)

/-- 'laws.FnExactVerifyLeaf', WHERE WHAT IT READS IS OF BULK AT MOST 1048576: true; the input reads as it did. -/
def fnExactVerifyLeafUptoRow : OpenClaim := { program := "ytnfmlglhoboooaadoor", sum := "c40c6f50ab7124d0689f6578a7d28d1b41cba271cc5ed46318abeacabc7f2f44", func := "loop.example/g00902/laws.FnExactVerifyLeaf", spec := "fnExactVerifyLeaf", recurses := true, named := ["internal/strconv.uint64pow10", "math/bits.deBruijn32tab", "math/bits.deBruijn64tab"], apart := false, laid := [("math/bits.deBruijn32tab", laid_math_bits_deBruijn32tab), ("math/bits.deBruijn64tab", laid_math_bits_deBruijn64tab), ("internal/strconv.uint64pow10", laid_internal_strconv_uint64pow10)], narrowed := true }
def FnExactVerifyLeafUptoSaid : Prop := fnExactVerifyLeafUptoRow.holds Tryd.pinned (OpenSpec.upto fnExactVerifyLeafSpec)

/-- 'laws.FnExactTreeRoot', WHERE WHAT IT READS IS OF BULK AT MOST 1048576: true; the input reads as it did. -/
def fnExactTreeRootUptoRow : OpenClaim := { program := "ytnfmlglhoboooaadoor", sum := "c40c6f50ab7124d0689f6578a7d28d1b41cba271cc5ed46318abeacabc7f2f44", func := "loop.example/g00902/laws.FnExactTreeRoot", spec := "fnExactTreeRoot", unfollowed := true, recurses := true, named := ["internal/strconv.uint64pow10", "math/bits.deBruijn32tab", "math/bits.deBruijn64tab"], apart := false, laid := [("math/bits.deBruijn32tab", laid_math_bits_deBruijn32tab), ("math/bits.deBruijn64tab", laid_math_bits_deBruijn64tab), ("internal/strconv.uint64pow10", laid_internal_strconv_uint64pow10)], narrowed := true }
def FnExactTreeRootUptoSaid : Prop := fnExactTreeRootUptoRow.holds Tryd.pinned (OpenSpec.upto fnExactTreeRootSpec)

/-- 'laws.FnExactFirstChanged', WHERE WHAT IT READS IS OF BULK AT MOST 1048576: true; the input reads as it did. -/
def fnExactFirstChangedUptoRow : OpenClaim := { program := "ytnfmlglhoboooaadoor", sum := "c40c6f50ab7124d0689f6578a7d28d1b41cba271cc5ed46318abeacabc7f2f44", func := "loop.example/g00902/laws.FnExactFirstChanged", spec := "fnExactFirstChanged", unfollowed := true, recurses := true, named := ["internal/strconv.uint64pow10", "math/bits.deBruijn32tab", "math/bits.deBruijn64tab"], apart := false, laid := [("math/bits.deBruijn32tab", laid_math_bits_deBruijn32tab), ("math/bits.deBruijn64tab", laid_math_bits_deBruijn64tab), ("internal/strconv.uint64pow10", laid_internal_strconv_uint64pow10)], narrowed := true }
def FnExactFirstChangedUptoSaid : Prop := fnExactFirstChangedUptoRow.holds Tryd.pinned (OpenSpec.upto fnExactFirstChangedSpec)

/-- 'laws.FnExactVerifySubset', WHERE WHAT IT READS IS OF BULK AT MOST 1048576: true; the input reads as it did. -/
def fnExactVerifySubsetUptoRow : OpenClaim := { program := "ytnfmlglhoboooaadoor", sum := "c40c6f50ab7124d0689f6578a7d28d1b41cba271cc5ed46318abeacabc7f2f44", func := "loop.example/g00902/laws.FnExactVerifySubset", spec := "fnExactVerifySubset", unfollowed := true, recurses := true, named := ["internal/strconv.uint64pow10", "math/bits.deBruijn32tab", "math/bits.deBruijn64tab"], apart := false, laid := [("math/bits.deBruijn32tab", laid_math_bits_deBruijn32tab), ("math/bits.deBruijn64tab", laid_math_bits_deBruijn64tab), ("internal/strconv.uint64pow10", laid_internal_strconv_uint64pow10)], narrowed := true }
def FnExactVerifySubsetUptoSaid : Prop := fnExactVerifySubsetUptoRow.holds Tryd.pinned (OpenSpec.upto fnExactVerifySubsetSpec)

/-- 'laws.FnExactEvidenceRoot', WHERE WHAT IT READS IS OF BULK AT MOST 1048576: true; the input reads as it did. -/
def fnExactEvidenceRootUptoRow : OpenClaim := { program := "ytnfmlglhoboooaadoor", sum := "c40c6f50ab7124d0689f6578a7d28d1b41cba271cc5ed46318abeacabc7f2f44", func := "loop.example/g00902/laws.FnExactEvidenceRoot", spec := "fnExactEvidenceRoot", unfollowed := true, recurses := true, named := ["internal/strconv.uint64pow10", "math/bits.deBruijn32tab", "math/bits.deBruijn64tab"], apart := false, laid := [("math/bits.deBruijn32tab", laid_math_bits_deBruijn32tab), ("math/bits.deBruijn64tab", laid_math_bits_deBruijn64tab), ("internal/strconv.uint64pow10", laid_internal_strconv_uint64pow10)], narrowed := true }
def FnExactEvidenceRootUptoSaid : Prop := fnExactEvidenceRootUptoRow.holds Tryd.pinned (OpenSpec.upto fnExactEvidenceRootSpec)

/-- 'laws.FnExactProveLeaf', WHERE WHAT IT READS IS OF BULK AT MOST 1048576: true; the input reads as it did. -/
def fnExactProveLeafUptoRow : OpenClaim := { program := "ytnfmlglhoboooaadoor", sum := "c40c6f50ab7124d0689f6578a7d28d1b41cba271cc5ed46318abeacabc7f2f44", func := "loop.example/g00902/laws.FnExactProveLeaf", spec := "fnExactProveLeaf", unfollowed := true, recurses := true, named := ["internal/strconv.uint64pow10", "math/bits.deBruijn32tab", "math/bits.deBruijn64tab"], apart := false, laid := [("math/bits.deBruijn32tab", laid_math_bits_deBruijn32tab), ("math/bits.deBruijn64tab", laid_math_bits_deBruijn64tab), ("internal/strconv.uint64pow10", laid_internal_strconv_uint64pow10)], narrowed := true }
def FnExactProveLeafUptoSaid : Prop := fnExactProveLeafUptoRow.holds Tryd.pinned (OpenSpec.upto fnExactProveLeafSpec)

/-- 'laws.FnExactProveSubset', WHERE WHAT IT READS IS OF BULK AT MOST 1048576: true; the input reads as it did. -/
def fnExactProveSubsetUptoRow : OpenClaim := { program := "ytnfmlglhoboooaadoor", sum := "c40c6f50ab7124d0689f6578a7d28d1b41cba271cc5ed46318abeacabc7f2f44", func := "loop.example/g00902/laws.FnExactProveSubset", spec := "fnExactProveSubset", unfollowed := true, recurses := true, named := ["internal/strconv.uint64pow10", "math/bits.deBruijn32tab", "math/bits.deBruijn64tab"], apart := false, laid := [("math/bits.deBruijn32tab", laid_math_bits_deBruijn32tab), ("math/bits.deBruijn64tab", laid_math_bits_deBruijn64tab), ("internal/strconv.uint64pow10", laid_internal_strconv_uint64pow10)], narrowed := true }
def FnExactProveSubsetUptoSaid : Prop := fnExactProveSubsetUptoRow.holds Tryd.pinned (OpenSpec.upto fnExactProveSubsetSpec)

/-- 'laws.FnChanged', WHERE WHAT IT READS IS OF BULK AT MOST 1048576: true; the input reads as it did. -/
def fnChangedUptoRow : OpenClaim := { program := "ytnfmlglhoboooaadoor", sum := "c40c6f50ab7124d0689f6578a7d28d1b41cba271cc5ed46318abeacabc7f2f44", func := "loop.example/g00902/laws.FnChanged", spec := "fnChanged", unfollowed := true, recurses := true, named := ["internal/strconv.uint64pow10", "math/bits.deBruijn32tab", "math/bits.deBruijn64tab"], apart := false, laid := [("math/bits.deBruijn32tab", laid_math_bits_deBruijn32tab), ("math/bits.deBruijn64tab", laid_math_bits_deBruijn64tab), ("internal/strconv.uint64pow10", laid_internal_strconv_uint64pow10)], narrowed := true }
def FnChangedUptoSaid : Prop := fnChangedUptoRow.holds Tryd.pinned (OpenSpec.upto fnChangedSpec)

/-- 'laws.FnEvidence', WHERE WHAT IT READS IS OF BULK AT MOST 1048576: true; the input reads as it did. -/
def fnEvidenceUptoRow : OpenClaim := { program := "ytnfmlglhoboooaadoor", sum := "c40c6f50ab7124d0689f6578a7d28d1b41cba271cc5ed46318abeacabc7f2f44", func := "loop.example/g00902/laws.FnEvidence", spec := "fnEvidence", unfollowed := true, recurses := true, named := ["internal/strconv.uint64pow10", "math/bits.deBruijn32tab", "math/bits.deBruijn64tab"], apart := false, laid := [("math/bits.deBruijn32tab", laid_math_bits_deBruijn32tab), ("math/bits.deBruijn64tab", laid_math_bits_deBruijn64tab), ("internal/strconv.uint64pow10", laid_internal_strconv_uint64pow10)], narrowed := true }
def FnEvidenceUptoSaid : Prop := fnEvidenceUptoRow.holds Tryd.pinned (OpenSpec.upto fnEvidenceSpec)

end Rows
end Go.Proofs.YtnfmlglhoboooaaDoor
