/-
  NARROWER THAN 'FOR EVERY INPUT', by the rows' own cells (each row's printed sentence says how): FnExactIsOrdinal: loops · FnExactCompareOrdinals: loops · FnExactNodesOf: loops · FnExactIsLimit: loops · FnExactDegreeOf: loops · FnExactOmegaPower: loops · FnExactSubtractLeft: loops · FnExactAddOrdinals: loops · FnExactNaturalSum: loops · FnExactPredecessorOf: loops · FnExactNaturalProduct: loops · FnExactMultiplyOrdinals: loops.
  DERIVED. THE GIVEN ROWS OF THIS SEAT. 12 by the template 'for every input the law returns true; each argument reads behind the call as it read before'; 0 by the template 'total and deterministic' (their statements: YtcgnpijbdgbffaaTotals.lean).
  GIVEN WITH THE SEED: the statements are not yours to turn. If you find one false, say at which input.
  Laid BY PROGRAM, IN A SANDBOX (cutbox-rows.mjs): the forced cells as the released guide's own fill.sh prints them over the translation 023a3efa16b52298… (all of the seat's roots in one cut). By AI agents, Wed Nov 11 2026. No macro, syntax, notation, axiom, sorry.
-/
import Derived.Test.YtcgnpijbdgbffaaChecked
import GoSem.Claim
import GoSem.ClaimJoined
import GoSem.ClaimMapViews
import Derived.JoinedTies
import Derived.KernelRfl
namespace Go.Proofs.Ytcgnpijbdgbffaa
/- THE CELL 'sum', in the pinned program and in every row, IS THE sha256 OF THE DUMP (.gsa) THAT YtcgnpijbdgbffaaProg.lean LOADS. Nothing in Lean hashes anything: it is a label: what it is worth is what the hold of that sum in a sandbox is worth. -/
noncomputable def Try.pinned : Pinned := { name := "ytcgnpijbdgbffaa", sum := "023a3efa16b52298660c917677d449ec1a9e4e7eb14e88a509a5a2183ae3b4f3", checked := Try.checked }
namespace Rows
def none {H : Type} : Left H := { results := [], args := [] }

/-- 'laws.FnExactIsOrdinal': WHATEVER THE INPUT: true; the input reads as it did. -/
def fnExactIsOrdinalSpec : ChangeSpec := { name := "fnExactIsOrdinal", fn := fun _ => fun
  | [d] => { results := [.lit (.bool true)], args := [d] }
  | _ => none }
def fnExactIsOrdinalRow : OpenClaim := { program := "ytcgnpijbdgbffaa", sum := "023a3efa16b52298660c917677d449ec1a9e4e7eb14e88a509a5a2183ae3b4f3", func := "loop.example/g01096/laws.FnExactIsOrdinal", spec := "fnExactIsOrdinal", unfollowed := true, recurses := true, loops := true, apart := false }
def FnExactIsOrdinalSaid : Prop := fnExactIsOrdinalRow.holds Try.pinned (OpenSpec.ofChange fnExactIsOrdinalSpec)

/-- ITS FALSE NEIGHBOUR: 'it returns false'. Refute it at one input. -/
def fnExactIsOrdinalWrong : ChangeSpec := { name := "fnExactIsOrdinal", fn := fun _ => fun
  | [d] => { results := [.lit (.bool false)], args := [d] }
  | _ => none }
def FnExactIsOrdinalWrongFalsely : Prop := fnExactIsOrdinalRow.holds Try.pinned (OpenSpec.ofChange fnExactIsOrdinalWrong)

/-- 'laws.FnExactCompareOrdinals': WHATEVER THE INPUT: true; the input reads as it did. -/
def fnExactCompareOrdinalsSpec : ChangeSpec := { name := "fnExactCompareOrdinals", fn := fun _ => fun
  | [d1, d2] => { results := [.lit (.bool true)], args := [d1, d2] }
  | _ => none }
def fnExactCompareOrdinalsRow : OpenClaim := { program := "ytcgnpijbdgbffaa", sum := "023a3efa16b52298660c917677d449ec1a9e4e7eb14e88a509a5a2183ae3b4f3", func := "loop.example/g01096/laws.FnExactCompareOrdinals", spec := "fnExactCompareOrdinals", unfollowed := true, recurses := true, loops := true, apart := false }
def FnExactCompareOrdinalsSaid : Prop := fnExactCompareOrdinalsRow.holds Try.pinned (OpenSpec.ofChange fnExactCompareOrdinalsSpec)

/-- ITS FALSE NEIGHBOUR: 'it returns false'. Refute it at one input. -/
def fnExactCompareOrdinalsWrong : ChangeSpec := { name := "fnExactCompareOrdinals", fn := fun _ => fun
  | [d1, d2] => { results := [.lit (.bool false)], args := [d1, d2] }
  | _ => none }
def FnExactCompareOrdinalsWrongFalsely : Prop := fnExactCompareOrdinalsRow.holds Try.pinned (OpenSpec.ofChange fnExactCompareOrdinalsWrong)

/-- 'laws.FnExactNodesOf': WHATEVER THE INPUT: true; the input reads as it did. -/
def fnExactNodesOfSpec : ChangeSpec := { name := "fnExactNodesOf", fn := fun _ => fun
  | [d] => { results := [.lit (.bool true)], args := [d] }
  | _ => none }
def fnExactNodesOfRow : OpenClaim := { program := "ytcgnpijbdgbffaa", sum := "023a3efa16b52298660c917677d449ec1a9e4e7eb14e88a509a5a2183ae3b4f3", func := "loop.example/g01096/laws.FnExactNodesOf", spec := "fnExactNodesOf", unfollowed := true, recurses := true, loops := true, apart := false }
def FnExactNodesOfSaid : Prop := fnExactNodesOfRow.holds Try.pinned (OpenSpec.ofChange fnExactNodesOfSpec)

/-- ITS FALSE NEIGHBOUR: 'it returns false'. Refute it at one input. -/
def fnExactNodesOfWrong : ChangeSpec := { name := "fnExactNodesOf", fn := fun _ => fun
  | [d] => { results := [.lit (.bool false)], args := [d] }
  | _ => none }
def FnExactNodesOfWrongFalsely : Prop := fnExactNodesOfRow.holds Try.pinned (OpenSpec.ofChange fnExactNodesOfWrong)

/-- 'laws.FnExactIsLimit': WHATEVER THE INPUT: true; the input reads as it did. -/
def fnExactIsLimitSpec : ChangeSpec := { name := "fnExactIsLimit", fn := fun _ => fun
  | [d] => { results := [.lit (.bool true)], args := [d] }
  | _ => none }
def fnExactIsLimitRow : OpenClaim := { program := "ytcgnpijbdgbffaa", sum := "023a3efa16b52298660c917677d449ec1a9e4e7eb14e88a509a5a2183ae3b4f3", func := "loop.example/g01096/laws.FnExactIsLimit", spec := "fnExactIsLimit", unfollowed := true, recurses := true, loops := true, apart := false }
def FnExactIsLimitSaid : Prop := fnExactIsLimitRow.holds Try.pinned (OpenSpec.ofChange fnExactIsLimitSpec)

/-- ITS FALSE NEIGHBOUR: 'it returns false'. Refute it at one input. -/
def fnExactIsLimitWrong : ChangeSpec := { name := "fnExactIsLimit", fn := fun _ => fun
  | [d] => { results := [.lit (.bool false)], args := [d] }
  | _ => none }
def FnExactIsLimitWrongFalsely : Prop := fnExactIsLimitRow.holds Try.pinned (OpenSpec.ofChange fnExactIsLimitWrong)

/-- 'laws.FnExactDegreeOf': WHATEVER THE INPUT: true; the input reads as it did. -/
def fnExactDegreeOfSpec : ChangeSpec := { name := "fnExactDegreeOf", fn := fun _ => fun
  | [d] => { results := [.lit (.bool true)], args := [d] }
  | _ => none }
def fnExactDegreeOfRow : OpenClaim := { program := "ytcgnpijbdgbffaa", sum := "023a3efa16b52298660c917677d449ec1a9e4e7eb14e88a509a5a2183ae3b4f3", func := "loop.example/g01096/laws.FnExactDegreeOf", spec := "fnExactDegreeOf", unfollowed := true, recurses := true, loops := true, apart := false }
def FnExactDegreeOfSaid : Prop := fnExactDegreeOfRow.holds Try.pinned (OpenSpec.ofChange fnExactDegreeOfSpec)

/-- ITS FALSE NEIGHBOUR: 'it returns false'. Refute it at one input. -/
def fnExactDegreeOfWrong : ChangeSpec := { name := "fnExactDegreeOf", fn := fun _ => fun
  | [d] => { results := [.lit (.bool false)], args := [d] }
  | _ => none }
def FnExactDegreeOfWrongFalsely : Prop := fnExactDegreeOfRow.holds Try.pinned (OpenSpec.ofChange fnExactDegreeOfWrong)

/-- 'laws.FnExactOmegaPower': WHATEVER THE INPUT: true; the input reads as it did. -/
def fnExactOmegaPowerSpec : ChangeSpec := { name := "fnExactOmegaPower", fn := fun _ => fun
  | [d] => { results := [.lit (.bool true)], args := [d] }
  | _ => none }
def fnExactOmegaPowerRow : OpenClaim := { program := "ytcgnpijbdgbffaa", sum := "023a3efa16b52298660c917677d449ec1a9e4e7eb14e88a509a5a2183ae3b4f3", func := "loop.example/g01096/laws.FnExactOmegaPower", spec := "fnExactOmegaPower", unfollowed := true, recurses := true, loops := true, apart := false }
def FnExactOmegaPowerSaid : Prop := fnExactOmegaPowerRow.holds Try.pinned (OpenSpec.ofChange fnExactOmegaPowerSpec)

/-- ITS FALSE NEIGHBOUR: 'it returns false'. Refute it at one input. -/
def fnExactOmegaPowerWrong : ChangeSpec := { name := "fnExactOmegaPower", fn := fun _ => fun
  | [d] => { results := [.lit (.bool false)], args := [d] }
  | _ => none }
def FnExactOmegaPowerWrongFalsely : Prop := fnExactOmegaPowerRow.holds Try.pinned (OpenSpec.ofChange fnExactOmegaPowerWrong)

/-- 'laws.FnExactSubtractLeft': WHATEVER THE INPUT: true; the input reads as it did. -/
def fnExactSubtractLeftSpec : ChangeSpec := { name := "fnExactSubtractLeft", fn := fun _ => fun
  | [d1, d2] => { results := [.lit (.bool true)], args := [d1, d2] }
  | _ => none }
def fnExactSubtractLeftRow : OpenClaim := { program := "ytcgnpijbdgbffaa", sum := "023a3efa16b52298660c917677d449ec1a9e4e7eb14e88a509a5a2183ae3b4f3", func := "loop.example/g01096/laws.FnExactSubtractLeft", spec := "fnExactSubtractLeft", unfollowed := true, recurses := true, loops := true, apart := false }
def FnExactSubtractLeftSaid : Prop := fnExactSubtractLeftRow.holds Try.pinned (OpenSpec.ofChange fnExactSubtractLeftSpec)

/-- ITS FALSE NEIGHBOUR: 'it returns false'. Refute it at one input. -/
def fnExactSubtractLeftWrong : ChangeSpec := { name := "fnExactSubtractLeft", fn := fun _ => fun
  | [d1, d2] => { results := [.lit (.bool false)], args := [d1, d2] }
  | _ => none }
def FnExactSubtractLeftWrongFalsely : Prop := fnExactSubtractLeftRow.holds Try.pinned (OpenSpec.ofChange fnExactSubtractLeftWrong)

/-- 'laws.FnExactAddOrdinals': WHATEVER THE INPUT: true; the input reads as it did. -/
def fnExactAddOrdinalsSpec : ChangeSpec := { name := "fnExactAddOrdinals", fn := fun _ => fun
  | [d1, d2] => { results := [.lit (.bool true)], args := [d1, d2] }
  | _ => none }
def fnExactAddOrdinalsRow : OpenClaim := { program := "ytcgnpijbdgbffaa", sum := "023a3efa16b52298660c917677d449ec1a9e4e7eb14e88a509a5a2183ae3b4f3", func := "loop.example/g01096/laws.FnExactAddOrdinals", spec := "fnExactAddOrdinals", unfollowed := true, recurses := true, loops := true, apart := false }
def FnExactAddOrdinalsSaid : Prop := fnExactAddOrdinalsRow.holds Try.pinned (OpenSpec.ofChange fnExactAddOrdinalsSpec)

/-- ITS FALSE NEIGHBOUR: 'it returns false'. Refute it at one input. -/
def fnExactAddOrdinalsWrong : ChangeSpec := { name := "fnExactAddOrdinals", fn := fun _ => fun
  | [d1, d2] => { results := [.lit (.bool false)], args := [d1, d2] }
  | _ => none }
def FnExactAddOrdinalsWrongFalsely : Prop := fnExactAddOrdinalsRow.holds Try.pinned (OpenSpec.ofChange fnExactAddOrdinalsWrong)

/-- 'laws.FnExactNaturalSum': WHATEVER THE INPUT: true; the input reads as it did. -/
def fnExactNaturalSumSpec : ChangeSpec := { name := "fnExactNaturalSum", fn := fun _ => fun
  | [d1, d2] => { results := [.lit (.bool true)], args := [d1, d2] }
  | _ => none }
def fnExactNaturalSumRow : OpenClaim := { program := "ytcgnpijbdgbffaa", sum := "023a3efa16b52298660c917677d449ec1a9e4e7eb14e88a509a5a2183ae3b4f3", func := "loop.example/g01096/laws.FnExactNaturalSum", spec := "fnExactNaturalSum", unfollowed := true, recurses := true, loops := true, apart := false }
def FnExactNaturalSumSaid : Prop := fnExactNaturalSumRow.holds Try.pinned (OpenSpec.ofChange fnExactNaturalSumSpec)

/-- ITS FALSE NEIGHBOUR: 'it returns false'. Refute it at one input. -/
def fnExactNaturalSumWrong : ChangeSpec := { name := "fnExactNaturalSum", fn := fun _ => fun
  | [d1, d2] => { results := [.lit (.bool false)], args := [d1, d2] }
  | _ => none }
def FnExactNaturalSumWrongFalsely : Prop := fnExactNaturalSumRow.holds Try.pinned (OpenSpec.ofChange fnExactNaturalSumWrong)

/-- 'laws.FnExactPredecessorOf': WHATEVER THE INPUT: true; the input reads as it did. -/
def fnExactPredecessorOfSpec : ChangeSpec := { name := "fnExactPredecessorOf", fn := fun _ => fun
  | [d] => { results := [.lit (.bool true)], args := [d] }
  | _ => none }
def fnExactPredecessorOfRow : OpenClaim := { program := "ytcgnpijbdgbffaa", sum := "023a3efa16b52298660c917677d449ec1a9e4e7eb14e88a509a5a2183ae3b4f3", func := "loop.example/g01096/laws.FnExactPredecessorOf", spec := "fnExactPredecessorOf", unfollowed := true, recurses := true, loops := true, apart := false }
def FnExactPredecessorOfSaid : Prop := fnExactPredecessorOfRow.holds Try.pinned (OpenSpec.ofChange fnExactPredecessorOfSpec)

/-- ITS FALSE NEIGHBOUR: 'it returns false'. Refute it at one input. -/
def fnExactPredecessorOfWrong : ChangeSpec := { name := "fnExactPredecessorOf", fn := fun _ => fun
  | [d] => { results := [.lit (.bool false)], args := [d] }
  | _ => none }
def FnExactPredecessorOfWrongFalsely : Prop := fnExactPredecessorOfRow.holds Try.pinned (OpenSpec.ofChange fnExactPredecessorOfWrong)

/-- 'laws.FnExactNaturalProduct': WHATEVER THE INPUT: true; the input reads as it did. -/
def fnExactNaturalProductSpec : ChangeSpec := { name := "fnExactNaturalProduct", fn := fun _ => fun
  | [d1, d2] => { results := [.lit (.bool true)], args := [d1, d2] }
  | _ => none }
def fnExactNaturalProductRow : OpenClaim := { program := "ytcgnpijbdgbffaa", sum := "023a3efa16b52298660c917677d449ec1a9e4e7eb14e88a509a5a2183ae3b4f3", func := "loop.example/g01096/laws.FnExactNaturalProduct", spec := "fnExactNaturalProduct", unfollowed := true, recurses := true, loops := true, apart := false }
def FnExactNaturalProductSaid : Prop := fnExactNaturalProductRow.holds Try.pinned (OpenSpec.ofChange fnExactNaturalProductSpec)

/-- ITS FALSE NEIGHBOUR: 'it returns false'. Refute it at one input. -/
def fnExactNaturalProductWrong : ChangeSpec := { name := "fnExactNaturalProduct", fn := fun _ => fun
  | [d1, d2] => { results := [.lit (.bool false)], args := [d1, d2] }
  | _ => none }
def FnExactNaturalProductWrongFalsely : Prop := fnExactNaturalProductRow.holds Try.pinned (OpenSpec.ofChange fnExactNaturalProductWrong)

/-- 'laws.FnExactMultiplyOrdinals': WHATEVER THE INPUT: true; the input reads as it did. -/
def fnExactMultiplyOrdinalsSpec : ChangeSpec := { name := "fnExactMultiplyOrdinals", fn := fun _ => fun
  | [d1, d2] => { results := [.lit (.bool true)], args := [d1, d2] }
  | _ => none }
def fnExactMultiplyOrdinalsRow : OpenClaim := { program := "ytcgnpijbdgbffaa", sum := "023a3efa16b52298660c917677d449ec1a9e4e7eb14e88a509a5a2183ae3b4f3", func := "loop.example/g01096/laws.FnExactMultiplyOrdinals", spec := "fnExactMultiplyOrdinals", unfollowed := true, recurses := true, loops := true, apart := false }
def FnExactMultiplyOrdinalsSaid : Prop := fnExactMultiplyOrdinalsRow.holds Try.pinned (OpenSpec.ofChange fnExactMultiplyOrdinalsSpec)

/-- ITS FALSE NEIGHBOUR: 'it returns false'. Refute it at one input. -/
def fnExactMultiplyOrdinalsWrong : ChangeSpec := { name := "fnExactMultiplyOrdinals", fn := fun _ => fun
  | [d1, d2] => { results := [.lit (.bool false)], args := [d1, d2] }
  | _ => none }
def FnExactMultiplyOrdinalsWrongFalsely : Prop := fnExactMultiplyOrdinalsRow.holds Try.pinned (OpenSpec.ofChange fnExactMultiplyOrdinalsWrong)

/- THE SECOND FORM. 'bulk': how many values and letters a reading holds, each counted each time it is reached (what is shared counts as often as it is met; a slice's spare places count too). A statement '..UptoSaid' is the law's where the arguments, and the package variables that the reading takes, are together of bulk at most 1048576: NARROWER than '..Said'. Prove '..Said' where nothing that the law and all that it calls make is longer than what came in: it says more and counts as full. Else prove '..UptoSaid'. A law counts once. -/
mutual
def uptoBulk {H : Type} : DataW H → Nat
  | .lit (.string bytes) => bytes.length + 1
  | .lit _ => 1
  | .nil => 1
  | .ptr d => uptoBulk d + 1
  | .slice elems spare => uptoBulkAll elems + uptoBulkAll spare + 1
  | .agg parts => uptoBulkAll parts + 1
  | .iface _ d => uptoBulk d + 1
  | .map entries => uptoBulkEntries entries + 1
  | .held _ => 1
def uptoBulkAll {H : Type} : List (DataW H) → Nat
  | [] => 0
  | d :: r => uptoBulk d + uptoBulkAll r
def uptoBulkEntries {H : Type} : List (Lit × DataW H) → Nat
  | [] => 0
  | x :: r => uptoBulkEntry x + uptoBulkEntries r
def uptoBulkEntry {H : Type} : Lit × DataW H → Nat
  | (.string bytes, d) => bytes.length + uptoBulk d + 1
  | (_, d) => uptoBulk d + 1
 end
def uptoSmall : (H : Type) → List (DataW H) → Bool := fun _ ds => decide (uptoBulkAll ds ≤ 1048576)
def OpenSpec.upto (s : _root_.Go.ChangeSpec) : _root_.Go.OpenSpec := { _root_.Go.OpenSpec.ofChange s with cond := some uptoSmall }

/-- 'laws.FnExactIsOrdinal', WHERE WHAT IT READS IS OF BULK AT MOST 1048576: true; the input reads as it did. -/
def fnExactIsOrdinalUptoRow : OpenClaim := { program := "ytcgnpijbdgbffaa", sum := "023a3efa16b52298660c917677d449ec1a9e4e7eb14e88a509a5a2183ae3b4f3", func := "loop.example/g01096/laws.FnExactIsOrdinal", spec := "fnExactIsOrdinal", unfollowed := true, recurses := true, loops := true, apart := false, narrowed := true }
def FnExactIsOrdinalUptoSaid : Prop := fnExactIsOrdinalUptoRow.holds Try.pinned (OpenSpec.upto fnExactIsOrdinalSpec)

/-- 'laws.FnExactCompareOrdinals', WHERE WHAT IT READS IS OF BULK AT MOST 1048576: true; the input reads as it did. -/
def fnExactCompareOrdinalsUptoRow : OpenClaim := { program := "ytcgnpijbdgbffaa", sum := "023a3efa16b52298660c917677d449ec1a9e4e7eb14e88a509a5a2183ae3b4f3", func := "loop.example/g01096/laws.FnExactCompareOrdinals", spec := "fnExactCompareOrdinals", unfollowed := true, recurses := true, loops := true, apart := false, narrowed := true }
def FnExactCompareOrdinalsUptoSaid : Prop := fnExactCompareOrdinalsUptoRow.holds Try.pinned (OpenSpec.upto fnExactCompareOrdinalsSpec)

/-- 'laws.FnExactNodesOf', WHERE WHAT IT READS IS OF BULK AT MOST 1048576: true; the input reads as it did. -/
def fnExactNodesOfUptoRow : OpenClaim := { program := "ytcgnpijbdgbffaa", sum := "023a3efa16b52298660c917677d449ec1a9e4e7eb14e88a509a5a2183ae3b4f3", func := "loop.example/g01096/laws.FnExactNodesOf", spec := "fnExactNodesOf", unfollowed := true, recurses := true, loops := true, apart := false, narrowed := true }
def FnExactNodesOfUptoSaid : Prop := fnExactNodesOfUptoRow.holds Try.pinned (OpenSpec.upto fnExactNodesOfSpec)

/-- 'laws.FnExactIsLimit', WHERE WHAT IT READS IS OF BULK AT MOST 1048576: true; the input reads as it did. -/
def fnExactIsLimitUptoRow : OpenClaim := { program := "ytcgnpijbdgbffaa", sum := "023a3efa16b52298660c917677d449ec1a9e4e7eb14e88a509a5a2183ae3b4f3", func := "loop.example/g01096/laws.FnExactIsLimit", spec := "fnExactIsLimit", unfollowed := true, recurses := true, loops := true, apart := false, narrowed := true }
def FnExactIsLimitUptoSaid : Prop := fnExactIsLimitUptoRow.holds Try.pinned (OpenSpec.upto fnExactIsLimitSpec)

/-- 'laws.FnExactDegreeOf', WHERE WHAT IT READS IS OF BULK AT MOST 1048576: true; the input reads as it did. -/
def fnExactDegreeOfUptoRow : OpenClaim := { program := "ytcgnpijbdgbffaa", sum := "023a3efa16b52298660c917677d449ec1a9e4e7eb14e88a509a5a2183ae3b4f3", func := "loop.example/g01096/laws.FnExactDegreeOf", spec := "fnExactDegreeOf", unfollowed := true, recurses := true, loops := true, apart := false, narrowed := true }
def FnExactDegreeOfUptoSaid : Prop := fnExactDegreeOfUptoRow.holds Try.pinned (OpenSpec.upto fnExactDegreeOfSpec)

/-- 'laws.FnExactOmegaPower', WHERE WHAT IT READS IS OF BULK AT MOST 1048576: true; the input reads as it did. -/
def fnExactOmegaPowerUptoRow : OpenClaim := { program := "ytcgnpijbdgbffaa", sum := "023a3efa16b52298660c917677d449ec1a9e4e7eb14e88a509a5a2183ae3b4f3", func := "loop.example/g01096/laws.FnExactOmegaPower", spec := "fnExactOmegaPower", unfollowed := true, recurses := true, loops := true, apart := false, narrowed := true }
def FnExactOmegaPowerUptoSaid : Prop := fnExactOmegaPowerUptoRow.holds Try.pinned (OpenSpec.upto fnExactOmegaPowerSpec)

/-- 'laws.FnExactSubtractLeft', WHERE WHAT IT READS IS OF BULK AT MOST 1048576: true; the input reads as it did. -/
def fnExactSubtractLeftUptoRow : OpenClaim := { program := "ytcgnpijbdgbffaa", sum := "023a3efa16b52298660c917677d449ec1a9e4e7eb14e88a509a5a2183ae3b4f3", func := "loop.example/g01096/laws.FnExactSubtractLeft", spec := "fnExactSubtractLeft", unfollowed := true, recurses := true, loops := true, apart := false, narrowed := true }
def FnExactSubtractLeftUptoSaid : Prop := fnExactSubtractLeftUptoRow.holds Try.pinned (OpenSpec.upto fnExactSubtractLeftSpec)

/-- 'laws.FnExactAddOrdinals', WHERE WHAT IT READS IS OF BULK AT MOST 1048576: true; the input reads as it did. -/
def fnExactAddOrdinalsUptoRow : OpenClaim := { program := "ytcgnpijbdgbffaa", sum := "023a3efa16b52298660c917677d449ec1a9e4e7eb14e88a509a5a2183ae3b4f3", func := "loop.example/g01096/laws.FnExactAddOrdinals", spec := "fnExactAddOrdinals", unfollowed := true, recurses := true, loops := true, apart := false, narrowed := true }
def FnExactAddOrdinalsUptoSaid : Prop := fnExactAddOrdinalsUptoRow.holds Try.pinned (OpenSpec.upto fnExactAddOrdinalsSpec)

/-- 'laws.FnExactNaturalSum', WHERE WHAT IT READS IS OF BULK AT MOST 1048576: true; the input reads as it did. -/
def fnExactNaturalSumUptoRow : OpenClaim := { program := "ytcgnpijbdgbffaa", sum := "023a3efa16b52298660c917677d449ec1a9e4e7eb14e88a509a5a2183ae3b4f3", func := "loop.example/g01096/laws.FnExactNaturalSum", spec := "fnExactNaturalSum", unfollowed := true, recurses := true, loops := true, apart := false, narrowed := true }
def FnExactNaturalSumUptoSaid : Prop := fnExactNaturalSumUptoRow.holds Try.pinned (OpenSpec.upto fnExactNaturalSumSpec)

/-- 'laws.FnExactPredecessorOf', WHERE WHAT IT READS IS OF BULK AT MOST 1048576: true; the input reads as it did. -/
def fnExactPredecessorOfUptoRow : OpenClaim := { program := "ytcgnpijbdgbffaa", sum := "023a3efa16b52298660c917677d449ec1a9e4e7eb14e88a509a5a2183ae3b4f3", func := "loop.example/g01096/laws.FnExactPredecessorOf", spec := "fnExactPredecessorOf", unfollowed := true, recurses := true, loops := true, apart := false, narrowed := true }
def FnExactPredecessorOfUptoSaid : Prop := fnExactPredecessorOfUptoRow.holds Try.pinned (OpenSpec.upto fnExactPredecessorOfSpec)

/-- 'laws.FnExactNaturalProduct', WHERE WHAT IT READS IS OF BULK AT MOST 1048576: true; the input reads as it did. -/
def fnExactNaturalProductUptoRow : OpenClaim := { program := "ytcgnpijbdgbffaa", sum := "023a3efa16b52298660c917677d449ec1a9e4e7eb14e88a509a5a2183ae3b4f3", func := "loop.example/g01096/laws.FnExactNaturalProduct", spec := "fnExactNaturalProduct", unfollowed := true, recurses := true, loops := true, apart := false, narrowed := true }
def FnExactNaturalProductUptoSaid : Prop := fnExactNaturalProductUptoRow.holds Try.pinned (OpenSpec.upto fnExactNaturalProductSpec)

/-- 'laws.FnExactMultiplyOrdinals', WHERE WHAT IT READS IS OF BULK AT MOST 1048576: true; the input reads as it did. -/
def fnExactMultiplyOrdinalsUptoRow : OpenClaim := { program := "ytcgnpijbdgbffaa", sum := "023a3efa16b52298660c917677d449ec1a9e4e7eb14e88a509a5a2183ae3b4f3", func := "loop.example/g01096/laws.FnExactMultiplyOrdinals", spec := "fnExactMultiplyOrdinals", unfollowed := true, recurses := true, loops := true, apart := false, narrowed := true }
def FnExactMultiplyOrdinalsUptoSaid : Prop := fnExactMultiplyOrdinalsUptoRow.holds Try.pinned (OpenSpec.upto fnExactMultiplyOrdinalsSpec)

end Rows
end Go.Proofs.Ytcgnpijbdgbffaa
