/-
  No cell of these rows narrows 'for every input' (looked for: loops, veiled, ifaces, maps, wideKeys, modest, calm, conditions, laid).
  DERIVED. THE GIVEN ROWS OF THIS SEAT. 12 by the template 'for every input the law returns true; each argument reads behind the call as it read before'; 0 by the template 'total and deterministic' (their statements: YtolfjeedgedblaaTotals.lean).
  GIVEN WITH THE SEED: the statements are not yours to turn. If you find one false, say at which input.
  Laid BY PROGRAM, IN A SANDBOX (cutbox-rows.mjs): the forced cells as the released guide's own fill.sh prints them over the translation 1c12849814621e66… (all of the seat's roots in one cut). By AI agents, Wed Nov 11 2026. No macro, syntax, notation, axiom, sorry.
-/
import Derived.Test.YtolfjeedgedblaaChecked
import GoSem.Claim
import GoSem.ClaimJoined
import GoSem.ClaimMapViews
import Derived.JoinedTies
import Derived.KernelRfl
namespace Go.Proofs.Ytolfjeedgedblaa
/- THE CELL 'sum', in the pinned program and in every row, IS THE sha256 OF THE DUMP (.gsa) THAT YtolfjeedgedblaaProg.lean LOADS. Nothing in Lean hashes anything: it is a label: what it is worth is what the hold of that sum in a sandbox is worth. -/
noncomputable def Try.pinned : Pinned := { name := "ytolfjeedgedblaa", sum := "1c12849814621e663e2f73b1cb93a7ba08ecae027b40ae7b8b81feb04127a6ab", checked := Try.checked }
namespace Rows
def none {H : Type} : Left H := { results := [], args := [] }

/-- 'laws.FnExactCompareFractions': WHATEVER THE INPUT: true; the input reads as it did. -/
def fnExactCompareFractionsSpec : ChangeSpec := { name := "fnExactCompareFractions", fn := fun _ => fun
  | [d1, d2] => { results := [.lit (.bool true)], args := [d1, d2] }
  | _ => none }
def fnExactCompareFractionsRow : OpenClaim := { program := "ytolfjeedgedblaa", sum := "1c12849814621e663e2f73b1cb93a7ba08ecae027b40ae7b8b81feb04127a6ab", func := "loop.example/g01096/laws.FnExactCompareFractions", spec := "fnExactCompareFractions", apart := false }
def FnExactCompareFractionsSaid : Prop := fnExactCompareFractionsRow.holds Try.pinned (OpenSpec.ofChange fnExactCompareFractionsSpec)

/-- ITS FALSE NEIGHBOUR: 'it returns false'. Refute it at one input. -/
def fnExactCompareFractionsWrong : ChangeSpec := { name := "fnExactCompareFractions", fn := fun _ => fun
  | [d1, d2] => { results := [.lit (.bool false)], args := [d1, d2] }
  | _ => none }
def FnExactCompareFractionsWrongFalsely : Prop := fnExactCompareFractionsRow.holds Try.pinned (OpenSpec.ofChange fnExactCompareFractionsWrong)

/-- 'laws.FnExactDivideFractions': WHATEVER THE INPUT: true; the input reads as it did. -/
def fnExactDivideFractionsSpec : ChangeSpec := { name := "fnExactDivideFractions", fn := fun _ => fun
  | [d1, d2] => { results := [.lit (.bool true)], args := [d1, d2] }
  | _ => none }
def fnExactDivideFractionsRow : OpenClaim := { program := "ytolfjeedgedblaa", sum := "1c12849814621e663e2f73b1cb93a7ba08ecae027b40ae7b8b81feb04127a6ab", func := "loop.example/g01096/laws.FnExactDivideFractions", spec := "fnExactDivideFractions", unfollowed := true, recurses := true, apart := false }
def FnExactDivideFractionsSaid : Prop := fnExactDivideFractionsRow.holds Try.pinned (OpenSpec.ofChange fnExactDivideFractionsSpec)

/-- ITS FALSE NEIGHBOUR: 'it returns false'. Refute it at one input. -/
def fnExactDivideFractionsWrong : ChangeSpec := { name := "fnExactDivideFractions", fn := fun _ => fun
  | [d1, d2] => { results := [.lit (.bool false)], args := [d1, d2] }
  | _ => none }
def FnExactDivideFractionsWrongFalsely : Prop := fnExactDivideFractionsRow.holds Try.pinned (OpenSpec.ofChange fnExactDivideFractionsWrong)

/-- 'laws.FnExactAddFractions': WHATEVER THE INPUT: true; the input reads as it did. -/
def fnExactAddFractionsSpec : ChangeSpec := { name := "fnExactAddFractions", fn := fun _ => fun
  | [d1, d2] => { results := [.lit (.bool true)], args := [d1, d2] }
  | _ => none }
def fnExactAddFractionsRow : OpenClaim := { program := "ytolfjeedgedblaa", sum := "1c12849814621e663e2f73b1cb93a7ba08ecae027b40ae7b8b81feb04127a6ab", func := "loop.example/g01096/laws.FnExactAddFractions", spec := "fnExactAddFractions", unfollowed := true, recurses := true, apart := false }
def FnExactAddFractionsSaid : Prop := fnExactAddFractionsRow.holds Try.pinned (OpenSpec.ofChange fnExactAddFractionsSpec)

/-- ITS FALSE NEIGHBOUR: 'it returns false'. Refute it at one input. -/
def fnExactAddFractionsWrong : ChangeSpec := { name := "fnExactAddFractions", fn := fun _ => fun
  | [d1, d2] => { results := [.lit (.bool false)], args := [d1, d2] }
  | _ => none }
def FnExactAddFractionsWrongFalsely : Prop := fnExactAddFractionsRow.holds Try.pinned (OpenSpec.ofChange fnExactAddFractionsWrong)

/-- 'laws.FnExactMultiplyFractions': WHATEVER THE INPUT: true; the input reads as it did. -/
def fnExactMultiplyFractionsSpec : ChangeSpec := { name := "fnExactMultiplyFractions", fn := fun _ => fun
  | [d1, d2] => { results := [.lit (.bool true)], args := [d1, d2] }
  | _ => none }
def fnExactMultiplyFractionsRow : OpenClaim := { program := "ytolfjeedgedblaa", sum := "1c12849814621e663e2f73b1cb93a7ba08ecae027b40ae7b8b81feb04127a6ab", func := "loop.example/g01096/laws.FnExactMultiplyFractions", spec := "fnExactMultiplyFractions", unfollowed := true, recurses := true, apart := false }
def FnExactMultiplyFractionsSaid : Prop := fnExactMultiplyFractionsRow.holds Try.pinned (OpenSpec.ofChange fnExactMultiplyFractionsSpec)

/-- ITS FALSE NEIGHBOUR: 'it returns false'. Refute it at one input. -/
def fnExactMultiplyFractionsWrong : ChangeSpec := { name := "fnExactMultiplyFractions", fn := fun _ => fun
  | [d1, d2] => { results := [.lit (.bool false)], args := [d1, d2] }
  | _ => none }
def FnExactMultiplyFractionsWrongFalsely : Prop := fnExactMultiplyFractionsRow.holds Try.pinned (OpenSpec.ofChange fnExactMultiplyFractionsWrong)

/-- 'laws.FnExactSubtractFractions': WHATEVER THE INPUT: true; the input reads as it did. -/
def fnExactSubtractFractionsSpec : ChangeSpec := { name := "fnExactSubtractFractions", fn := fun _ => fun
  | [d1, d2] => { results := [.lit (.bool true)], args := [d1, d2] }
  | _ => none }
def fnExactSubtractFractionsRow : OpenClaim := { program := "ytolfjeedgedblaa", sum := "1c12849814621e663e2f73b1cb93a7ba08ecae027b40ae7b8b81feb04127a6ab", func := "loop.example/g01096/laws.FnExactSubtractFractions", spec := "fnExactSubtractFractions", unfollowed := true, recurses := true, apart := false }
def FnExactSubtractFractionsSaid : Prop := fnExactSubtractFractionsRow.holds Try.pinned (OpenSpec.ofChange fnExactSubtractFractionsSpec)

/-- ITS FALSE NEIGHBOUR: 'it returns false'. Refute it at one input. -/
def fnExactSubtractFractionsWrong : ChangeSpec := { name := "fnExactSubtractFractions", fn := fun _ => fun
  | [d1, d2] => { results := [.lit (.bool false)], args := [d1, d2] }
  | _ => none }
def FnExactSubtractFractionsWrongFalsely : Prop := fnExactSubtractFractionsRow.holds Try.pinned (OpenSpec.ofChange fnExactSubtractFractionsWrong)

/-- 'laws.FnExactIsShort': WHATEVER THE INPUT: true; the input reads as it did. -/
def fnExactIsShortSpec : ChangeSpec := { name := "fnExactIsShort", fn := fun _ => fun
  | [d] => { results := [.lit (.bool true)], args := [d] }
  | _ => none }
def fnExactIsShortRow : OpenClaim := { program := "ytolfjeedgedblaa", sum := "1c12849814621e663e2f73b1cb93a7ba08ecae027b40ae7b8b81feb04127a6ab", func := "loop.example/g01096/laws.FnExactIsShort", spec := "fnExactIsShort", unfollowed := true, recurses := true, apart := false }
def FnExactIsShortSaid : Prop := fnExactIsShortRow.holds Try.pinned (OpenSpec.ofChange fnExactIsShortSpec)

/-- ITS FALSE NEIGHBOUR: 'it returns false'. Refute it at one input. -/
def fnExactIsShortWrong : ChangeSpec := { name := "fnExactIsShort", fn := fun _ => fun
  | [d] => { results := [.lit (.bool false)], args := [d] }
  | _ => none }
def FnExactIsShortWrongFalsely : Prop := fnExactIsShortRow.holds Try.pinned (OpenSpec.ofChange fnExactIsShortWrong)

/-- 'laws.FnExactWordOf': WHATEVER THE INPUT: true; the input reads as it did. -/
def fnExactWordOfSpec : ChangeSpec := { name := "fnExactWordOf", fn := fun _ => fun
  | [d] => { results := [.lit (.bool true)], args := [d] }
  | _ => none }
def fnExactWordOfRow : OpenClaim := { program := "ytolfjeedgedblaa", sum := "1c12849814621e663e2f73b1cb93a7ba08ecae027b40ae7b8b81feb04127a6ab", func := "loop.example/g01096/laws.FnExactWordOf", spec := "fnExactWordOf", unfollowed := true, recurses := true, apart := false }
def FnExactWordOfSaid : Prop := fnExactWordOfRow.holds Try.pinned (OpenSpec.ofChange fnExactWordOfSpec)

/-- ITS FALSE NEIGHBOUR: 'it returns false'. Refute it at one input. -/
def fnExactWordOfWrong : ChangeSpec := { name := "fnExactWordOf", fn := fun _ => fun
  | [d] => { results := [.lit (.bool false)], args := [d] }
  | _ => none }
def FnExactWordOfWrongFalsely : Prop := fnExactWordOfRow.holds Try.pinned (OpenSpec.ofChange fnExactWordOfWrong)

/-- 'laws.FnExactDayOf': WHATEVER THE INPUT: true; the input reads as it did. -/
def fnExactDayOfSpec : ChangeSpec := { name := "fnExactDayOf", fn := fun _ => fun
  | [d] => { results := [.lit (.bool true)], args := [d] }
  | _ => none }
def fnExactDayOfRow : OpenClaim := { program := "ytolfjeedgedblaa", sum := "1c12849814621e663e2f73b1cb93a7ba08ecae027b40ae7b8b81feb04127a6ab", func := "loop.example/g01096/laws.FnExactDayOf", spec := "fnExactDayOf", unfollowed := true, recurses := true, apart := false }
def FnExactDayOfSaid : Prop := fnExactDayOfRow.holds Try.pinned (OpenSpec.ofChange fnExactDayOfSpec)

/-- ITS FALSE NEIGHBOUR: 'it returns false'. Refute it at one input. -/
def fnExactDayOfWrong : ChangeSpec := { name := "fnExactDayOf", fn := fun _ => fun
  | [d] => { results := [.lit (.bool false)], args := [d] }
  | _ => none }
def FnExactDayOfWrongFalsely : Prop := fnExactDayOfRow.holds Try.pinned (OpenSpec.ofChange fnExactDayOfWrong)

/-- 'laws.FnExactMeetOf': WHATEVER THE INPUT: true; the input reads as it did. -/
def fnExactMeetOfSpec : ChangeSpec := { name := "fnExactMeetOf", fn := fun _ => fun
  | [d1, d2] => { results := [.lit (.bool true)], args := [d1, d2] }
  | _ => none }
def fnExactMeetOfRow : OpenClaim := { program := "ytolfjeedgedblaa", sum := "1c12849814621e663e2f73b1cb93a7ba08ecae027b40ae7b8b81feb04127a6ab", func := "loop.example/g01096/laws.FnExactMeetOf", spec := "fnExactMeetOf", unfollowed := true, recurses := true, apart := false }
def FnExactMeetOfSaid : Prop := fnExactMeetOfRow.holds Try.pinned (OpenSpec.ofChange fnExactMeetOfSpec)

/-- ITS FALSE NEIGHBOUR: 'it returns false'. Refute it at one input. -/
def fnExactMeetOfWrong : ChangeSpec := { name := "fnExactMeetOf", fn := fun _ => fun
  | [d1, d2] => { results := [.lit (.bool false)], args := [d1, d2] }
  | _ => none }
def FnExactMeetOfWrongFalsely : Prop := fnExactMeetOfRow.holds Try.pinned (OpenSpec.ofChange fnExactMeetOfWrong)

/-- 'laws.FnFractions': WHATEVER THE INPUT: true; the input reads as it did. -/
def fnFractionsSpec : ChangeSpec := { name := "fnFractions", fn := fun _ => fun
  | [d1, d2] => { results := [.lit (.bool true)], args := [d1, d2] }
  | _ => none }
def fnFractionsRow : OpenClaim := { program := "ytolfjeedgedblaa", sum := "1c12849814621e663e2f73b1cb93a7ba08ecae027b40ae7b8b81feb04127a6ab", func := "loop.example/g01096/laws.FnFractions", spec := "fnFractions", unfollowed := true, recurses := true, apart := false }
def FnFractionsSaid : Prop := fnFractionsRow.holds Try.pinned (OpenSpec.ofChange fnFractionsSpec)

/-- ITS FALSE NEIGHBOUR: 'it returns false'. Refute it at one input. -/
def fnFractionsWrong : ChangeSpec := { name := "fnFractions", fn := fun _ => fun
  | [d1, d2] => { results := [.lit (.bool false)], args := [d1, d2] }
  | _ => none }
def FnFractionsWrongFalsely : Prop := fnFractionsRow.holds Try.pinned (OpenSpec.ofChange fnFractionsWrong)

/-- 'laws.FnExactAncestorsOf': WHATEVER THE INPUT: true; the input reads as it did. -/
def fnExactAncestorsOfSpec : ChangeSpec := { name := "fnExactAncestorsOf", fn := fun _ => fun
  | [d] => { results := [.lit (.bool true)], args := [d] }
  | _ => none }
def fnExactAncestorsOfRow : OpenClaim := { program := "ytolfjeedgedblaa", sum := "1c12849814621e663e2f73b1cb93a7ba08ecae027b40ae7b8b81feb04127a6ab", func := "loop.example/g01096/laws.FnExactAncestorsOf", spec := "fnExactAncestorsOf", unfollowed := true, recurses := true, apart := false }
def FnExactAncestorsOfSaid : Prop := fnExactAncestorsOfRow.holds Try.pinned (OpenSpec.ofChange fnExactAncestorsOfSpec)

/-- ITS FALSE NEIGHBOUR: 'it returns false'. Refute it at one input. -/
def fnExactAncestorsOfWrong : ChangeSpec := { name := "fnExactAncestorsOf", fn := fun _ => fun
  | [d] => { results := [.lit (.bool false)], args := [d] }
  | _ => none }
def FnExactAncestorsOfWrongFalsely : Prop := fnExactAncestorsOfRow.holds Try.pinned (OpenSpec.ofChange fnExactAncestorsOfWrong)

/-- 'laws.FnExactOptionsOf': WHATEVER THE INPUT: true; the input reads as it did. -/
def fnExactOptionsOfSpec : ChangeSpec := { name := "fnExactOptionsOf", fn := fun _ => fun
  | [d] => { results := [.lit (.bool true)], args := [d] }
  | _ => none }
def fnExactOptionsOfRow : OpenClaim := { program := "ytolfjeedgedblaa", sum := "1c12849814621e663e2f73b1cb93a7ba08ecae027b40ae7b8b81feb04127a6ab", func := "loop.example/g01096/laws.FnExactOptionsOf", spec := "fnExactOptionsOf", unfollowed := true, recurses := true, apart := false }
def FnExactOptionsOfSaid : Prop := fnExactOptionsOfRow.holds Try.pinned (OpenSpec.ofChange fnExactOptionsOfSpec)

/-- ITS FALSE NEIGHBOUR: 'it returns false'. Refute it at one input. -/
def fnExactOptionsOfWrong : ChangeSpec := { name := "fnExactOptionsOf", fn := fun _ => fun
  | [d] => { results := [.lit (.bool false)], args := [d] }
  | _ => none }
def FnExactOptionsOfWrongFalsely : Prop := fnExactOptionsOfRow.holds Try.pinned (OpenSpec.ofChange fnExactOptionsOfWrong)

/- THE SECOND FORM. 'bulk': how many values and letters a reading holds, each counted each time it is reached (what is shared counts as often as it is met; a slice's spare places count too). A statement '..UptoSaid' is the law's where the arguments, and the package variables that the reading takes, are together of bulk at most 1048576: NARROWER than '..Said'. Prove '..Said' where nothing that the law and all that it calls make is longer than what came in: it says more and counts as full. Else prove '..UptoSaid'. A law counts once. -/
mutual
def uptoBulk {H : Type} : DataW H → Nat
  | .lit (.string bytes) => bytes.length + 1
  | .lit _ => 1
  | .nil => 1
  | .ptr d => uptoBulk d + 1
  | .slice elems spare => uptoBulkAll elems + uptoBulkAll spare + 1
  | .agg parts => uptoBulkAll parts + 1
  | .iface _ d => uptoBulk d + 1
  | .map entries => uptoBulkEntries entries + 1
  | .held _ => 1
def uptoBulkAll {H : Type} : List (DataW H) → Nat
  | [] => 0
  | d :: r => uptoBulk d + uptoBulkAll r
def uptoBulkEntries {H : Type} : List (Lit × DataW H) → Nat
  | [] => 0
  | x :: r => uptoBulkEntry x + uptoBulkEntries r
def uptoBulkEntry {H : Type} : Lit × DataW H → Nat
  | (.string bytes, d) => bytes.length + uptoBulk d + 1
  | (_, d) => uptoBulk d + 1
 end
def uptoSmall : (H : Type) → List (DataW H) → Bool := fun _ ds => decide (uptoBulkAll ds ≤ 1048576)
def OpenSpec.upto (s : _root_.Go.ChangeSpec) : _root_.Go.OpenSpec := { _root_.Go.OpenSpec.ofChange s with cond := some uptoSmall }

/-- 'laws.FnExactCompareFractions', WHERE WHAT IT READS IS OF BULK AT MOST 1048576: true; the input reads as it did. -/
def fnExactCompareFractionsUptoRow : OpenClaim := { program := "ytolfjeedgedblaa", sum := "1c12849814621e663e2f73b1cb93a7ba08ecae027b40ae7b8b81feb04127a6ab", func := "loop.example/g01096/laws.FnExactCompareFractions", spec := "fnExactCompareFractions", apart := false, narrowed := true }
def FnExactCompareFractionsUptoSaid : Prop := fnExactCompareFractionsUptoRow.holds Try.pinned (OpenSpec.upto fnExactCompareFractionsSpec)

/-- 'laws.FnExactDivideFractions', WHERE WHAT IT READS IS OF BULK AT MOST 1048576: true; the input reads as it did. -/
def fnExactDivideFractionsUptoRow : OpenClaim := { program := "ytolfjeedgedblaa", sum := "1c12849814621e663e2f73b1cb93a7ba08ecae027b40ae7b8b81feb04127a6ab", func := "loop.example/g01096/laws.FnExactDivideFractions", spec := "fnExactDivideFractions", unfollowed := true, recurses := true, apart := false, narrowed := true }
def FnExactDivideFractionsUptoSaid : Prop := fnExactDivideFractionsUptoRow.holds Try.pinned (OpenSpec.upto fnExactDivideFractionsSpec)

/-- 'laws.FnExactAddFractions', WHERE WHAT IT READS IS OF BULK AT MOST 1048576: true; the input reads as it did. -/
def fnExactAddFractionsUptoRow : OpenClaim := { program := "ytolfjeedgedblaa", sum := "1c12849814621e663e2f73b1cb93a7ba08ecae027b40ae7b8b81feb04127a6ab", func := "loop.example/g01096/laws.FnExactAddFractions", spec := "fnExactAddFractions", unfollowed := true, recurses := true, apart := false, narrowed := true }
def FnExactAddFractionsUptoSaid : Prop := fnExactAddFractionsUptoRow.holds Try.pinned (OpenSpec.upto fnExactAddFractionsSpec)

/-- 'laws.FnExactMultiplyFractions', WHERE WHAT IT READS IS OF BULK AT MOST 1048576: true; the input reads as it did. -/
def fnExactMultiplyFractionsUptoRow : OpenClaim := { program := "ytolfjeedgedblaa", sum := "1c12849814621e663e2f73b1cb93a7ba08ecae027b40ae7b8b81feb04127a6ab", func := "loop.example/g01096/laws.FnExactMultiplyFractions", spec := "fnExactMultiplyFractions", unfollowed := true, recurses := true, apart := false, narrowed := true }
def FnExactMultiplyFractionsUptoSaid : Prop := fnExactMultiplyFractionsUptoRow.holds Try.pinned (OpenSpec.upto fnExactMultiplyFractionsSpec)

/-- 'laws.FnExactSubtractFractions', WHERE WHAT IT READS IS OF BULK AT MOST 1048576: true; the input reads as it did. -/
def fnExactSubtractFractionsUptoRow : OpenClaim := { program := "ytolfjeedgedblaa", sum := "1c12849814621e663e2f73b1cb93a7ba08ecae027b40ae7b8b81feb04127a6ab", func := "loop.example/g01096/laws.FnExactSubtractFractions", spec := "fnExactSubtractFractions", unfollowed := true, recurses := true, apart := false, narrowed := true }
def FnExactSubtractFractionsUptoSaid : Prop := fnExactSubtractFractionsUptoRow.holds Try.pinned (OpenSpec.upto fnExactSubtractFractionsSpec)

/-- 'laws.FnExactIsShort', WHERE WHAT IT READS IS OF BULK AT MOST 1048576: true; the input reads as it did. -/
def fnExactIsShortUptoRow : OpenClaim := { program := "ytolfjeedgedblaa", sum := "1c12849814621e663e2f73b1cb93a7ba08ecae027b40ae7b8b81feb04127a6ab", func := "loop.example/g01096/laws.FnExactIsShort", spec := "fnExactIsShort", unfollowed := true, recurses := true, apart := false, narrowed := true }
def FnExactIsShortUptoSaid : Prop := fnExactIsShortUptoRow.holds Try.pinned (OpenSpec.upto fnExactIsShortSpec)

/-- 'laws.FnExactWordOf', WHERE WHAT IT READS IS OF BULK AT MOST 1048576: true; the input reads as it did. -/
def fnExactWordOfUptoRow : OpenClaim := { program := "ytolfjeedgedblaa", sum := "1c12849814621e663e2f73b1cb93a7ba08ecae027b40ae7b8b81feb04127a6ab", func := "loop.example/g01096/laws.FnExactWordOf", spec := "fnExactWordOf", unfollowed := true, recurses := true, apart := false, narrowed := true }
def FnExactWordOfUptoSaid : Prop := fnExactWordOfUptoRow.holds Try.pinned (OpenSpec.upto fnExactWordOfSpec)

/-- 'laws.FnExactDayOf', WHERE WHAT IT READS IS OF BULK AT MOST 1048576: true; the input reads as it did. -/
def fnExactDayOfUptoRow : OpenClaim := { program := "ytolfjeedgedblaa", sum := "1c12849814621e663e2f73b1cb93a7ba08ecae027b40ae7b8b81feb04127a6ab", func := "loop.example/g01096/laws.FnExactDayOf", spec := "fnExactDayOf", unfollowed := true, recurses := true, apart := false, narrowed := true }
def FnExactDayOfUptoSaid : Prop := fnExactDayOfUptoRow.holds Try.pinned (OpenSpec.upto fnExactDayOfSpec)

/-- 'laws.FnExactMeetOf', WHERE WHAT IT READS IS OF BULK AT MOST 1048576: true; the input reads as it did. -/
def fnExactMeetOfUptoRow : OpenClaim := { program := "ytolfjeedgedblaa", sum := "1c12849814621e663e2f73b1cb93a7ba08ecae027b40ae7b8b81feb04127a6ab", func := "loop.example/g01096/laws.FnExactMeetOf", spec := "fnExactMeetOf", unfollowed := true, recurses := true, apart := false, narrowed := true }
def FnExactMeetOfUptoSaid : Prop := fnExactMeetOfUptoRow.holds Try.pinned (OpenSpec.upto fnExactMeetOfSpec)

/-- 'laws.FnFractions', WHERE WHAT IT READS IS OF BULK AT MOST 1048576: true; the input reads as it did. -/
def fnFractionsUptoRow : OpenClaim := { program := "ytolfjeedgedblaa", sum := "1c12849814621e663e2f73b1cb93a7ba08ecae027b40ae7b8b81feb04127a6ab", func := "loop.example/g01096/laws.FnFractions", spec := "fnFractions", unfollowed := true, recurses := true, apart := false, narrowed := true }
def FnFractionsUptoSaid : Prop := fnFractionsUptoRow.holds Try.pinned (OpenSpec.upto fnFractionsSpec)

/-- 'laws.FnExactAncestorsOf', WHERE WHAT IT READS IS OF BULK AT MOST 1048576: true; the input reads as it did. -/
def fnExactAncestorsOfUptoRow : OpenClaim := { program := "ytolfjeedgedblaa", sum := "1c12849814621e663e2f73b1cb93a7ba08ecae027b40ae7b8b81feb04127a6ab", func := "loop.example/g01096/laws.FnExactAncestorsOf", spec := "fnExactAncestorsOf", unfollowed := true, recurses := true, apart := false, narrowed := true }
def FnExactAncestorsOfUptoSaid : Prop := fnExactAncestorsOfUptoRow.holds Try.pinned (OpenSpec.upto fnExactAncestorsOfSpec)

/-- 'laws.FnExactOptionsOf', WHERE WHAT IT READS IS OF BULK AT MOST 1048576: true; the input reads as it did. -/
def fnExactOptionsOfUptoRow : OpenClaim := { program := "ytolfjeedgedblaa", sum := "1c12849814621e663e2f73b1cb93a7ba08ecae027b40ae7b8b81feb04127a6ab", func := "loop.example/g01096/laws.FnExactOptionsOf", spec := "fnExactOptionsOf", unfollowed := true, recurses := true, apart := false, narrowed := true }
def FnExactOptionsOfUptoSaid : Prop := fnExactOptionsOfUptoRow.holds Try.pinned (OpenSpec.upto fnExactOptionsOfSpec)

end Rows
end Go.Proofs.Ytolfjeedgedblaa
