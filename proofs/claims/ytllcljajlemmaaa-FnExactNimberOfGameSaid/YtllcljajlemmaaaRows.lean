/-
  No cell of these rows narrows 'for every input' (looked for: loops, veiled, ifaces, maps, wideKeys, modest, calm, conditions, laid).
  DERIVED. THE GIVEN ROWS OF THIS SEAT. 10 by the template 'for every input the law returns true; each argument reads behind the call as it read before'; 0 by the template 'total and deterministic' (their statements: YtllcljajlemmaaaTotals.lean).
  GIVEN WITH THE SEED: the statements are not yours to turn. If you find one false, say at which input.
  Laid BY PROGRAM, IN A SANDBOX (cutbox-rows.mjs): the forced cells as the released guide's own fill.sh prints them over the translation 89708456bb7772bb… (all of the seat's roots in one cut). By AI agents, Wed Nov 11 2026. No macro, syntax, notation, axiom, sorry.
-/
import Derived.Test.YtllcljajlemmaaaChecked
import GoSem.Claim
import GoSem.ClaimJoined
import GoSem.ClaimMapViews
import Derived.JoinedTies
import Derived.KernelRfl
namespace Go.Proofs.Ytllcljajlemmaaa
/- THE CELL 'sum', in the pinned program and in every row, IS THE sha256 OF THE DUMP (.gsa) THAT YtllcljajlemmaaaProg.lean LOADS. Nothing in Lean hashes anything: it is a label: what it is worth is what the hold of that sum in a sandbox is worth. -/
noncomputable def Try.pinned : Pinned := { name := "ytllcljajlemmaaa", sum := "89708456bb7772bbc9b9c41b807f2a417a5f8879e15c9e4d4649fba64f0f9a9a", checked := Try.checked }
namespace Rows
def none {H : Type} : Left H := { results := [], args := [] }

/-- 'laws.FnExactAddGames': WHATEVER THE INPUT: true; the input reads as it did. -/
def fnExactAddGamesSpec : ChangeSpec := { name := "fnExactAddGames", fn := fun _ => fun
  | [d1, d2] => { results := [.lit (.bool true)], args := [d1, d2] }
  | _ => none }
def fnExactAddGamesRow : OpenClaim := { program := "ytllcljajlemmaaa", sum := "89708456bb7772bbc9b9c41b807f2a417a5f8879e15c9e4d4649fba64f0f9a9a", func := "loop.example/g01096/laws.FnExactAddGames", spec := "fnExactAddGames", unfollowed := true, recurses := true, plainKeys := false, apart := false }
def FnExactAddGamesSaid : Prop := fnExactAddGamesRow.holds Try.pinned (OpenSpec.ofChange fnExactAddGamesSpec)

/-- ITS FALSE NEIGHBOUR: 'it returns false'. Refute it at one input. -/
def fnExactAddGamesWrong : ChangeSpec := { name := "fnExactAddGames", fn := fun _ => fun
  | [d1, d2] => { results := [.lit (.bool false)], args := [d1, d2] }
  | _ => none }
def FnExactAddGamesWrongFalsely : Prop := fnExactAddGamesRow.holds Try.pinned (OpenSpec.ofChange fnExactAddGamesWrong)

/-- 'laws.FnExactSimpleForm': WHATEVER THE INPUT: true; the input reads as it did. -/
def fnExactSimpleFormSpec : ChangeSpec := { name := "fnExactSimpleForm", fn := fun _ => fun
  | [d] => { results := [.lit (.bool true)], args := [d] }
  | _ => none }
def fnExactSimpleFormRow : OpenClaim := { program := "ytllcljajlemmaaa", sum := "89708456bb7772bbc9b9c41b807f2a417a5f8879e15c9e4d4649fba64f0f9a9a", func := "loop.example/g01096/laws.FnExactSimpleForm", spec := "fnExactSimpleForm", unfollowed := true, recurses := true, plainKeys := false, apart := false }
def FnExactSimpleFormSaid : Prop := fnExactSimpleFormRow.holds Try.pinned (OpenSpec.ofChange fnExactSimpleFormSpec)

/-- ITS FALSE NEIGHBOUR: 'it returns false'. Refute it at one input. -/
def fnExactSimpleFormWrong : ChangeSpec := { name := "fnExactSimpleForm", fn := fun _ => fun
  | [d] => { results := [.lit (.bool false)], args := [d] }
  | _ => none }
def FnExactSimpleFormWrongFalsely : Prop := fnExactSimpleFormRow.holds Try.pinned (OpenSpec.ofChange fnExactSimpleFormWrong)

/-- 'laws.FnExactCompareGames': WHATEVER THE INPUT: true; the input reads as it did. -/
def fnExactCompareGamesSpec : ChangeSpec := { name := "fnExactCompareGames", fn := fun _ => fun
  | [d1, d2, d3] => { results := [.lit (.bool true)], args := [d1, d2, d3] }
  | _ => none }
def fnExactCompareGamesRow : OpenClaim := { program := "ytllcljajlemmaaa", sum := "89708456bb7772bbc9b9c41b807f2a417a5f8879e15c9e4d4649fba64f0f9a9a", func := "loop.example/g01096/laws.FnExactCompareGames", spec := "fnExactCompareGames", recurses := true, plainKeys := false, apart := false }
def FnExactCompareGamesSaid : Prop := fnExactCompareGamesRow.holds Try.pinned (OpenSpec.ofChange fnExactCompareGamesSpec)

/-- ITS FALSE NEIGHBOUR: 'it returns false'. Refute it at one input. -/
def fnExactCompareGamesWrong : ChangeSpec := { name := "fnExactCompareGames", fn := fun _ => fun
  | [d1, d2, d3] => { results := [.lit (.bool false)], args := [d1, d2, d3] }
  | _ => none }
def FnExactCompareGamesWrongFalsely : Prop := fnExactCompareGamesRow.holds Try.pinned (OpenSpec.ofChange fnExactCompareGamesWrong)

/-- 'laws.FnExactOutcomeOf': WHATEVER THE INPUT: true; the input reads as it did. -/
def fnExactOutcomeOfSpec : ChangeSpec := { name := "fnExactOutcomeOf", fn := fun _ => fun
  | [d1, d2] => { results := [.lit (.bool true)], args := [d1, d2] }
  | _ => none }
def fnExactOutcomeOfRow : OpenClaim := { program := "ytllcljajlemmaaa", sum := "89708456bb7772bbc9b9c41b807f2a417a5f8879e15c9e4d4649fba64f0f9a9a", func := "loop.example/g01096/laws.FnExactOutcomeOf", spec := "fnExactOutcomeOf", recurses := true, plainKeys := false, apart := false }
def FnExactOutcomeOfSaid : Prop := fnExactOutcomeOfRow.holds Try.pinned (OpenSpec.ofChange fnExactOutcomeOfSpec)

/-- ITS FALSE NEIGHBOUR: 'it returns false'. Refute it at one input. -/
def fnExactOutcomeOfWrong : ChangeSpec := { name := "fnExactOutcomeOf", fn := fun _ => fun
  | [d1, d2] => { results := [.lit (.bool false)], args := [d1, d2] }
  | _ => none }
def FnExactOutcomeOfWrongFalsely : Prop := fnExactOutcomeOfRow.holds Try.pinned (OpenSpec.ofChange fnExactOutcomeOfWrong)

/-- 'laws.FnExactGameOfShort': WHATEVER THE INPUT: true; the input reads as it did. -/
def fnExactGameOfShortSpec : ChangeSpec := { name := "fnExactGameOfShort", fn := fun _ => fun
  | [d] => { results := [.lit (.bool true)], args := [d] }
  | _ => none }
def fnExactGameOfShortRow : OpenClaim := { program := "ytllcljajlemmaaa", sum := "89708456bb7772bbc9b9c41b807f2a417a5f8879e15c9e4d4649fba64f0f9a9a", func := "loop.example/g01096/laws.FnExactGameOfShort", spec := "fnExactGameOfShort", unfollowed := true, recurses := true, plainKeys := false, apart := false }
def FnExactGameOfShortSaid : Prop := fnExactGameOfShortRow.holds Try.pinned (OpenSpec.ofChange fnExactGameOfShortSpec)

/-- ITS FALSE NEIGHBOUR: 'it returns false'. Refute it at one input. -/
def fnExactGameOfShortWrong : ChangeSpec := { name := "fnExactGameOfShort", fn := fun _ => fun
  | [d] => { results := [.lit (.bool false)], args := [d] }
  | _ => none }
def FnExactGameOfShortWrongFalsely : Prop := fnExactGameOfShortRow.holds Try.pinned (OpenSpec.ofChange fnExactGameOfShortWrong)

/-- 'laws.FnExactNimberOfGame': WHATEVER THE INPUT: true; the input reads as it did. -/
def fnExactNimberOfGameSpec : ChangeSpec := { name := "fnExactNimberOfGame", fn := fun _ => fun
  | [d1, d2] => { results := [.lit (.bool true)], args := [d1, d2] }
  | _ => none }
def fnExactNimberOfGameRow : OpenClaim := { program := "ytllcljajlemmaaa", sum := "89708456bb7772bbc9b9c41b807f2a417a5f8879e15c9e4d4649fba64f0f9a9a", func := "loop.example/g01096/laws.FnExactNimberOfGame", spec := "fnExactNimberOfGame", unfollowed := true, recurses := true, plainKeys := false, apart := false }
def FnExactNimberOfGameSaid : Prop := fnExactNimberOfGameRow.holds Try.pinned (OpenSpec.ofChange fnExactNimberOfGameSpec)

/-- ITS FALSE NEIGHBOUR: 'it returns false'. Refute it at one input. -/
def fnExactNimberOfGameWrong : ChangeSpec := { name := "fnExactNimberOfGame", fn := fun _ => fun
  | [d1, d2] => { results := [.lit (.bool false)], args := [d1, d2] }
  | _ => none }
def FnExactNimberOfGameWrongFalsely : Prop := fnExactNimberOfGameRow.holds Try.pinned (OpenSpec.ofChange fnExactNimberOfGameWrong)

/-- 'laws.FnExactCutOf': WHATEVER THE INPUT: true; the input reads as it did. -/
def fnExactCutOfSpec : ChangeSpec := { name := "fnExactCutOf", fn := fun _ => fun
  | [d1, d2] => { results := [.lit (.bool true)], args := [d1, d2] }
  | _ => none }
def fnExactCutOfRow : OpenClaim := { program := "ytllcljajlemmaaa", sum := "89708456bb7772bbc9b9c41b807f2a417a5f8879e15c9e4d4649fba64f0f9a9a", func := "loop.example/g01096/laws.FnExactCutOf", spec := "fnExactCutOf", unfollowed := true, recurses := true, plainKeys := false, apart := false }
def FnExactCutOfSaid : Prop := fnExactCutOfRow.holds Try.pinned (OpenSpec.ofChange fnExactCutOfSpec)

/-- ITS FALSE NEIGHBOUR: 'it returns false'. Refute it at one input. -/
def fnExactCutOfWrong : ChangeSpec := { name := "fnExactCutOf", fn := fun _ => fun
  | [d1, d2] => { results := [.lit (.bool false)], args := [d1, d2] }
  | _ => none }
def FnExactCutOfWrongFalsely : Prop := fnExactCutOfRow.holds Try.pinned (OpenSpec.ofChange fnExactCutOfWrong)

/-- 'laws.FnCutsHaveReasons': WHATEVER THE INPUT: true; the input reads as it did. -/
def fnCutsHaveReasonsSpec : ChangeSpec := { name := "fnCutsHaveReasons", fn := fun _ => fun
  | [d1, d2] => { results := [.lit (.bool true)], args := [d1, d2] }
  | _ => none }
def fnCutsHaveReasonsRow : OpenClaim := { program := "ytllcljajlemmaaa", sum := "89708456bb7772bbc9b9c41b807f2a417a5f8879e15c9e4d4649fba64f0f9a9a", func := "loop.example/g01096/laws.FnCutsHaveReasons", spec := "fnCutsHaveReasons", unfollowed := true, recurses := true, plainKeys := false, apart := false }
def FnCutsHaveReasonsSaid : Prop := fnCutsHaveReasonsRow.holds Try.pinned (OpenSpec.ofChange fnCutsHaveReasonsSpec)

/-- ITS FALSE NEIGHBOUR: 'it returns false'. Refute it at one input. -/
def fnCutsHaveReasonsWrong : ChangeSpec := { name := "fnCutsHaveReasons", fn := fun _ => fun
  | [d1, d2] => { results := [.lit (.bool false)], args := [d1, d2] }
  | _ => none }
def FnCutsHaveReasonsWrongFalsely : Prop := fnCutsHaveReasonsRow.holds Try.pinned (OpenSpec.ofChange fnCutsHaveReasonsWrong)

/-- 'laws.FnExactIsNumberGame': WHATEVER THE INPUT: true; the input reads as it did. -/
def fnExactIsNumberGameSpec : ChangeSpec := { name := "fnExactIsNumberGame", fn := fun _ => fun
  | [d1, d2] => { results := [.lit (.bool true)], args := [d1, d2] }
  | _ => none }
def fnExactIsNumberGameRow : OpenClaim := { program := "ytllcljajlemmaaa", sum := "89708456bb7772bbc9b9c41b807f2a417a5f8879e15c9e4d4649fba64f0f9a9a", func := "loop.example/g01096/laws.FnExactIsNumberGame", spec := "fnExactIsNumberGame", unfollowed := true, recurses := true, plainKeys := false, apart := false }
def FnExactIsNumberGameSaid : Prop := fnExactIsNumberGameRow.holds Try.pinned (OpenSpec.ofChange fnExactIsNumberGameSpec)

/-- ITS FALSE NEIGHBOUR: 'it returns false'. Refute it at one input. -/
def fnExactIsNumberGameWrong : ChangeSpec := { name := "fnExactIsNumberGame", fn := fun _ => fun
  | [d1, d2] => { results := [.lit (.bool false)], args := [d1, d2] }
  | _ => none }
def FnExactIsNumberGameWrongFalsely : Prop := fnExactIsNumberGameRow.holds Try.pinned (OpenSpec.ofChange fnExactIsNumberGameWrong)

/-- 'laws.FnExactNumberOfGame': WHATEVER THE INPUT: true; the input reads as it did. -/
def fnExactNumberOfGameSpec : ChangeSpec := { name := "fnExactNumberOfGame", fn := fun _ => fun
  | [d1, d2] => { results := [.lit (.bool true)], args := [d1, d2] }
  | _ => none }
def fnExactNumberOfGameRow : OpenClaim := { program := "ytllcljajlemmaaa", sum := "89708456bb7772bbc9b9c41b807f2a417a5f8879e15c9e4d4649fba64f0f9a9a", func := "loop.example/g01096/laws.FnExactNumberOfGame", spec := "fnExactNumberOfGame", unfollowed := true, recurses := true, plainKeys := false, apart := false }
def FnExactNumberOfGameSaid : Prop := fnExactNumberOfGameRow.holds Try.pinned (OpenSpec.ofChange fnExactNumberOfGameSpec)

/-- ITS FALSE NEIGHBOUR: 'it returns false'. Refute it at one input. -/
def fnExactNumberOfGameWrong : ChangeSpec := { name := "fnExactNumberOfGame", fn := fun _ => fun
  | [d1, d2] => { results := [.lit (.bool false)], args := [d1, d2] }
  | _ => none }
def FnExactNumberOfGameWrongFalsely : Prop := fnExactNumberOfGameRow.holds Try.pinned (OpenSpec.ofChange fnExactNumberOfGameWrong)

/- THE SECOND FORM. 'bulk': how many values and letters a reading holds, each counted each time it is reached (what is shared counts as often as it is met; a slice's spare places count too). A statement '..UptoSaid' is the law's where the arguments, and the package variables that the reading takes, are together of bulk at most 1048576: NARROWER than '..Said'. Prove '..Said' where nothing that the law and all that it calls make is longer than what came in: it says more and counts as full. Else prove '..UptoSaid'. A law counts once. -/
mutual
def uptoBulk {H : Type} : DataW H → Nat
  | .lit (.string bytes) => bytes.length + 1
  | .lit _ => 1
  | .nil => 1
  | .ptr d => uptoBulk d + 1
  | .slice elems spare => uptoBulkAll elems + uptoBulkAll spare + 1
  | .agg parts => uptoBulkAll parts + 1
  | .iface _ d => uptoBulk d + 1
  | .map entries => uptoBulkEntries entries + 1
  | .held _ => 1
def uptoBulkAll {H : Type} : List (DataW H) → Nat
  | [] => 0
  | d :: r => uptoBulk d + uptoBulkAll r
def uptoBulkEntries {H : Type} : List (Lit × DataW H) → Nat
  | [] => 0
  | x :: r => uptoBulkEntry x + uptoBulkEntries r
def uptoBulkEntry {H : Type} : Lit × DataW H → Nat
  | (.string bytes, d) => bytes.length + uptoBulk d + 1
  | (_, d) => uptoBulk d + 1
 end
def uptoSmall : (H : Type) → List (DataW H) → Bool := fun _ ds => decide (uptoBulkAll ds ≤ 1048576)
def OpenSpec.upto (s : _root_.Go.ChangeSpec) : _root_.Go.OpenSpec := { _root_.Go.OpenSpec.ofChange s with cond := some uptoSmall }

/-- 'laws.FnExactAddGames', WHERE WHAT IT READS IS OF BULK AT MOST 1048576: true; the input reads as it did. -/
def fnExactAddGamesUptoRow : OpenClaim := { program := "ytllcljajlemmaaa", sum := "89708456bb7772bbc9b9c41b807f2a417a5f8879e15c9e4d4649fba64f0f9a9a", func := "loop.example/g01096/laws.FnExactAddGames", spec := "fnExactAddGames", unfollowed := true, recurses := true, plainKeys := false, apart := false, narrowed := true }
def FnExactAddGamesUptoSaid : Prop := fnExactAddGamesUptoRow.holds Try.pinned (OpenSpec.upto fnExactAddGamesSpec)

/-- 'laws.FnExactSimpleForm', WHERE WHAT IT READS IS OF BULK AT MOST 1048576: true; the input reads as it did. -/
def fnExactSimpleFormUptoRow : OpenClaim := { program := "ytllcljajlemmaaa", sum := "89708456bb7772bbc9b9c41b807f2a417a5f8879e15c9e4d4649fba64f0f9a9a", func := "loop.example/g01096/laws.FnExactSimpleForm", spec := "fnExactSimpleForm", unfollowed := true, recurses := true, plainKeys := false, apart := false, narrowed := true }
def FnExactSimpleFormUptoSaid : Prop := fnExactSimpleFormUptoRow.holds Try.pinned (OpenSpec.upto fnExactSimpleFormSpec)

/-- 'laws.FnExactCompareGames', WHERE WHAT IT READS IS OF BULK AT MOST 1048576: true; the input reads as it did. -/
def fnExactCompareGamesUptoRow : OpenClaim := { program := "ytllcljajlemmaaa", sum := "89708456bb7772bbc9b9c41b807f2a417a5f8879e15c9e4d4649fba64f0f9a9a", func := "loop.example/g01096/laws.FnExactCompareGames", spec := "fnExactCompareGames", recurses := true, plainKeys := false, apart := false, narrowed := true }
def FnExactCompareGamesUptoSaid : Prop := fnExactCompareGamesUptoRow.holds Try.pinned (OpenSpec.upto fnExactCompareGamesSpec)

/-- 'laws.FnExactOutcomeOf', WHERE WHAT IT READS IS OF BULK AT MOST 1048576: true; the input reads as it did. -/
def fnExactOutcomeOfUptoRow : OpenClaim := { program := "ytllcljajlemmaaa", sum := "89708456bb7772bbc9b9c41b807f2a417a5f8879e15c9e4d4649fba64f0f9a9a", func := "loop.example/g01096/laws.FnExactOutcomeOf", spec := "fnExactOutcomeOf", recurses := true, plainKeys := false, apart := false, narrowed := true }
def FnExactOutcomeOfUptoSaid : Prop := fnExactOutcomeOfUptoRow.holds Try.pinned (OpenSpec.upto fnExactOutcomeOfSpec)

/-- 'laws.FnExactGameOfShort', WHERE WHAT IT READS IS OF BULK AT MOST 1048576: true; the input reads as it did. -/
def fnExactGameOfShortUptoRow : OpenClaim := { program := "ytllcljajlemmaaa", sum := "89708456bb7772bbc9b9c41b807f2a417a5f8879e15c9e4d4649fba64f0f9a9a", func := "loop.example/g01096/laws.FnExactGameOfShort", spec := "fnExactGameOfShort", unfollowed := true, recurses := true, plainKeys := false, apart := false, narrowed := true }
def FnExactGameOfShortUptoSaid : Prop := fnExactGameOfShortUptoRow.holds Try.pinned (OpenSpec.upto fnExactGameOfShortSpec)

/-- 'laws.FnExactNimberOfGame', WHERE WHAT IT READS IS OF BULK AT MOST 1048576: true; the input reads as it did. -/
def fnExactNimberOfGameUptoRow : OpenClaim := { program := "ytllcljajlemmaaa", sum := "89708456bb7772bbc9b9c41b807f2a417a5f8879e15c9e4d4649fba64f0f9a9a", func := "loop.example/g01096/laws.FnExactNimberOfGame", spec := "fnExactNimberOfGame", unfollowed := true, recurses := true, plainKeys := false, apart := false, narrowed := true }
def FnExactNimberOfGameUptoSaid : Prop := fnExactNimberOfGameUptoRow.holds Try.pinned (OpenSpec.upto fnExactNimberOfGameSpec)

/-- 'laws.FnExactCutOf', WHERE WHAT IT READS IS OF BULK AT MOST 1048576: true; the input reads as it did. -/
def fnExactCutOfUptoRow : OpenClaim := { program := "ytllcljajlemmaaa", sum := "89708456bb7772bbc9b9c41b807f2a417a5f8879e15c9e4d4649fba64f0f9a9a", func := "loop.example/g01096/laws.FnExactCutOf", spec := "fnExactCutOf", unfollowed := true, recurses := true, plainKeys := false, apart := false, narrowed := true }
def FnExactCutOfUptoSaid : Prop := fnExactCutOfUptoRow.holds Try.pinned (OpenSpec.upto fnExactCutOfSpec)

/-- 'laws.FnCutsHaveReasons', WHERE WHAT IT READS IS OF BULK AT MOST 1048576: true; the input reads as it did. -/
def fnCutsHaveReasonsUptoRow : OpenClaim := { program := "ytllcljajlemmaaa", sum := "89708456bb7772bbc9b9c41b807f2a417a5f8879e15c9e4d4649fba64f0f9a9a", func := "loop.example/g01096/laws.FnCutsHaveReasons", spec := "fnCutsHaveReasons", unfollowed := true, recurses := true, plainKeys := false, apart := false, narrowed := true }
def FnCutsHaveReasonsUptoSaid : Prop := fnCutsHaveReasonsUptoRow.holds Try.pinned (OpenSpec.upto fnCutsHaveReasonsSpec)

/-- 'laws.FnExactIsNumberGame', WHERE WHAT IT READS IS OF BULK AT MOST 1048576: true; the input reads as it did. -/
def fnExactIsNumberGameUptoRow : OpenClaim := { program := "ytllcljajlemmaaa", sum := "89708456bb7772bbc9b9c41b807f2a417a5f8879e15c9e4d4649fba64f0f9a9a", func := "loop.example/g01096/laws.FnExactIsNumberGame", spec := "fnExactIsNumberGame", unfollowed := true, recurses := true, plainKeys := false, apart := false, narrowed := true }
def FnExactIsNumberGameUptoSaid : Prop := fnExactIsNumberGameUptoRow.holds Try.pinned (OpenSpec.upto fnExactIsNumberGameSpec)

/-- 'laws.FnExactNumberOfGame', WHERE WHAT IT READS IS OF BULK AT MOST 1048576: true; the input reads as it did. -/
def fnExactNumberOfGameUptoRow : OpenClaim := { program := "ytllcljajlemmaaa", sum := "89708456bb7772bbc9b9c41b807f2a417a5f8879e15c9e4d4649fba64f0f9a9a", func := "loop.example/g01096/laws.FnExactNumberOfGame", spec := "fnExactNumberOfGame", unfollowed := true, recurses := true, plainKeys := false, apart := false, narrowed := true }
def FnExactNumberOfGameUptoSaid : Prop := fnExactNumberOfGameUptoRow.holds Try.pinned (OpenSpec.upto fnExactNumberOfGameSpec)

end Rows
end Go.Proofs.Ytllcljajlemmaaa
