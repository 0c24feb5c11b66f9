/-
  NARROWER THAN 'FOR EVERY INPUT', by the rows' own cells (each row's printed sentence says how): FnExactIsSurreal: loops · FnExactCompareSurreals: loops · FnExactCommonTerms: loops · FnExactIsNegligible: loops · FnExactIsOmnific: loops · FnExactLeadingOf: loops · FnExactNegateSurreal: loops · FnExactOmegaTo: loops · FnExactPartsOf: loops · FnExactIsNotebook: loops.
  DERIVED. THE GIVEN ROWS OF THIS SEAT. 11 by the template 'for every input the law returns true; each argument reads behind the call as it read before'; 0 by the template 'total and deterministic' (their statements: YtfblibmibaiagaaTotals.lean).
  GIVEN WITH THE SEED: the statements are not yours to turn. If you find one false, say at which input.
  Laid BY PROGRAM, IN A SANDBOX (cutbox-rows.mjs): the forced cells as the released guide's own fill.sh prints them over the translation 82c399e8faeb80e0… (all of the seat's roots in one cut). By AI agents, Wed Nov 11 2026. No macro, syntax, notation, axiom, sorry.
-/
import Derived.Test.YtfblibmibaiagaaChecked
import GoSem.Claim
import GoSem.ClaimJoined
import GoSem.ClaimMapViews
import Derived.JoinedTies
import Derived.KernelRfl
namespace Go.Proofs.Ytfblibmibaiagaa
/- THE CELL 'sum', in the pinned program and in every row, IS THE sha256 OF THE DUMP (.gsa) THAT YtfblibmibaiagaaProg.lean LOADS. Nothing in Lean hashes anything: it is a label: what it is worth is what the hold of that sum in a sandbox is worth. -/
noncomputable def Try.pinned : Pinned := { name := "ytfblibmibaiagaa", sum := "82c399e8faeb80e068d1765ad50c23f465a8804b038edeff99ad50b9fd8d65b7", checked := Try.checked }
namespace Rows
def none {H : Type} : Left H := { results := [], args := [] }

/-- 'laws.FnExactFromFraction': WHATEVER THE INPUT: true; the input reads as it did. -/
def fnExactFromFractionSpec : ChangeSpec := { name := "fnExactFromFraction", fn := fun _ => fun
  | [d] => { results := [.lit (.bool true)], args := [d] }
  | _ => none }
def fnExactFromFractionRow : OpenClaim := { program := "ytfblibmibaiagaa", sum := "82c399e8faeb80e068d1765ad50c23f465a8804b038edeff99ad50b9fd8d65b7", func := "loop.example/g01096/laws.FnExactFromFraction", spec := "fnExactFromFraction", recurses := true, apart := false }
def FnExactFromFractionSaid : Prop := fnExactFromFractionRow.holds Try.pinned (OpenSpec.ofChange fnExactFromFractionSpec)

/-- ITS FALSE NEIGHBOUR: 'it returns false'. Refute it at one input. -/
def fnExactFromFractionWrong : ChangeSpec := { name := "fnExactFromFraction", fn := fun _ => fun
  | [d] => { results := [.lit (.bool false)], args := [d] }
  | _ => none }
def FnExactFromFractionWrongFalsely : Prop := fnExactFromFractionRow.holds Try.pinned (OpenSpec.ofChange fnExactFromFractionWrong)

/-- 'laws.FnExactIsSurreal': WHATEVER THE INPUT: true; the input reads as it did. -/
def fnExactIsSurrealSpec : ChangeSpec := { name := "fnExactIsSurreal", fn := fun _ => fun
  | [d] => { results := [.lit (.bool true)], args := [d] }
  | _ => none }
def fnExactIsSurrealRow : OpenClaim := { program := "ytfblibmibaiagaa", sum := "82c399e8faeb80e068d1765ad50c23f465a8804b038edeff99ad50b9fd8d65b7", func := "loop.example/g01096/laws.FnExactIsSurreal", spec := "fnExactIsSurreal", recurses := true, loops := true, apart := false }
def FnExactIsSurrealSaid : Prop := fnExactIsSurrealRow.holds Try.pinned (OpenSpec.ofChange fnExactIsSurrealSpec)

/-- ITS FALSE NEIGHBOUR: 'it returns false'. Refute it at one input. -/
def fnExactIsSurrealWrong : ChangeSpec := { name := "fnExactIsSurreal", fn := fun _ => fun
  | [d] => { results := [.lit (.bool false)], args := [d] }
  | _ => none }
def FnExactIsSurrealWrongFalsely : Prop := fnExactIsSurrealRow.holds Try.pinned (OpenSpec.ofChange fnExactIsSurrealWrong)

/-- 'laws.FnExactCompareSurreals': WHATEVER THE INPUT: true; the input reads as it did. -/
def fnExactCompareSurrealsSpec : ChangeSpec := { name := "fnExactCompareSurreals", fn := fun _ => fun
  | [d1, d2] => { results := [.lit (.bool true)], args := [d1, d2] }
  | _ => none }
def fnExactCompareSurrealsRow : OpenClaim := { program := "ytfblibmibaiagaa", sum := "82c399e8faeb80e068d1765ad50c23f465a8804b038edeff99ad50b9fd8d65b7", func := "loop.example/g01096/laws.FnExactCompareSurreals", spec := "fnExactCompareSurreals", recurses := true, loops := true, apart := false }
def FnExactCompareSurrealsSaid : Prop := fnExactCompareSurrealsRow.holds Try.pinned (OpenSpec.ofChange fnExactCompareSurrealsSpec)

/-- ITS FALSE NEIGHBOUR: 'it returns false'. Refute it at one input. -/
def fnExactCompareSurrealsWrong : ChangeSpec := { name := "fnExactCompareSurreals", fn := fun _ => fun
  | [d1, d2] => { results := [.lit (.bool false)], args := [d1, d2] }
  | _ => none }
def FnExactCompareSurrealsWrongFalsely : Prop := fnExactCompareSurrealsRow.holds Try.pinned (OpenSpec.ofChange fnExactCompareSurrealsWrong)

/-- 'laws.FnExactCommonTerms': WHATEVER THE INPUT: true; the input reads as it did. -/
def fnExactCommonTermsSpec : ChangeSpec := { name := "fnExactCommonTerms", fn := fun _ => fun
  | [d1, d2] => { results := [.lit (.bool true)], args := [d1, d2] }
  | _ => none }
def fnExactCommonTermsRow : OpenClaim := { program := "ytfblibmibaiagaa", sum := "82c399e8faeb80e068d1765ad50c23f465a8804b038edeff99ad50b9fd8d65b7", func := "loop.example/g01096/laws.FnExactCommonTerms", spec := "fnExactCommonTerms", recurses := true, loops := true, apart := false }
def FnExactCommonTermsSaid : Prop := fnExactCommonTermsRow.holds Try.pinned (OpenSpec.ofChange fnExactCommonTermsSpec)

/-- ITS FALSE NEIGHBOUR: 'it returns false'. Refute it at one input. -/
def fnExactCommonTermsWrong : ChangeSpec := { name := "fnExactCommonTerms", fn := fun _ => fun
  | [d1, d2] => { results := [.lit (.bool false)], args := [d1, d2] }
  | _ => none }
def FnExactCommonTermsWrongFalsely : Prop := fnExactCommonTermsRow.holds Try.pinned (OpenSpec.ofChange fnExactCommonTermsWrong)

/-- 'laws.FnExactIsNegligible': WHATEVER THE INPUT: true; the input reads as it did. -/
def fnExactIsNegligibleSpec : ChangeSpec := { name := "fnExactIsNegligible", fn := fun _ => fun
  | [d1, d2] => { results := [.lit (.bool true)], args := [d1, d2] }
  | _ => none }
def fnExactIsNegligibleRow : OpenClaim := { program := "ytfblibmibaiagaa", sum := "82c399e8faeb80e068d1765ad50c23f465a8804b038edeff99ad50b9fd8d65b7", func := "loop.example/g01096/laws.FnExactIsNegligible", spec := "fnExactIsNegligible", recurses := true, loops := true, apart := false }
def FnExactIsNegligibleSaid : Prop := fnExactIsNegligibleRow.holds Try.pinned (OpenSpec.ofChange fnExactIsNegligibleSpec)

/-- ITS FALSE NEIGHBOUR: 'it returns false'. Refute it at one input. -/
def fnExactIsNegligibleWrong : ChangeSpec := { name := "fnExactIsNegligible", fn := fun _ => fun
  | [d1, d2] => { results := [.lit (.bool false)], args := [d1, d2] }
  | _ => none }
def FnExactIsNegligibleWrongFalsely : Prop := fnExactIsNegligibleRow.holds Try.pinned (OpenSpec.ofChange fnExactIsNegligibleWrong)

/-- 'laws.FnExactIsOmnific': WHATEVER THE INPUT: true; the input reads as it did. -/
def fnExactIsOmnificSpec : ChangeSpec := { name := "fnExactIsOmnific", fn := fun _ => fun
  | [d] => { results := [.lit (.bool true)], args := [d] }
  | _ => none }
def fnExactIsOmnificRow : OpenClaim := { program := "ytfblibmibaiagaa", sum := "82c399e8faeb80e068d1765ad50c23f465a8804b038edeff99ad50b9fd8d65b7", func := "loop.example/g01096/laws.FnExactIsOmnific", spec := "fnExactIsOmnific", recurses := true, loops := true, apart := false }
def FnExactIsOmnificSaid : Prop := fnExactIsOmnificRow.holds Try.pinned (OpenSpec.ofChange fnExactIsOmnificSpec)

/-- ITS FALSE NEIGHBOUR: 'it returns false'. Refute it at one input. -/
def fnExactIsOmnificWrong : ChangeSpec := { name := "fnExactIsOmnific", fn := fun _ => fun
  | [d] => { results := [.lit (.bool false)], args := [d] }
  | _ => none }
def FnExactIsOmnificWrongFalsely : Prop := fnExactIsOmnificRow.holds Try.pinned (OpenSpec.ofChange fnExactIsOmnificWrong)

/-- 'laws.FnExactLeadingOf': WHATEVER THE INPUT: true; the input reads as it did. -/
def fnExactLeadingOfSpec : ChangeSpec := { name := "fnExactLeadingOf", fn := fun _ => fun
  | [d] => { results := [.lit (.bool true)], args := [d] }
  | _ => none }
def fnExactLeadingOfRow : OpenClaim := { program := "ytfblibmibaiagaa", sum := "82c399e8faeb80e068d1765ad50c23f465a8804b038edeff99ad50b9fd8d65b7", func := "loop.example/g01096/laws.FnExactLeadingOf", spec := "fnExactLeadingOf", recurses := true, loops := true, apart := false }
def FnExactLeadingOfSaid : Prop := fnExactLeadingOfRow.holds Try.pinned (OpenSpec.ofChange fnExactLeadingOfSpec)

/-- ITS FALSE NEIGHBOUR: 'it returns false'. Refute it at one input. -/
def fnExactLeadingOfWrong : ChangeSpec := { name := "fnExactLeadingOf", fn := fun _ => fun
  | [d] => { results := [.lit (.bool false)], args := [d] }
  | _ => none }
def FnExactLeadingOfWrongFalsely : Prop := fnExactLeadingOfRow.holds Try.pinned (OpenSpec.ofChange fnExactLeadingOfWrong)

/-- 'laws.FnExactNegateSurreal': WHATEVER THE INPUT: true; the input reads as it did. -/
def fnExactNegateSurrealSpec : ChangeSpec := { name := "fnExactNegateSurreal", fn := fun _ => fun
  | [d] => { results := [.lit (.bool true)], args := [d] }
  | _ => none }
def fnExactNegateSurrealRow : OpenClaim := { program := "ytfblibmibaiagaa", sum := "82c399e8faeb80e068d1765ad50c23f465a8804b038edeff99ad50b9fd8d65b7", func := "loop.example/g01096/laws.FnExactNegateSurreal", spec := "fnExactNegateSurreal", recurses := true, loops := true, apart := false }
def FnExactNegateSurrealSaid : Prop := fnExactNegateSurrealRow.holds Try.pinned (OpenSpec.ofChange fnExactNegateSurrealSpec)

/-- ITS FALSE NEIGHBOUR: 'it returns false'. Refute it at one input. -/
def fnExactNegateSurrealWrong : ChangeSpec := { name := "fnExactNegateSurreal", fn := fun _ => fun
  | [d] => { results := [.lit (.bool false)], args := [d] }
  | _ => none }
def FnExactNegateSurrealWrongFalsely : Prop := fnExactNegateSurrealRow.holds Try.pinned (OpenSpec.ofChange fnExactNegateSurrealWrong)

/-- 'laws.FnExactOmegaTo': WHATEVER THE INPUT: true; the input reads as it did. -/
def fnExactOmegaToSpec : ChangeSpec := { name := "fnExactOmegaTo", fn := fun _ => fun
  | [d] => { results := [.lit (.bool true)], args := [d] }
  | _ => none }
def fnExactOmegaToRow : OpenClaim := { program := "ytfblibmibaiagaa", sum := "82c399e8faeb80e068d1765ad50c23f465a8804b038edeff99ad50b9fd8d65b7", func := "loop.example/g01096/laws.FnExactOmegaTo", spec := "fnExactOmegaTo", recurses := true, loops := true, apart := false }
def FnExactOmegaToSaid : Prop := fnExactOmegaToRow.holds Try.pinned (OpenSpec.ofChange fnExactOmegaToSpec)

/-- ITS FALSE NEIGHBOUR: 'it returns false'. Refute it at one input. -/
def fnExactOmegaToWrong : ChangeSpec := { name := "fnExactOmegaTo", fn := fun _ => fun
  | [d] => { results := [.lit (.bool false)], args := [d] }
  | _ => none }
def FnExactOmegaToWrongFalsely : Prop := fnExactOmegaToRow.holds Try.pinned (OpenSpec.ofChange fnExactOmegaToWrong)

/-- 'laws.FnExactPartsOf': WHATEVER THE INPUT: true; the input reads as it did. -/
def fnExactPartsOfSpec : ChangeSpec := { name := "fnExactPartsOf", fn := fun _ => fun
  | [d] => { results := [.lit (.bool true)], args := [d] }
  | _ => none }
def fnExactPartsOfRow : OpenClaim := { program := "ytfblibmibaiagaa", sum := "82c399e8faeb80e068d1765ad50c23f465a8804b038edeff99ad50b9fd8d65b7", func := "loop.example/g01096/laws.FnExactPartsOf", spec := "fnExactPartsOf", recurses := true, loops := true, apart := false }
def FnExactPartsOfSaid : Prop := fnExactPartsOfRow.holds Try.pinned (OpenSpec.ofChange fnExactPartsOfSpec)

/-- ITS FALSE NEIGHBOUR: 'it returns false'. Refute it at one input. -/
def fnExactPartsOfWrong : ChangeSpec := { name := "fnExactPartsOf", fn := fun _ => fun
  | [d] => { results := [.lit (.bool false)], args := [d] }
  | _ => none }
def FnExactPartsOfWrongFalsely : Prop := fnExactPartsOfRow.holds Try.pinned (OpenSpec.ofChange fnExactPartsOfWrong)

/-- 'laws.FnExactIsNotebook': WHATEVER THE INPUT: true; the input reads as it did. -/
def fnExactIsNotebookSpec : ChangeSpec := { name := "fnExactIsNotebook", fn := fun _ => fun
  | [d] => { results := [.lit (.bool true)], args := [d] }
  | _ => none }
def fnExactIsNotebookRow : OpenClaim := { program := "ytfblibmibaiagaa", sum := "82c399e8faeb80e068d1765ad50c23f465a8804b038edeff99ad50b9fd8d65b7", func := "loop.example/g01096/laws.FnExactIsNotebook", spec := "fnExactIsNotebook", recurses := true, loops := true, apart := false }
def FnExactIsNotebookSaid : Prop := fnExactIsNotebookRow.holds Try.pinned (OpenSpec.ofChange fnExactIsNotebookSpec)

/-- ITS FALSE NEIGHBOUR: 'it returns false'. Refute it at one input. -/
def fnExactIsNotebookWrong : ChangeSpec := { name := "fnExactIsNotebook", fn := fun _ => fun
  | [d] => { results := [.lit (.bool false)], args := [d] }
  | _ => none }
def FnExactIsNotebookWrongFalsely : Prop := fnExactIsNotebookRow.holds Try.pinned (OpenSpec.ofChange fnExactIsNotebookWrong)

/- THE SECOND FORM. 'bulk': how many values and letters a reading holds, each counted each time it is reached (what is shared counts as often as it is met; a slice's spare places count too). A statement '..UptoSaid' is the law's where the arguments, and the package variables that the reading takes, are together of bulk at most 1048576: NARROWER than '..Said'. Prove '..Said' where nothing that the law and all that it calls make is longer than what came in: it says more and counts as full. Else prove '..UptoSaid'. A law counts once. -/
mutual
def uptoBulk {H : Type} : DataW H → Nat
  | .lit (.string bytes) => bytes.length + 1
  | .lit _ => 1
  | .nil => 1
  | .ptr d => uptoBulk d + 1
  | .slice elems spare => uptoBulkAll elems + uptoBulkAll spare + 1
  | .agg parts => uptoBulkAll parts + 1
  | .iface _ d => uptoBulk d + 1
  | .map entries => uptoBulkEntries entries + 1
  | .held _ => 1
def uptoBulkAll {H : Type} : List (DataW H) → Nat
  | [] => 0
  | d :: r => uptoBulk d + uptoBulkAll r
def uptoBulkEntries {H : Type} : List (Lit × DataW H) → Nat
  | [] => 0
  | x :: r => uptoBulkEntry x + uptoBulkEntries r
def uptoBulkEntry {H : Type} : Lit × DataW H → Nat
  | (.string bytes, d) => bytes.length + uptoBulk d + 1
  | (_, d) => uptoBulk d + 1
 end
def uptoSmall : (H : Type) → List (DataW H) → Bool := fun _ ds => decide (uptoBulkAll ds ≤ 1048576)
def OpenSpec.upto (s : _root_.Go.ChangeSpec) : _root_.Go.OpenSpec := { _root_.Go.OpenSpec.ofChange s with cond := some uptoSmall }

/-- 'laws.FnExactFromFraction', WHERE WHAT IT READS IS OF BULK AT MOST 1048576: true; the input reads as it did. -/
def fnExactFromFractionUptoRow : OpenClaim := { program := "ytfblibmibaiagaa", sum := "82c399e8faeb80e068d1765ad50c23f465a8804b038edeff99ad50b9fd8d65b7", func := "loop.example/g01096/laws.FnExactFromFraction", spec := "fnExactFromFraction", recurses := true, apart := false, narrowed := true }
def FnExactFromFractionUptoSaid : Prop := fnExactFromFractionUptoRow.holds Try.pinned (OpenSpec.upto fnExactFromFractionSpec)

/-- 'laws.FnExactIsSurreal', WHERE WHAT IT READS IS OF BULK AT MOST 1048576: true; the input reads as it did. -/
def fnExactIsSurrealUptoRow : OpenClaim := { program := "ytfblibmibaiagaa", sum := "82c399e8faeb80e068d1765ad50c23f465a8804b038edeff99ad50b9fd8d65b7", func := "loop.example/g01096/laws.FnExactIsSurreal", spec := "fnExactIsSurreal", recurses := true, loops := true, apart := false, narrowed := true }
def FnExactIsSurrealUptoSaid : Prop := fnExactIsSurrealUptoRow.holds Try.pinned (OpenSpec.upto fnExactIsSurrealSpec)

/-- 'laws.FnExactCompareSurreals', WHERE WHAT IT READS IS OF BULK AT MOST 1048576: true; the input reads as it did. -/
def fnExactCompareSurrealsUptoRow : OpenClaim := { program := "ytfblibmibaiagaa", sum := "82c399e8faeb80e068d1765ad50c23f465a8804b038edeff99ad50b9fd8d65b7", func := "loop.example/g01096/laws.FnExactCompareSurreals", spec := "fnExactCompareSurreals", recurses := true, loops := true, apart := false, narrowed := true }
def FnExactCompareSurrealsUptoSaid : Prop := fnExactCompareSurrealsUptoRow.holds Try.pinned (OpenSpec.upto fnExactCompareSurrealsSpec)

/-- 'laws.FnExactCommonTerms', WHERE WHAT IT READS IS OF BULK AT MOST 1048576: true; the input reads as it did. -/
def fnExactCommonTermsUptoRow : OpenClaim := { program := "ytfblibmibaiagaa", sum := "82c399e8faeb80e068d1765ad50c23f465a8804b038edeff99ad50b9fd8d65b7", func := "loop.example/g01096/laws.FnExactCommonTerms", spec := "fnExactCommonTerms", recurses := true, loops := true, apart := false, narrowed := true }
def FnExactCommonTermsUptoSaid : Prop := fnExactCommonTermsUptoRow.holds Try.pinned (OpenSpec.upto fnExactCommonTermsSpec)

/-- 'laws.FnExactIsNegligible', WHERE WHAT IT READS IS OF BULK AT MOST 1048576: true; the input reads as it did. -/
def fnExactIsNegligibleUptoRow : OpenClaim := { program := "ytfblibmibaiagaa", sum := "82c399e8faeb80e068d1765ad50c23f465a8804b038edeff99ad50b9fd8d65b7", func := "loop.example/g01096/laws.FnExactIsNegligible", spec := "fnExactIsNegligible", recurses := true, loops := true, apart := false, narrowed := true }
def FnExactIsNegligibleUptoSaid : Prop := fnExactIsNegligibleUptoRow.holds Try.pinned (OpenSpec.upto fnExactIsNegligibleSpec)

/-- 'laws.FnExactIsOmnific', WHERE WHAT IT READS IS OF BULK AT MOST 1048576: true; the input reads as it did. -/
def fnExactIsOmnificUptoRow : OpenClaim := { program := "ytfblibmibaiagaa", sum := "82c399e8faeb80e068d1765ad50c23f465a8804b038edeff99ad50b9fd8d65b7", func := "loop.example/g01096/laws.FnExactIsOmnific", spec := "fnExactIsOmnific", recurses := true, loops := true, apart := false, narrowed := true }
def FnExactIsOmnificUptoSaid : Prop := fnExactIsOmnificUptoRow.holds Try.pinned (OpenSpec.upto fnExactIsOmnificSpec)

/-- 'laws.FnExactLeadingOf', WHERE WHAT IT READS IS OF BULK AT MOST 1048576: true; the input reads as it did. -/
def fnExactLeadingOfUptoRow : OpenClaim := { program := "ytfblibmibaiagaa", sum := "82c399e8faeb80e068d1765ad50c23f465a8804b038edeff99ad50b9fd8d65b7", func := "loop.example/g01096/laws.FnExactLeadingOf", spec := "fnExactLeadingOf", recurses := true, loops := true, apart := false, narrowed := true }
def FnExactLeadingOfUptoSaid : Prop := fnExactLeadingOfUptoRow.holds Try.pinned (OpenSpec.upto fnExactLeadingOfSpec)

/-- 'laws.FnExactNegateSurreal', WHERE WHAT IT READS IS OF BULK AT MOST 1048576: true; the input reads as it did. -/
def fnExactNegateSurrealUptoRow : OpenClaim := { program := "ytfblibmibaiagaa", sum := "82c399e8faeb80e068d1765ad50c23f465a8804b038edeff99ad50b9fd8d65b7", func := "loop.example/g01096/laws.FnExactNegateSurreal", spec := "fnExactNegateSurreal", recurses := true, loops := true, apart := false, narrowed := true }
def FnExactNegateSurrealUptoSaid : Prop := fnExactNegateSurrealUptoRow.holds Try.pinned (OpenSpec.upto fnExactNegateSurrealSpec)

/-- 'laws.FnExactOmegaTo', WHERE WHAT IT READS IS OF BULK AT MOST 1048576: true; the input reads as it did. -/
def fnExactOmegaToUptoRow : OpenClaim := { program := "ytfblibmibaiagaa", sum := "82c399e8faeb80e068d1765ad50c23f465a8804b038edeff99ad50b9fd8d65b7", func := "loop.example/g01096/laws.FnExactOmegaTo", spec := "fnExactOmegaTo", recurses := true, loops := true, apart := false, narrowed := true }
def FnExactOmegaToUptoSaid : Prop := fnExactOmegaToUptoRow.holds Try.pinned (OpenSpec.upto fnExactOmegaToSpec)

/-- 'laws.FnExactPartsOf', WHERE WHAT IT READS IS OF BULK AT MOST 1048576: true; the input reads as it did. -/
def fnExactPartsOfUptoRow : OpenClaim := { program := "ytfblibmibaiagaa", sum := "82c399e8faeb80e068d1765ad50c23f465a8804b038edeff99ad50b9fd8d65b7", func := "loop.example/g01096/laws.FnExactPartsOf", spec := "fnExactPartsOf", recurses := true, loops := true, apart := false, narrowed := true }
def FnExactPartsOfUptoSaid : Prop := fnExactPartsOfUptoRow.holds Try.pinned (OpenSpec.upto fnExactPartsOfSpec)

/-- 'laws.FnExactIsNotebook', WHERE WHAT IT READS IS OF BULK AT MOST 1048576: true; the input reads as it did. -/
def fnExactIsNotebookUptoRow : OpenClaim := { program := "ytfblibmibaiagaa", sum := "82c399e8faeb80e068d1765ad50c23f465a8804b038edeff99ad50b9fd8d65b7", func := "loop.example/g01096/laws.FnExactIsNotebook", spec := "fnExactIsNotebook", recurses := true, loops := true, apart := false, narrowed := true }
def FnExactIsNotebookUptoSaid : Prop := fnExactIsNotebookUptoRow.holds Try.pinned (OpenSpec.upto fnExactIsNotebookSpec)

end Rows
end Go.Proofs.Ytfblibmibaiagaa
