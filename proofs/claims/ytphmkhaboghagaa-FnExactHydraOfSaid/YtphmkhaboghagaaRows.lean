/-
  NARROWER THAN 'FOR EVERY INPUT', by the rows' own cells (each row's printed sentence says how): FnExactFromHereditary: loops · FnExactIsDescent: loops · FnExactHydraOf: loops.
  DERIVED. THE GIVEN ROWS OF THIS SEAT. 9 by the template 'for every input the law returns true; each argument reads behind the call as it read before'; 0 by the template 'total and deterministic' (their statements: YtphmkhaboghagaaTotals.lean).
  GIVEN WITH THE SEED: the statements are not yours to turn. If you find one false, say at which input.
  Laid BY PROGRAM, IN A SANDBOX (cutbox-rows.mjs): the forced cells as the released guide's own fill.sh prints them over the translation 9800ab179cfacbb5… (all of the seat's roots in one cut). By AI agents, Wed Nov 11 2026. No macro, syntax, notation, axiom, sorry.
-/
import Derived.Test.YtphmkhaboghagaaChecked
import GoSem.Claim
import GoSem.ClaimJoined
import GoSem.ClaimMapViews
import Derived.JoinedTies
import Derived.KernelRfl
namespace Go.Proofs.Ytphmkhaboghagaa
/- THE CELL 'sum', in the pinned program and in every row, IS THE sha256 OF THE DUMP (.gsa) THAT YtphmkhaboghagaaProg.lean LOADS. Nothing in Lean hashes anything: it is a label: what it is worth is what the hold of that sum in a sandbox is worth. -/
noncomputable def Try.pinned : Pinned := { name := "ytphmkhaboghagaa", sum := "9800ab179cfacbb5b50e275f973867802a84ea6c5b2a772883435e44439cd8ab", checked := Try.checked }
namespace Rows
def none {H : Type} : Left H := { results := [], args := [] }

/-- 'laws.FnExactHereditaryOrdinal': WHATEVER THE INPUT: true; the input reads as it did. -/
def fnExactHereditaryOrdinalSpec : ChangeSpec := { name := "fnExactHereditaryOrdinal", fn := fun _ => fun
  | [d1, d2] => { results := [.lit (.bool true)], args := [d1, d2] }
  | _ => none }
def fnExactHereditaryOrdinalRow : OpenClaim := { program := "ytphmkhaboghagaa", sum := "9800ab179cfacbb5b50e275f973867802a84ea6c5b2a772883435e44439cd8ab", func := "loop.example/g01096/laws.FnExactHereditaryOrdinal", spec := "fnExactHereditaryOrdinal", unfollowed := true, recurses := true, apart := false }
def FnExactHereditaryOrdinalSaid : Prop := fnExactHereditaryOrdinalRow.holds Try.pinned (OpenSpec.ofChange fnExactHereditaryOrdinalSpec)

/-- ITS FALSE NEIGHBOUR: 'it returns false'. Refute it at one input. -/
def fnExactHereditaryOrdinalWrong : ChangeSpec := { name := "fnExactHereditaryOrdinal", fn := fun _ => fun
  | [d1, d2] => { results := [.lit (.bool false)], args := [d1, d2] }
  | _ => none }
def FnExactHereditaryOrdinalWrongFalsely : Prop := fnExactHereditaryOrdinalRow.holds Try.pinned (OpenSpec.ofChange fnExactHereditaryOrdinalWrong)

/-- 'laws.FnExactFromHereditary': WHATEVER THE INPUT: true; the input reads as it did. -/
def fnExactFromHereditarySpec : ChangeSpec := { name := "fnExactFromHereditary", fn := fun _ => fun
  | [d1, d2] => { results := [.lit (.bool true)], args := [d1, d2] }
  | _ => none }
def fnExactFromHereditaryRow : OpenClaim := { program := "ytphmkhaboghagaa", sum := "9800ab179cfacbb5b50e275f973867802a84ea6c5b2a772883435e44439cd8ab", func := "loop.example/g01096/laws.FnExactFromHereditary", spec := "fnExactFromHereditary", unfollowed := true, recurses := true, loops := true, apart := false }
def FnExactFromHereditarySaid : Prop := fnExactFromHereditaryRow.holds Try.pinned (OpenSpec.ofChange fnExactFromHereditarySpec)

/-- ITS FALSE NEIGHBOUR: 'it returns false'. Refute it at one input. -/
def fnExactFromHereditaryWrong : ChangeSpec := { name := "fnExactFromHereditary", fn := fun _ => fun
  | [d1, d2] => { results := [.lit (.bool false)], args := [d1, d2] }
  | _ => none }
def FnExactFromHereditaryWrongFalsely : Prop := fnExactFromHereditaryRow.holds Try.pinned (OpenSpec.ofChange fnExactFromHereditaryWrong)

/-- 'laws.FnHereditaryForms': WHATEVER THE INPUT: true; the input reads as it did. -/
def fnHereditaryFormsSpec : ChangeSpec := { name := "fnHereditaryForms", fn := fun _ => fun
  | [d1, d2] => { results := [.lit (.bool true)], args := [d1, d2] }
  | _ => none }
def fnHereditaryFormsRow : OpenClaim := { program := "ytphmkhaboghagaa", sum := "9800ab179cfacbb5b50e275f973867802a84ea6c5b2a772883435e44439cd8ab", func := "loop.example/g01096/laws.FnHereditaryForms", spec := "fnHereditaryForms", unfollowed := true, recurses := true, apart := false }
def FnHereditaryFormsSaid : Prop := fnHereditaryFormsRow.holds Try.pinned (OpenSpec.ofChange fnHereditaryFormsSpec)

/-- ITS FALSE NEIGHBOUR: 'it returns false'. Refute it at one input. -/
def fnHereditaryFormsWrong : ChangeSpec := { name := "fnHereditaryForms", fn := fun _ => fun
  | [d1, d2] => { results := [.lit (.bool false)], args := [d1, d2] }
  | _ => none }
def FnHereditaryFormsWrongFalsely : Prop := fnHereditaryFormsRow.holds Try.pinned (OpenSpec.ofChange fnHereditaryFormsWrong)

/-- 'laws.FnExactIsDescent': WHATEVER THE INPUT: true; the input reads as it did. -/
def fnExactIsDescentSpec : ChangeSpec := { name := "fnExactIsDescent", fn := fun _ => fun
  | [d] => { results := [.lit (.bool true)], args := [d] }
  | _ => none }
def fnExactIsDescentRow : OpenClaim := { program := "ytphmkhaboghagaa", sum := "9800ab179cfacbb5b50e275f973867802a84ea6c5b2a772883435e44439cd8ab", func := "loop.example/g01096/laws.FnExactIsDescent", spec := "fnExactIsDescent", unfollowed := true, recurses := true, loops := true, apart := false }
def FnExactIsDescentSaid : Prop := fnExactIsDescentRow.holds Try.pinned (OpenSpec.ofChange fnExactIsDescentSpec)

/-- ITS FALSE NEIGHBOUR: 'it returns false'. Refute it at one input. -/
def fnExactIsDescentWrong : ChangeSpec := { name := "fnExactIsDescent", fn := fun _ => fun
  | [d] => { results := [.lit (.bool false)], args := [d] }
  | _ => none }
def FnExactIsDescentWrongFalsely : Prop := fnExactIsDescentRow.holds Try.pinned (OpenSpec.ofChange fnExactIsDescentWrong)

/-- 'laws.FnExactDescentOf': WHATEVER THE INPUT: true; the input reads as it did. -/
def fnExactDescentOfSpec : ChangeSpec := { name := "fnExactDescentOf", fn := fun _ => fun
  | [d1, d2, d3] => { results := [.lit (.bool true)], args := [d1, d2, d3] }
  | _ => none }
def fnExactDescentOfRow : OpenClaim := { program := "ytphmkhaboghagaa", sum := "9800ab179cfacbb5b50e275f973867802a84ea6c5b2a772883435e44439cd8ab", func := "loop.example/g01096/laws.FnExactDescentOf", spec := "fnExactDescentOf", unfollowed := true, recurses := true, apart := false }
def FnExactDescentOfSaid : Prop := fnExactDescentOfRow.holds Try.pinned (OpenSpec.ofChange fnExactDescentOfSpec)

/-- ITS FALSE NEIGHBOUR: 'it returns false'. Refute it at one input. -/
def fnExactDescentOfWrong : ChangeSpec := { name := "fnExactDescentOf", fn := fun _ => fun
  | [d1, d2, d3] => { results := [.lit (.bool false)], args := [d1, d2, d3] }
  | _ => none }
def FnExactDescentOfWrongFalsely : Prop := fnExactDescentOfRow.holds Try.pinned (OpenSpec.ofChange fnExactDescentOfWrong)

/-- 'laws.FnExactSameHydra': WHATEVER THE INPUT: true; the input reads as it did. -/
def fnExactSameHydraSpec : ChangeSpec := { name := "fnExactSameHydra", fn := fun _ => fun
  | [d1, d2] => { results := [.lit (.bool true)], args := [d1, d2] }
  | _ => none }
def fnExactSameHydraRow : OpenClaim := { program := "ytphmkhaboghagaa", sum := "9800ab179cfacbb5b50e275f973867802a84ea6c5b2a772883435e44439cd8ab", func := "loop.example/g01096/laws.FnExactSameHydra", spec := "fnExactSameHydra", unfollowed := true, recurses := true, apart := false }
def FnExactSameHydraSaid : Prop := fnExactSameHydraRow.holds Try.pinned (OpenSpec.ofChange fnExactSameHydraSpec)

/-- ITS FALSE NEIGHBOUR: 'it returns false'. Refute it at one input. -/
def fnExactSameHydraWrong : ChangeSpec := { name := "fnExactSameHydra", fn := fun _ => fun
  | [d1, d2] => { results := [.lit (.bool false)], args := [d1, d2] }
  | _ => none }
def FnExactSameHydraWrongFalsely : Prop := fnExactSameHydraRow.holds Try.pinned (OpenSpec.ofChange fnExactSameHydraWrong)

/-- 'laws.FnExactHydraOf': WHATEVER THE INPUT: true; the input reads as it did. -/
def fnExactHydraOfSpec : ChangeSpec := { name := "fnExactHydraOf", fn := fun _ => fun
  | [d] => { results := [.lit (.bool true)], args := [d] }
  | _ => none }
def fnExactHydraOfRow : OpenClaim := { program := "ytphmkhaboghagaa", sum := "9800ab179cfacbb5b50e275f973867802a84ea6c5b2a772883435e44439cd8ab", func := "loop.example/g01096/laws.FnExactHydraOf", spec := "fnExactHydraOf", unfollowed := true, recurses := true, loops := true, apart := false }
def FnExactHydraOfSaid : Prop := fnExactHydraOfRow.holds Try.pinned (OpenSpec.ofChange fnExactHydraOfSpec)

/-- ITS FALSE NEIGHBOUR: 'it returns false'. Refute it at one input. -/
def fnExactHydraOfWrong : ChangeSpec := { name := "fnExactHydraOf", fn := fun _ => fun
  | [d] => { results := [.lit (.bool false)], args := [d] }
  | _ => none }
def FnExactHydraOfWrongFalsely : Prop := fnExactHydraOfRow.holds Try.pinned (OpenSpec.ofChange fnExactHydraOfWrong)

/-- 'laws.FnExactHydraText': WHATEVER THE INPUT: true; the input reads as it did. -/
def fnExactHydraTextSpec : ChangeSpec := { name := "fnExactHydraText", fn := fun _ => fun
  | [d] => { results := [.lit (.bool true)], args := [d] }
  | _ => none }
def fnExactHydraTextRow : OpenClaim := { program := "ytphmkhaboghagaa", sum := "9800ab179cfacbb5b50e275f973867802a84ea6c5b2a772883435e44439cd8ab", func := "loop.example/g01096/laws.FnExactHydraText", spec := "fnExactHydraText", inPlace := ["internal/abi.NoEscape"], recurses := true, apart := false }
def FnExactHydraTextSaid : Prop := fnExactHydraTextRow.holds Try.pinned (OpenSpec.ofChange fnExactHydraTextSpec)

/-- ITS FALSE NEIGHBOUR: 'it returns false'. Refute it at one input. -/
def fnExactHydraTextWrong : ChangeSpec := { name := "fnExactHydraText", fn := fun _ => fun
  | [d] => { results := [.lit (.bool false)], args := [d] }
  | _ => none }
def FnExactHydraTextWrongFalsely : Prop := fnExactHydraTextRow.holds Try.pinned (OpenSpec.ofChange fnExactHydraTextWrong)

/-- 'laws.FnExactParseHydra': WHATEVER THE INPUT: true; the input reads as it did. -/
def fnExactParseHydraSpec : ChangeSpec := { name := "fnExactParseHydra", fn := fun _ => fun
  | [d] => { results := [.lit (.bool true)], args := [d] }
  | _ => none }
def fnExactParseHydraRow : OpenClaim := { program := "ytphmkhaboghagaa", sum := "9800ab179cfacbb5b50e275f973867802a84ea6c5b2a772883435e44439cd8ab", func := "loop.example/g01096/laws.FnExactParseHydra", spec := "fnExactParseHydra", inPlace := ["internal/abi.NoEscape"], recurses := true, apart := false }
def FnExactParseHydraSaid : Prop := fnExactParseHydraRow.holds Try.pinned (OpenSpec.ofChange fnExactParseHydraSpec)

/-- ITS FALSE NEIGHBOUR: 'it returns false'. Refute it at one input. -/
def fnExactParseHydraWrong : ChangeSpec := { name := "fnExactParseHydra", fn := fun _ => fun
  | [d] => { results := [.lit (.bool false)], args := [d] }
  | _ => none }
def FnExactParseHydraWrongFalsely : Prop := fnExactParseHydraRow.holds Try.pinned (OpenSpec.ofChange fnExactParseHydraWrong)

/- THE SECOND FORM. 'bulk': how many values and letters a reading holds, each counted each time it is reached (what is shared counts as often as it is met; a slice's spare places count too). A statement '..UptoSaid' is the law's where the arguments, and the package variables that the reading takes, are together of bulk at most 1048576: NARROWER than '..Said'. Prove '..Said' where nothing that the law and all that it calls make is longer than what came in: it says more and counts as full. Else prove '..UptoSaid'. A law counts once. -/
mutual
def uptoBulk {H : Type} : DataW H → Nat
  | .lit (.string bytes) => bytes.length + 1
  | .lit _ => 1
  | .nil => 1
  | .ptr d => uptoBulk d + 1
  | .slice elems spare => uptoBulkAll elems + uptoBulkAll spare + 1
  | .agg parts => uptoBulkAll parts + 1
  | .iface _ d => uptoBulk d + 1
  | .map entries => uptoBulkEntries entries + 1
  | .held _ => 1
def uptoBulkAll {H : Type} : List (DataW H) → Nat
  | [] => 0
  | d :: r => uptoBulk d + uptoBulkAll r
def uptoBulkEntries {H : Type} : List (Lit × DataW H) → Nat
  | [] => 0
  | x :: r => uptoBulkEntry x + uptoBulkEntries r
def uptoBulkEntry {H : Type} : Lit × DataW H → Nat
  | (.string bytes, d) => bytes.length + uptoBulk d + 1
  | (_, d) => uptoBulk d + 1
 end
def uptoSmall : (H : Type) → List (DataW H) → Bool := fun _ ds => decide (uptoBulkAll ds ≤ 1048576)
def OpenSpec.upto (s : _root_.Go.ChangeSpec) : _root_.Go.OpenSpec := { _root_.Go.OpenSpec.ofChange s with cond := some uptoSmall }

/-- 'laws.FnExactHereditaryOrdinal', WHERE WHAT IT READS IS OF BULK AT MOST 1048576: true; the input reads as it did. -/
def fnExactHereditaryOrdinalUptoRow : OpenClaim := { program := "ytphmkhaboghagaa", sum := "9800ab179cfacbb5b50e275f973867802a84ea6c5b2a772883435e44439cd8ab", func := "loop.example/g01096/laws.FnExactHereditaryOrdinal", spec := "fnExactHereditaryOrdinal", unfollowed := true, recurses := true, apart := false, narrowed := true }
def FnExactHereditaryOrdinalUptoSaid : Prop := fnExactHereditaryOrdinalUptoRow.holds Try.pinned (OpenSpec.upto fnExactHereditaryOrdinalSpec)

/-- 'laws.FnExactFromHereditary', WHERE WHAT IT READS IS OF BULK AT MOST 1048576: true; the input reads as it did. -/
def fnExactFromHereditaryUptoRow : OpenClaim := { program := "ytphmkhaboghagaa", sum := "9800ab179cfacbb5b50e275f973867802a84ea6c5b2a772883435e44439cd8ab", func := "loop.example/g01096/laws.FnExactFromHereditary", spec := "fnExactFromHereditary", unfollowed := true, recurses := true, loops := true, apart := false, narrowed := true }
def FnExactFromHereditaryUptoSaid : Prop := fnExactFromHereditaryUptoRow.holds Try.pinned (OpenSpec.upto fnExactFromHereditarySpec)

/-- 'laws.FnHereditaryForms', WHERE WHAT IT READS IS OF BULK AT MOST 1048576: true; the input reads as it did. -/
def fnHereditaryFormsUptoRow : OpenClaim := { program := "ytphmkhaboghagaa", sum := "9800ab179cfacbb5b50e275f973867802a84ea6c5b2a772883435e44439cd8ab", func := "loop.example/g01096/laws.FnHereditaryForms", spec := "fnHereditaryForms", unfollowed := true, recurses := true, apart := false, narrowed := true }
def FnHereditaryFormsUptoSaid : Prop := fnHereditaryFormsUptoRow.holds Try.pinned (OpenSpec.upto fnHereditaryFormsSpec)

/-- 'laws.FnExactIsDescent', WHERE WHAT IT READS IS OF BULK AT MOST 1048576: true; the input reads as it did. -/
def fnExactIsDescentUptoRow : OpenClaim := { program := "ytphmkhaboghagaa", sum := "9800ab179cfacbb5b50e275f973867802a84ea6c5b2a772883435e44439cd8ab", func := "loop.example/g01096/laws.FnExactIsDescent", spec := "fnExactIsDescent", unfollowed := true, recurses := true, loops := true, apart := false, narrowed := true }
def FnExactIsDescentUptoSaid : Prop := fnExactIsDescentUptoRow.holds Try.pinned (OpenSpec.upto fnExactIsDescentSpec)

/-- 'laws.FnExactDescentOf', WHERE WHAT IT READS IS OF BULK AT MOST 1048576: true; the input reads as it did. -/
def fnExactDescentOfUptoRow : OpenClaim := { program := "ytphmkhaboghagaa", sum := "9800ab179cfacbb5b50e275f973867802a84ea6c5b2a772883435e44439cd8ab", func := "loop.example/g01096/laws.FnExactDescentOf", spec := "fnExactDescentOf", unfollowed := true, recurses := true, apart := false, narrowed := true }
def FnExactDescentOfUptoSaid : Prop := fnExactDescentOfUptoRow.holds Try.pinned (OpenSpec.upto fnExactDescentOfSpec)

/-- 'laws.FnExactSameHydra', WHERE WHAT IT READS IS OF BULK AT MOST 1048576: true; the input reads as it did. -/
def fnExactSameHydraUptoRow : OpenClaim := { program := "ytphmkhaboghagaa", sum := "9800ab179cfacbb5b50e275f973867802a84ea6c5b2a772883435e44439cd8ab", func := "loop.example/g01096/laws.FnExactSameHydra", spec := "fnExactSameHydra", unfollowed := true, recurses := true, apart := false, narrowed := true }
def FnExactSameHydraUptoSaid : Prop := fnExactSameHydraUptoRow.holds Try.pinned (OpenSpec.upto fnExactSameHydraSpec)

/-- 'laws.FnExactHydraOf', WHERE WHAT IT READS IS OF BULK AT MOST 1048576: true; the input reads as it did. -/
def fnExactHydraOfUptoRow : OpenClaim := { program := "ytphmkhaboghagaa", sum := "9800ab179cfacbb5b50e275f973867802a84ea6c5b2a772883435e44439cd8ab", func := "loop.example/g01096/laws.FnExactHydraOf", spec := "fnExactHydraOf", unfollowed := true, recurses := true, loops := true, apart := false, narrowed := true }
def FnExactHydraOfUptoSaid : Prop := fnExactHydraOfUptoRow.holds Try.pinned (OpenSpec.upto fnExactHydraOfSpec)

/-- 'laws.FnExactHydraText', WHERE WHAT IT READS IS OF BULK AT MOST 1048576: true; the input reads as it did. -/
def fnExactHydraTextUptoRow : OpenClaim := { program := "ytphmkhaboghagaa", sum := "9800ab179cfacbb5b50e275f973867802a84ea6c5b2a772883435e44439cd8ab", func := "loop.example/g01096/laws.FnExactHydraText", spec := "fnExactHydraText", inPlace := ["internal/abi.NoEscape"], recurses := true, apart := false, narrowed := true }
def FnExactHydraTextUptoSaid : Prop := fnExactHydraTextUptoRow.holds Try.pinned (OpenSpec.upto fnExactHydraTextSpec)

/-- 'laws.FnExactParseHydra', WHERE WHAT IT READS IS OF BULK AT MOST 1048576: true; the input reads as it did. -/
def fnExactParseHydraUptoRow : OpenClaim := { program := "ytphmkhaboghagaa", sum := "9800ab179cfacbb5b50e275f973867802a84ea6c5b2a772883435e44439cd8ab", func := "loop.example/g01096/laws.FnExactParseHydra", spec := "fnExactParseHydra", inPlace := ["internal/abi.NoEscape"], recurses := true, apart := false, narrowed := true }
def FnExactParseHydraUptoSaid : Prop := fnExactParseHydraUptoRow.holds Try.pinned (OpenSpec.upto fnExactParseHydraSpec)

end Rows
end Go.Proofs.Ytphmkhaboghagaa
