/-
  DERIVED. GIVEN WITH THE SEED: THE CARDS: each row of YtllcljajlemmaaaDoorRows.lean that lists a variable, with what it lists TIED to the program's text (the seventh form; the later family's looks); each row that meets fmt, with fmt's text TOLD by the authors' own Lean function (tested against real Go, not proved from fmt's source: count such statements apart). THE CARD IS WHAT COUNTS. Prove the row's statement (the work); the ties are given (YtllcljajlemmaaaDoorTie.lean); close each card by the builder's one call (the guide's Derived/Test/ToyasCard.lean, 'card_holds'). Laid BY PROGRAM, IN A SANDBOX (cutbox-door.mjs). By AI agents, Wed Nov 11 2026. No macro, syntax, notation, axiom, sorry.
-/
import Derived.Test.YtllcljajlemmaaaDoorRows
import GoSem.ClaimSeven
namespace Go.Proofs.YtllcljajlemmaaaDoor
namespace Rows

/-- THE TIED CARD OF 'laws.FnExactParseGame'. -/
def fnExactParseGameCard : Claim7 := { stood := { row := fnExactParseGameRow, standIns := [], harness := (true, "0045e2df3205e354bff8e5531f30d727de0f925d17cd3b4bebc95f53c208b373"), looks := true }, kinds := [], alts := [], laidByText := true, laidKinds := [.data, .data, .data, .data, .sentinel, .sentinel, .pinned], laidTests := true, laidLooks := .later }
def FnExactParseGameCardSaid : Prop := Claim7.holds Tryd.pinned (.plain (OpenSpec.ofChange fnExactParseGameSpec)) fnExactParseGameCard

/-- THE TIED CARD OF 'laws.FnExactGameText'. -/
def fnExactGameTextCard : Claim7 := { stood := { row := fnExactGameTextRow, standIns := [], harness := (true, "0045e2df3205e354bff8e5531f30d727de0f925d17cd3b4bebc95f53c208b373"), looks := true }, kinds := [], alts := [], laidByText := true, laidKinds := [.data, .data, .data], laidTests := true, laidLooks := .later }
def FnExactGameTextCardSaid : Prop := Claim7.holds Tryd.pinned (.plain (OpenSpec.ofChange fnExactGameTextSpec)) fnExactGameTextCard

/-- THE SECOND FORM's CARD OF 'laws.FnExactParseGame'. -/
def fnExactParseGameUptoCard : Claim7 := { stood := { row := fnExactParseGameUptoRow, standIns := [], harness := (true, "0045e2df3205e354bff8e5531f30d727de0f925d17cd3b4bebc95f53c208b373"), looks := true }, kinds := [], alts := [], laidByText := true, laidKinds := [.data, .data, .data, .data, .sentinel, .sentinel, .pinned], laidTests := true, laidLooks := .later }
def FnExactParseGameUptoCardSaid : Prop := Claim7.holds Tryd.pinned (.plain (OpenSpec.upto fnExactParseGameSpec)) fnExactParseGameUptoCard

/-- THE SECOND FORM's CARD OF 'laws.FnExactGameText'. -/
def fnExactGameTextUptoCard : Claim7 := { stood := { row := fnExactGameTextUptoRow, standIns := [], harness := (true, "0045e2df3205e354bff8e5531f30d727de0f925d17cd3b4bebc95f53c208b373"), looks := true }, kinds := [], alts := [], laidByText := true, laidKinds := [.data, .data, .data], laidTests := true, laidLooks := .later }
def FnExactGameTextUptoCardSaid : Prop := Claim7.holds Tryd.pinned (.plain (OpenSpec.upto fnExactGameTextSpec)) fnExactGameTextUptoCard
end Rows
end Go.Proofs.YtllcljajlemmaaaDoor
