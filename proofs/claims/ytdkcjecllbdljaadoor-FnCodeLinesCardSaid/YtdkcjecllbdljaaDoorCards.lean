/-
  DERIVED. GIVEN WITH THE SEED: THE CARDS: each row of YtdkcjecllbdljaaDoorRows.lean that lists a variable, with what it lists TIED to the program's text (the seventh form; the later family's looks); each row that meets fmt, with fmt's text TOLD by the authors' own Lean function (tested against real Go, not proved from fmt's source: count such statements apart). THE CARD IS WHAT COUNTS. Prove the row's statement (the work); the ties are given (YtdkcjecllbdljaaDoorTie.lean); close each card by the builder's one call (the guide's Derived/Test/ToyasCard.lean, 'card_holds'). Laid BY PROGRAM, IN A SANDBOX (cutbox-door.mjs). By AI agents, Wed Nov 11 2026. No macro, syntax, notation, axiom, sorry.
-/
import Derived.Test.YtdkcjecllbdljaaDoorRows
import GoSem.ClaimSeven
namespace Go.Proofs.YtdkcjecllbdljaaDoor
namespace Rows

/-- THE TIED CARD OF 'laws.FnExactCodeText'. -/
def fnExactCodeTextCard : Claim7 := { stood := { row := fnExactCodeTextRow, standIns := [], harness := (true, "5b0846f9bbf2f265ce1bdbc7800bc04d0a81f44f1dd17078c79363a38bbf5202"), looks := false }, kinds := [], alts := [], laidByText := true, laidKinds := [.data, .data, .data], laidTests := true, laidLooks := .later }
def FnExactCodeTextCardSaid : Prop := Claim7.holds Tryd.pinned (.plain (OpenSpec.ofChange fnExactCodeTextSpec)) fnExactCodeTextCard

/-- THE TIED CARD OF 'laws.FnCodeLines'. -/
def fnCodeLinesCard : Claim7 := { stood := { row := fnCodeLinesRow, standIns := [], harness := (true, "5b0846f9bbf2f265ce1bdbc7800bc04d0a81f44f1dd17078c79363a38bbf5202"), looks := false }, kinds := [], alts := [], laidByText := true, laidKinds := [.data, .data, .data], laidTests := true, laidLooks := .later }
def FnCodeLinesCardSaid : Prop := Claim7.holds Tryd.pinned (.plain (OpenSpec.ofChange fnCodeLinesSpec)) fnCodeLinesCard

/-- THE SECOND FORM's CARD OF 'laws.FnExactCodeText'. -/
def fnExactCodeTextUptoCard : Claim7 := { stood := { row := fnExactCodeTextUptoRow, standIns := [], harness := (true, "5b0846f9bbf2f265ce1bdbc7800bc04d0a81f44f1dd17078c79363a38bbf5202"), looks := false }, kinds := [], alts := [], laidByText := true, laidKinds := [.data, .data, .data], laidTests := true, laidLooks := .later }
def FnExactCodeTextUptoCardSaid : Prop := Claim7.holds Tryd.pinned (.plain (OpenSpec.upto fnExactCodeTextSpec)) fnExactCodeTextUptoCard

/-- THE SECOND FORM's CARD OF 'laws.FnCodeLines'. -/
def fnCodeLinesUptoCard : Claim7 := { stood := { row := fnCodeLinesUptoRow, standIns := [], harness := (true, "5b0846f9bbf2f265ce1bdbc7800bc04d0a81f44f1dd17078c79363a38bbf5202"), looks := false }, kinds := [], alts := [], laidByText := true, laidKinds := [.data, .data, .data], laidTests := true, laidLooks := .later }
def FnCodeLinesUptoCardSaid : Prop := Claim7.holds Tryd.pinned (.plain (OpenSpec.upto fnCodeLinesSpec)) fnCodeLinesUptoCard
end Rows
end Go.Proofs.YtdkcjecllbdljaaDoor
