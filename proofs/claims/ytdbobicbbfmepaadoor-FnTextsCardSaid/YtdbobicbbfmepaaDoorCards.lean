/-
  DERIVED. GIVEN WITH THE SEED: THE CARDS: each row of YtdbobicbbfmepaaDoorRows.lean that lists a variable, with what it lists TIED to the program's text (the seventh form; the later family's looks); each row that meets fmt, with fmt's text TOLD by the authors' own Lean function (tested against real Go, not proved from fmt's source: count such statements apart). THE CARD IS WHAT COUNTS. Prove the row's statement (the work); the ties are given (YtdbobicbbfmepaaDoorTie.lean); close each card by the builder's one call (the guide's Derived/Test/ToyasCard.lean, 'card_holds'). Laid BY PROGRAM, IN A SANDBOX (cutbox-door.mjs). By AI agents, Wed Nov 11 2026. No macro, syntax, notation, axiom, sorry.
-/
import Derived.Test.YtdbobicbbfmepaaDoorRows
import GoSem.ClaimSeven
namespace Go.Proofs.YtdbobicbbfmepaaDoor
namespace Rows

/-- THE TIED CARD OF 'laws.FnTexts'. -/
def fnTextsCard : Claim7 := { stood := { row := fnTextsRow, standIns := [], harness := (true, "662f919c27efa8b49a42a9462cd66bb384c679f3b1618adf1cd832efde3574b8"), looks := true }, kinds := [], alts := [], laidByText := true, laidKinds := [.data, .data, .data], laidTests := true, laidLooks := .later }
def FnTextsCardSaid : Prop := Claim7.holds Tryd.pinned (.plain (OpenSpec.ofChange fnTextsSpec)) fnTextsCard

/-- THE TIED CARD OF 'laws.FnExactProgRead'. -/
def fnExactProgReadCard : Claim7 := { stood := { row := fnExactProgReadRow, standIns := [], harness := (true, "662f919c27efa8b49a42a9462cd66bb384c679f3b1618adf1cd832efde3574b8"), looks := true }, kinds := [], alts := [], laidByText := true, laidKinds := [.data, .data, .data, .data, .sentinel, .sentinel, .pinned], laidTests := true, laidLooks := .later }
def FnExactProgReadCardSaid : Prop := Claim7.holds Tryd.pinned (.plain (OpenSpec.ofChange fnExactProgReadSpec)) fnExactProgReadCard

/-- THE TIED CARD OF 'laws.FnProgText'. -/
def fnProgTextCard : Claim7 := { stood := { row := fnProgTextRow, standIns := [], harness := (true, "662f919c27efa8b49a42a9462cd66bb384c679f3b1618adf1cd832efde3574b8"), looks := true }, kinds := [], alts := [], laidByText := true, laidKinds := [.data, .data, .data, .data, .sentinel, .sentinel, .pinned], laidTests := true, laidLooks := .later }
def FnProgTextCardSaid : Prop := Claim7.holds Tryd.pinned (.plain (OpenSpec.ofChange fnProgTextSpec)) fnProgTextCard

/-- THE SECOND FORM's CARD OF 'laws.FnTexts'. -/
def fnTextsUptoCard : Claim7 := { stood := { row := fnTextsUptoRow, standIns := [], harness := (true, "662f919c27efa8b49a42a9462cd66bb384c679f3b1618adf1cd832efde3574b8"), looks := true }, kinds := [], alts := [], laidByText := true, laidKinds := [.data, .data, .data], laidTests := true, laidLooks := .later }
def FnTextsUptoCardSaid : Prop := Claim7.holds Tryd.pinned (.plain (OpenSpec.upto fnTextsSpec)) fnTextsUptoCard

/-- THE SECOND FORM's CARD OF 'laws.FnExactProgRead'. -/
def fnExactProgReadUptoCard : Claim7 := { stood := { row := fnExactProgReadUptoRow, standIns := [], harness := (true, "662f919c27efa8b49a42a9462cd66bb384c679f3b1618adf1cd832efde3574b8"), looks := true }, kinds := [], alts := [], laidByText := true, laidKinds := [.data, .data, .data, .data, .sentinel, .sentinel, .pinned], laidTests := true, laidLooks := .later }
def FnExactProgReadUptoCardSaid : Prop := Claim7.holds Tryd.pinned (.plain (OpenSpec.upto fnExactProgReadSpec)) fnExactProgReadUptoCard

/-- THE SECOND FORM's CARD OF 'laws.FnProgText'. -/
def fnProgTextUptoCard : Claim7 := { stood := { row := fnProgTextUptoRow, standIns := [], harness := (true, "662f919c27efa8b49a42a9462cd66bb384c679f3b1618adf1cd832efde3574b8"), looks := true }, kinds := [], alts := [], laidByText := true, laidKinds := [.data, .data, .data, .data, .sentinel, .sentinel, .pinned], laidTests := true, laidLooks := .later }
def FnProgTextUptoCardSaid : Prop := Claim7.holds Tryd.pinned (.plain (OpenSpec.upto fnProgTextSpec)) fnProgTextUptoCard
end Rows
end Go.Proofs.YtdbobicbbfmepaaDoor
