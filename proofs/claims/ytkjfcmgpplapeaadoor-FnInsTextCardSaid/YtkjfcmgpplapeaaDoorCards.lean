/-
  DERIVED. GIVEN WITH THE SEED: THE CARDS: each row of YtkjfcmgpplapeaaDoorRows.lean that lists a variable, with what it lists TIED to the program's text (the seventh form; the later family's looks); each row that meets fmt, with fmt's text TOLD by the authors' own Lean function (tested against real Go, not proved from fmt's source: count such statements apart). THE CARD IS WHAT COUNTS. Prove the row's statement (the work); the ties are given (YtkjfcmgpplapeaaDoorTie.lean); close each card by the builder's one call (the guide's Derived/Test/ToyasCard.lean, 'card_holds'). Laid BY PROGRAM, IN A SANDBOX (cutbox-door.mjs). By AI agents, Wed Nov 11 2026. No macro, syntax, notation, axiom, sorry.
-/
import Derived.Test.YtkjfcmgpplapeaaDoorRows
import GoSem.ClaimSeven
namespace Go.Proofs.YtkjfcmgpplapeaaDoor
namespace Rows

/-- THE TIED CARD OF 'laws.FnExactTraceText'. -/
def fnExactTraceTextCard : Claim7 := { stood := { row := fnExactTraceTextRow, standIns := [], harness := (true, "fb59c9a22328395658654221e60fa9c73eee30ca3c268f7b1e2226da0aebaadb"), looks := true }, kinds := [], alts := [], laidByText := true, laidKinds := [.data, .data, .data], laidTests := true, laidLooks := .later }
def FnExactTraceTextCardSaid : Prop := Claim7.holds Tryd.pinned (.plain (OpenSpec.ofChange fnExactTraceTextSpec)) fnExactTraceTextCard

/-- THE TIED CARD OF 'laws.FnExactInsText'. -/
def fnExactInsTextCard : Claim7 := { stood := { row := fnExactInsTextRow, standIns := [], harness := (true, "fb59c9a22328395658654221e60fa9c73eee30ca3c268f7b1e2226da0aebaadb"), looks := true }, kinds := [], alts := [], laidByText := true, laidKinds := [.data, .data, .data], laidTests := true, laidLooks := .later }
def FnExactInsTextCardSaid : Prop := Claim7.holds Tryd.pinned (.plain (OpenSpec.ofChange fnExactInsTextSpec)) fnExactInsTextCard

/-- THE TIED CARD OF 'laws.FnExactChanText'. -/
def fnExactChanTextCard : Claim7 := { stood := { row := fnExactChanTextRow, standIns := [], harness := (true, "fb59c9a22328395658654221e60fa9c73eee30ca3c268f7b1e2226da0aebaadb"), looks := true }, kinds := [], alts := [], laidByText := true, laidKinds := [.data, .data, .data], laidTests := true, laidLooks := .later }
def FnExactChanTextCardSaid : Prop := Claim7.holds Tryd.pinned (.plain (OpenSpec.ofChange fnExactChanTextSpec)) fnExactChanTextCard

/-- THE TIED CARD OF 'laws.FnExactStepText'. -/
def fnExactStepTextCard : Claim7 := { stood := { row := fnExactStepTextRow, standIns := [], harness := (true, "fb59c9a22328395658654221e60fa9c73eee30ca3c268f7b1e2226da0aebaadb"), looks := true }, kinds := [], alts := [], laidByText := true, laidKinds := [.data, .data, .data], laidTests := true, laidLooks := .later }
def FnExactStepTextCardSaid : Prop := Claim7.holds Tryd.pinned (.plain (OpenSpec.ofChange fnExactStepTextSpec)) fnExactStepTextCard

/-- THE TIED CARD OF 'laws.FnExactCodeText'. -/
def fnExactCodeTextCard : Claim7 := { stood := { row := fnExactCodeTextRow, standIns := [], harness := (true, "fb59c9a22328395658654221e60fa9c73eee30ca3c268f7b1e2226da0aebaadb"), looks := true }, kinds := [], alts := [], laidByText := true, laidKinds := [.data, .data, .data], laidTests := true, laidLooks := .later }
def FnExactCodeTextCardSaid : Prop := Claim7.holds Tryd.pinned (.plain (OpenSpec.ofChange fnExactCodeTextSpec)) fnExactCodeTextCard

/-- THE TIED CARD OF 'laws.FnExactProgText'. -/
def fnExactProgTextCard : Claim7 := { stood := { row := fnExactProgTextRow, standIns := [], harness := (true, "fb59c9a22328395658654221e60fa9c73eee30ca3c268f7b1e2226da0aebaadb"), looks := true }, kinds := [], alts := [], laidByText := true, laidKinds := [.data, .data, .data], laidTests := true, laidLooks := .later }
def FnExactProgTextCardSaid : Prop := Claim7.holds Tryd.pinned (.plain (OpenSpec.ofChange fnExactProgTextSpec)) fnExactProgTextCard

/-- THE TIED CARD OF 'laws.FnTexts'. -/
def fnTextsCard : Claim7 := { stood := { row := fnTextsRow, standIns := [], harness := (true, "fb59c9a22328395658654221e60fa9c73eee30ca3c268f7b1e2226da0aebaadb"), looks := true }, kinds := [], alts := [], laidByText := true, laidKinds := [.data, .data, .data], laidTests := true, laidLooks := .later }
def FnTextsCardSaid : Prop := Claim7.holds Tryd.pinned (.plain (OpenSpec.ofChange fnTextsSpec)) fnTextsCard

/-- THE TIED CARD OF 'laws.FnInsText'. -/
def fnInsTextCard : Claim7 := { stood := { row := fnInsTextRow, standIns := [], harness := (true, "fb59c9a22328395658654221e60fa9c73eee30ca3c268f7b1e2226da0aebaadb"), looks := true }, kinds := [], alts := [], laidByText := true, laidKinds := [.data, .data, .data, .data, .sentinel, .sentinel, .pinned], laidTests := true, laidLooks := .later }
def FnInsTextCardSaid : Prop := Claim7.holds Tryd.pinned (.plain (OpenSpec.ofChange fnInsTextSpec)) fnInsTextCard

/-- THE TIED CARD OF 'laws.FnExactInsRead'. -/
def fnExactInsReadCard : Claim7 := { stood := { row := fnExactInsReadRow, standIns := [], harness := (true, "fb59c9a22328395658654221e60fa9c73eee30ca3c268f7b1e2226da0aebaadb"), looks := true }, kinds := [], alts := [], laidByText := true, laidKinds := [.data, .data, .data, .data, .sentinel, .sentinel, .pinned], laidTests := true, laidLooks := .later }
def FnExactInsReadCardSaid : Prop := Claim7.holds Tryd.pinned (.plain (OpenSpec.ofChange fnExactInsReadSpec)) fnExactInsReadCard

/-- THE TIED CARD OF 'laws.FnExactProgRead'. -/
def fnExactProgReadCard : Claim7 := { stood := { row := fnExactProgReadRow, standIns := [], harness := (true, "fb59c9a22328395658654221e60fa9c73eee30ca3c268f7b1e2226da0aebaadb"), looks := true }, kinds := [], alts := [], laidByText := true, laidKinds := [.data, .data, .data, .data, .sentinel, .sentinel, .pinned], laidTests := true, laidLooks := .later }
def FnExactProgReadCardSaid : Prop := Claim7.holds Tryd.pinned (.plain (OpenSpec.ofChange fnExactProgReadSpec)) fnExactProgReadCard

/-- THE TIED CARD OF 'laws.FnProgText'. -/
def fnProgTextCard : Claim7 := { stood := { row := fnProgTextRow, standIns := [], harness := (true, "fb59c9a22328395658654221e60fa9c73eee30ca3c268f7b1e2226da0aebaadb"), looks := true }, kinds := [], alts := [], laidByText := true, laidKinds := [.data, .data, .data, .data, .sentinel, .sentinel, .pinned], laidTests := true, laidLooks := .later }
def FnProgTextCardSaid : Prop := Claim7.holds Tryd.pinned (.plain (OpenSpec.ofChange fnProgTextSpec)) fnProgTextCard

/-- THE SECOND FORM's CARD OF 'laws.FnExactTraceText'. -/
def fnExactTraceTextUptoCard : Claim7 := { stood := { row := fnExactTraceTextUptoRow, standIns := [], harness := (true, "fb59c9a22328395658654221e60fa9c73eee30ca3c268f7b1e2226da0aebaadb"), looks := true }, kinds := [], alts := [], laidByText := true, laidKinds := [.data, .data, .data], laidTests := true, laidLooks := .later }
def FnExactTraceTextUptoCardSaid : Prop := Claim7.holds Tryd.pinned (.plain (OpenSpec.upto fnExactTraceTextSpec)) fnExactTraceTextUptoCard

/-- THE SECOND FORM's CARD OF 'laws.FnExactInsText'. -/
def fnExactInsTextUptoCard : Claim7 := { stood := { row := fnExactInsTextUptoRow, standIns := [], harness := (true, "fb59c9a22328395658654221e60fa9c73eee30ca3c268f7b1e2226da0aebaadb"), looks := true }, kinds := [], alts := [], laidByText := true, laidKinds := [.data, .data, .data], laidTests := true, laidLooks := .later }
def FnExactInsTextUptoCardSaid : Prop := Claim7.holds Tryd.pinned (.plain (OpenSpec.upto fnExactInsTextSpec)) fnExactInsTextUptoCard

/-- THE SECOND FORM's CARD OF 'laws.FnExactChanText'. -/
def fnExactChanTextUptoCard : Claim7 := { stood := { row := fnExactChanTextUptoRow, standIns := [], harness := (true, "fb59c9a22328395658654221e60fa9c73eee30ca3c268f7b1e2226da0aebaadb"), looks := true }, kinds := [], alts := [], laidByText := true, laidKinds := [.data, .data, .data], laidTests := true, laidLooks := .later }
def FnExactChanTextUptoCardSaid : Prop := Claim7.holds Tryd.pinned (.plain (OpenSpec.upto fnExactChanTextSpec)) fnExactChanTextUptoCard

/-- THE SECOND FORM's CARD OF 'laws.FnExactStepText'. -/
def fnExactStepTextUptoCard : Claim7 := { stood := { row := fnExactStepTextUptoRow, standIns := [], harness := (true, "fb59c9a22328395658654221e60fa9c73eee30ca3c268f7b1e2226da0aebaadb"), looks := true }, kinds := [], alts := [], laidByText := true, laidKinds := [.data, .data, .data], laidTests := true, laidLooks := .later }
def FnExactStepTextUptoCardSaid : Prop := Claim7.holds Tryd.pinned (.plain (OpenSpec.upto fnExactStepTextSpec)) fnExactStepTextUptoCard

/-- THE SECOND FORM's CARD OF 'laws.FnExactCodeText'. -/
def fnExactCodeTextUptoCard : Claim7 := { stood := { row := fnExactCodeTextUptoRow, standIns := [], harness := (true, "fb59c9a22328395658654221e60fa9c73eee30ca3c268f7b1e2226da0aebaadb"), looks := true }, kinds := [], alts := [], laidByText := true, laidKinds := [.data, .data, .data], laidTests := true, laidLooks := .later }
def FnExactCodeTextUptoCardSaid : Prop := Claim7.holds Tryd.pinned (.plain (OpenSpec.upto fnExactCodeTextSpec)) fnExactCodeTextUptoCard

/-- THE SECOND FORM's CARD OF 'laws.FnExactProgText'. -/
def fnExactProgTextUptoCard : Claim7 := { stood := { row := fnExactProgTextUptoRow, standIns := [], harness := (true, "fb59c9a22328395658654221e60fa9c73eee30ca3c268f7b1e2226da0aebaadb"), looks := true }, kinds := [], alts := [], laidByText := true, laidKinds := [.data, .data, .data], laidTests := true, laidLooks := .later }
def FnExactProgTextUptoCardSaid : Prop := Claim7.holds Tryd.pinned (.plain (OpenSpec.upto fnExactProgTextSpec)) fnExactProgTextUptoCard

/-- THE SECOND FORM's CARD OF 'laws.FnTexts'. -/
def fnTextsUptoCard : Claim7 := { stood := { row := fnTextsUptoRow, standIns := [], harness := (true, "fb59c9a22328395658654221e60fa9c73eee30ca3c268f7b1e2226da0aebaadb"), looks := true }, kinds := [], alts := [], laidByText := true, laidKinds := [.data, .data, .data], laidTests := true, laidLooks := .later }
def FnTextsUptoCardSaid : Prop := Claim7.holds Tryd.pinned (.plain (OpenSpec.upto fnTextsSpec)) fnTextsUptoCard

/-- THE SECOND FORM's CARD OF 'laws.FnInsText'. -/
def fnInsTextUptoCard : Claim7 := { stood := { row := fnInsTextUptoRow, standIns := [], harness := (true, "fb59c9a22328395658654221e60fa9c73eee30ca3c268f7b1e2226da0aebaadb"), looks := true }, kinds := [], alts := [], laidByText := true, laidKinds := [.data, .data, .data, .data, .sentinel, .sentinel, .pinned], laidTests := true, laidLooks := .later }
def FnInsTextUptoCardSaid : Prop := Claim7.holds Tryd.pinned (.plain (OpenSpec.upto fnInsTextSpec)) fnInsTextUptoCard

/-- THE SECOND FORM's CARD OF 'laws.FnExactInsRead'. -/
def fnExactInsReadUptoCard : Claim7 := { stood := { row := fnExactInsReadUptoRow, standIns := [], harness := (true, "fb59c9a22328395658654221e60fa9c73eee30ca3c268f7b1e2226da0aebaadb"), looks := true }, kinds := [], alts := [], laidByText := true, laidKinds := [.data, .data, .data, .data, .sentinel, .sentinel, .pinned], laidTests := true, laidLooks := .later }
def FnExactInsReadUptoCardSaid : Prop := Claim7.holds Tryd.pinned (.plain (OpenSpec.upto fnExactInsReadSpec)) fnExactInsReadUptoCard

/-- THE SECOND FORM's CARD OF 'laws.FnExactProgRead'. -/
def fnExactProgReadUptoCard : Claim7 := { stood := { row := fnExactProgReadUptoRow, standIns := [], harness := (true, "fb59c9a22328395658654221e60fa9c73eee30ca3c268f7b1e2226da0aebaadb"), looks := true }, kinds := [], alts := [], laidByText := true, laidKinds := [.data, .data, .data, .data, .sentinel, .sentinel, .pinned], laidTests := true, laidLooks := .later }
def FnExactProgReadUptoCardSaid : Prop := Claim7.holds Tryd.pinned (.plain (OpenSpec.upto fnExactProgReadSpec)) fnExactProgReadUptoCard

/-- THE SECOND FORM's CARD OF 'laws.FnProgText'. -/
def fnProgTextUptoCard : Claim7 := { stood := { row := fnProgTextUptoRow, standIns := [], harness := (true, "fb59c9a22328395658654221e60fa9c73eee30ca3c268f7b1e2226da0aebaadb"), looks := true }, kinds := [], alts := [], laidByText := true, laidKinds := [.data, .data, .data, .data, .sentinel, .sentinel, .pinned], laidTests := true, laidLooks := .later }
def FnProgTextUptoCardSaid : Prop := Claim7.holds Tryd.pinned (.plain (OpenSpec.upto fnProgTextSpec)) fnProgTextUptoCard
end Rows
end Go.Proofs.YtkjfcmgpplapeaaDoor
