/-
  DERIVED. GIVEN WITH THE SEED: THE CARDS: each row of YtkhjeiaafiodeaaGreatDoorRows.lean that lists a variable, with what it lists TIED to the program's text (the seventh form; the later family's looks); each row that meets fmt, with fmt's text TOLD by the authors' own Lean function (tested against real Go, not proved from fmt's source: count such statements apart). THE CARD IS WHAT COUNTS. Prove the row's statement (the work); the ties are given (YtkhjeiaafiodeaaGreatDoorTie.lean); close each card by the builder's one call (the guide's Derived/Test/ToyasCard.lean, 'card_holds'). Laid BY PROGRAM, IN A SANDBOX (cutbox-door.mjs). By AI agents, Wed Nov 11 2026. No macro, syntax, notation, axiom, sorry.
-/
import Derived.Test.YtkhjeiaafiodeaaGreatDoorRows
import GoSem.ClaimSeven
namespace Go.Proofs.YtkhjeiaafiodeaaGreatDoor
namespace Rows

/-- THE TIED CARD OF 'configlanglaw26.ParserFiles'. -/
def parserFilesCard : Claim7 := { stood := { row := parserFilesRow, standIns := [], harness := (true, "76ae8481d8504df2a2dbfa608091ef326e9f1ac9b471349d33c210ff9f5d9874"), looks := true }, kinds := [], alts := [], laidByText := true, laidKinds := [.data, .data, .data, .data, .sentinel, .sentinel, .pinned], laidTests := true, laidLooks := .later }
def ParserFilesCardSaid : Prop := Claim7.holds Tryz.pinned (.plain (OpenSpec.ofChange parserFilesSpec)) parserFilesCard

/-- THE TIED CARD OF 'configlanglaw26.ParserExprs'. -/
def parserExprsCard : Claim7 := { stood := { row := parserExprsRow, standIns := [], harness := (true, "76ae8481d8504df2a2dbfa608091ef326e9f1ac9b471349d33c210ff9f5d9874"), looks := true }, kinds := [], alts := [], laidByText := true, laidKinds := [.data, .data, .data, .data, .sentinel, .sentinel, .pinned], laidTests := true, laidLooks := .later }
def ParserExprsCardSaid : Prop := Claim7.holds Tryz.pinned (.plain (OpenSpec.ofChange parserExprsSpec)) parserExprsCard

/-- THE TIED CARD OF 'configlanglaw26.ParserValid'. -/
def parserValidCard : Claim7 := { stood := { row := parserValidRow, standIns := [], harness := (true, "76ae8481d8504df2a2dbfa608091ef326e9f1ac9b471349d33c210ff9f5d9874"), looks := true }, kinds := [], alts := [], laidByText := true, laidKinds := [.data, .data, .data, .data, .sentinel, .sentinel, .pinned], laidTests := true, laidLooks := .later }
def ParserValidCardSaid : Prop := Claim7.holds Tryz.pinned (.plain (OpenSpec.ofChange parserValidSpec)) parserValidCard

/-- THE TIED CARD OF 'configlanglaw26.ParserFaults'. -/
def parserFaultsCard : Claim7 := { stood := { row := parserFaultsRow, standIns := [], harness := (true, "76ae8481d8504df2a2dbfa608091ef326e9f1ac9b471349d33c210ff9f5d9874"), looks := true }, kinds := [], alts := [], laidByText := true, laidKinds := [.data, .data, .data, .data, .sentinel, .sentinel, .pinned], laidTests := true, laidLooks := .later }
def ParserFaultsCardSaid : Prop := Claim7.holds Tryz.pinned (.plain (OpenSpec.ofChange parserFaultsSpec)) parserFaultsCard

/-- THE TIED CARD OF 'configlanglaw26.ParserBlanks'. -/
def parserBlanksCard : Claim7 := { stood := { row := parserBlanksRow, standIns := [], harness := (true, "76ae8481d8504df2a2dbfa608091ef326e9f1ac9b471349d33c210ff9f5d9874"), looks := true }, kinds := [], alts := [], laidByText := true, laidKinds := [.data, .data, .data, .data, .sentinel, .sentinel, .pinned], laidTests := true, laidLooks := .later }
def ParserBlanksCardSaid : Prop := Claim7.holds Tryz.pinned (.plain (OpenSpec.ofChange parserBlanksSpec)) parserBlanksCard

/-- THE TIED CARD OF 'configlanglaw26.ParserWraps'. -/
def parserWrapsCard : Claim7 := { stood := { row := parserWrapsRow, standIns := [], harness := (true, "76ae8481d8504df2a2dbfa608091ef326e9f1ac9b471349d33c210ff9f5d9874"), looks := true }, kinds := [], alts := [], laidByText := true, laidKinds := [.data, .data, .data, .data, .sentinel, .sentinel, .pinned], laidTests := true, laidLooks := .later }
def ParserWrapsCardSaid : Prop := Claim7.holds Tryz.pinned (.plain (OpenSpec.ofChange parserWrapsSpec)) parserWrapsCard

/-- THE TIED CARD OF 'configlanglaw26.ParserParens'. -/
def parserParensCard : Claim7 := { stood := { row := parserParensRow, standIns := [], harness := (true, "76ae8481d8504df2a2dbfa608091ef326e9f1ac9b471349d33c210ff9f5d9874"), looks := true }, kinds := [], alts := [], laidByText := true, laidKinds := [.data, .data, .data, .data, .sentinel, .sentinel, .pinned], laidTests := true, laidLooks := .later }
def ParserParensCardSaid : Prop := Claim7.holds Tryz.pinned (.plain (OpenSpec.ofChange parserParensSpec)) parserParensCard

/-- THE TIED CARD OF 'configlanglaw26.ParserJoins'. -/
def parserJoinsCard : Claim7 := { stood := { row := parserJoinsRow, standIns := [], harness := (true, "76ae8481d8504df2a2dbfa608091ef326e9f1ac9b471349d33c210ff9f5d9874"), looks := true }, kinds := [], alts := [], laidByText := true, laidKinds := [.data, .data, .data, .data, .sentinel, .sentinel, .pinned], laidTests := true, laidLooks := .later }
def ParserJoinsCardSaid : Prop := Claim7.holds Tryz.pinned (.plain (OpenSpec.ofChange parserJoinsSpec)) parserJoinsCard

/-- THE SECOND FORM's CARD OF 'configlanglaw26.ParserFiles'. -/
def parserFilesUptoCard : Claim7 := { stood := { row := parserFilesUptoRow, standIns := [], harness := (true, "76ae8481d8504df2a2dbfa608091ef326e9f1ac9b471349d33c210ff9f5d9874"), looks := true }, kinds := [], alts := [], laidByText := true, laidKinds := [.data, .data, .data, .data, .sentinel, .sentinel, .pinned], laidTests := true, laidLooks := .later }
def ParserFilesUptoCardSaid : Prop := Claim7.holds Tryz.pinned (.plain (OpenSpec.upto parserFilesSpec)) parserFilesUptoCard

/-- THE SECOND FORM's CARD OF 'configlanglaw26.ParserExprs'. -/
def parserExprsUptoCard : Claim7 := { stood := { row := parserExprsUptoRow, standIns := [], harness := (true, "76ae8481d8504df2a2dbfa608091ef326e9f1ac9b471349d33c210ff9f5d9874"), looks := true }, kinds := [], alts := [], laidByText := true, laidKinds := [.data, .data, .data, .data, .sentinel, .sentinel, .pinned], laidTests := true, laidLooks := .later }
def ParserExprsUptoCardSaid : Prop := Claim7.holds Tryz.pinned (.plain (OpenSpec.upto parserExprsSpec)) parserExprsUptoCard

/-- THE SECOND FORM's CARD OF 'configlanglaw26.ParserValid'. -/
def parserValidUptoCard : Claim7 := { stood := { row := parserValidUptoRow, standIns := [], harness := (true, "76ae8481d8504df2a2dbfa608091ef326e9f1ac9b471349d33c210ff9f5d9874"), looks := true }, kinds := [], alts := [], laidByText := true, laidKinds := [.data, .data, .data, .data, .sentinel, .sentinel, .pinned], laidTests := true, laidLooks := .later }
def ParserValidUptoCardSaid : Prop := Claim7.holds Tryz.pinned (.plain (OpenSpec.upto parserValidSpec)) parserValidUptoCard

/-- THE SECOND FORM's CARD OF 'configlanglaw26.ParserFaults'. -/
def parserFaultsUptoCard : Claim7 := { stood := { row := parserFaultsUptoRow, standIns := [], harness := (true, "76ae8481d8504df2a2dbfa608091ef326e9f1ac9b471349d33c210ff9f5d9874"), looks := true }, kinds := [], alts := [], laidByText := true, laidKinds := [.data, .data, .data, .data, .sentinel, .sentinel, .pinned], laidTests := true, laidLooks := .later }
def ParserFaultsUptoCardSaid : Prop := Claim7.holds Tryz.pinned (.plain (OpenSpec.upto parserFaultsSpec)) parserFaultsUptoCard

/-- THE SECOND FORM's CARD OF 'configlanglaw26.ParserBlanks'. -/
def parserBlanksUptoCard : Claim7 := { stood := { row := parserBlanksUptoRow, standIns := [], harness := (true, "76ae8481d8504df2a2dbfa608091ef326e9f1ac9b471349d33c210ff9f5d9874"), looks := true }, kinds := [], alts := [], laidByText := true, laidKinds := [.data, .data, .data, .data, .sentinel, .sentinel, .pinned], laidTests := true, laidLooks := .later }
def ParserBlanksUptoCardSaid : Prop := Claim7.holds Tryz.pinned (.plain (OpenSpec.upto parserBlanksSpec)) parserBlanksUptoCard

/-- THE SECOND FORM's CARD OF 'configlanglaw26.ParserWraps'. -/
def parserWrapsUptoCard : Claim7 := { stood := { row := parserWrapsUptoRow, standIns := [], harness := (true, "76ae8481d8504df2a2dbfa608091ef326e9f1ac9b471349d33c210ff9f5d9874"), looks := true }, kinds := [], alts := [], laidByText := true, laidKinds := [.data, .data, .data, .data, .sentinel, .sentinel, .pinned], laidTests := true, laidLooks := .later }
def ParserWrapsUptoCardSaid : Prop := Claim7.holds Tryz.pinned (.plain (OpenSpec.upto parserWrapsSpec)) parserWrapsUptoCard

/-- THE SECOND FORM's CARD OF 'configlanglaw26.ParserParens'. -/
def parserParensUptoCard : Claim7 := { stood := { row := parserParensUptoRow, standIns := [], harness := (true, "76ae8481d8504df2a2dbfa608091ef326e9f1ac9b471349d33c210ff9f5d9874"), looks := true }, kinds := [], alts := [], laidByText := true, laidKinds := [.data, .data, .data, .data, .sentinel, .sentinel, .pinned], laidTests := true, laidLooks := .later }
def ParserParensUptoCardSaid : Prop := Claim7.holds Tryz.pinned (.plain (OpenSpec.upto parserParensSpec)) parserParensUptoCard

/-- THE SECOND FORM's CARD OF 'configlanglaw26.ParserJoins'. -/
def parserJoinsUptoCard : Claim7 := { stood := { row := parserJoinsUptoRow, standIns := [], harness := (true, "76ae8481d8504df2a2dbfa608091ef326e9f1ac9b471349d33c210ff9f5d9874"), looks := true }, kinds := [], alts := [], laidByText := true, laidKinds := [.data, .data, .data, .data, .sentinel, .sentinel, .pinned], laidTests := true, laidLooks := .later }
def ParserJoinsUptoCardSaid : Prop := Claim7.holds Tryz.pinned (.plain (OpenSpec.upto parserJoinsSpec)) parserJoinsUptoCard
end Rows
end Go.Proofs.YtkhjeiaafiodeaaGreatDoor
