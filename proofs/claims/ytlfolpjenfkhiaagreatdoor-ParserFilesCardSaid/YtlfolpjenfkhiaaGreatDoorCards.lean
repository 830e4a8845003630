/-
  DERIVED. GIVEN WITH THE SEED: THE CARDS: each row of YtlfolpjenfkhiaaGreatDoorRows.lean that lists a variable, with what it lists TIED to the program's text (the seventh form; the later family's looks); each row that meets fmt, with fmt's text TOLD by the authors' own Lean function (tested against real Go, not proved from fmt's source: count such statements apart). THE CARD IS WHAT COUNTS. Prove the row's statement (the work); the ties are given (YtlfolpjenfkhiaaGreatDoorTie.lean); close each card by the builder's one call (the guide's Derived/Test/ToyasCard.lean, 'card_holds'). Laid BY PROGRAM, IN A SANDBOX (cutbox-door.mjs). By AI agents, Wed Nov 11 2026. No macro, syntax, notation, axiom, sorry.
-/
import Derived.Test.YtlfolpjenfkhiaaGreatDoorRows
import GoSem.ClaimSeven
namespace Go.Proofs.YtlfolpjenfkhiaaGreatDoor
namespace Rows

/-- THE TIED CARD OF 'configlanglaw26.ParserFiles'. -/
def parserFilesCard : Claim7 := { stood := { row := parserFilesRow, standIns := [], harness := (true, "58b9937d4313d5c67c7b8f838783fc3e3b3947e6a3f061afd85fb61dc1ba3fab"), looks := true }, kinds := [], alts := [], laidByText := true, laidKinds := [.data, .data, .data, .data, .sentinel, .sentinel, .pinned], laidTests := true, laidLooks := .later }
def ParserFilesCardSaid : Prop := Claim7.holds Tryz.pinned (.plain (OpenSpec.ofChange parserFilesSpec)) parserFilesCard

/-- THE TIED CARD OF 'configlanglaw26.ParserExprs'. -/
def parserExprsCard : Claim7 := { stood := { row := parserExprsRow, standIns := [], harness := (true, "58b9937d4313d5c67c7b8f838783fc3e3b3947e6a3f061afd85fb61dc1ba3fab"), looks := true }, kinds := [], alts := [], laidByText := true, laidKinds := [.data, .data, .data, .data, .sentinel, .sentinel, .pinned], laidTests := true, laidLooks := .later }
def ParserExprsCardSaid : Prop := Claim7.holds Tryz.pinned (.plain (OpenSpec.ofChange parserExprsSpec)) parserExprsCard

/-- THE SECOND FORM's CARD OF 'configlanglaw26.ParserFiles'. -/
def parserFilesUptoCard : Claim7 := { stood := { row := parserFilesUptoRow, standIns := [], harness := (true, "58b9937d4313d5c67c7b8f838783fc3e3b3947e6a3f061afd85fb61dc1ba3fab"), looks := true }, kinds := [], alts := [], laidByText := true, laidKinds := [.data, .data, .data, .data, .sentinel, .sentinel, .pinned], laidTests := true, laidLooks := .later }
def ParserFilesUptoCardSaid : Prop := Claim7.holds Tryz.pinned (.plain (OpenSpec.upto parserFilesSpec)) parserFilesUptoCard

/-- THE SECOND FORM's CARD OF 'configlanglaw26.ParserExprs'. -/
def parserExprsUptoCard : Claim7 := { stood := { row := parserExprsUptoRow, standIns := [], harness := (true, "58b9937d4313d5c67c7b8f838783fc3e3b3947e6a3f061afd85fb61dc1ba3fab"), looks := true }, kinds := [], alts := [], laidByText := true, laidKinds := [.data, .data, .data, .data, .sentinel, .sentinel, .pinned], laidTests := true, laidLooks := .later }
def ParserExprsUptoCardSaid : Prop := Claim7.holds Tryz.pinned (.plain (OpenSpec.upto parserExprsSpec)) parserExprsUptoCard
end Rows
end Go.Proofs.YtlfolpjenfkhiaaGreatDoor
