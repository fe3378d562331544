/-
  DERIVED. GIVEN WITH THE SEED: THE CARDS: each row of YtfblenhlildnaaaGreatDoorRows.lean that lists a variable, with what it lists TIED to the program's text (the seventh form; the later family's looks); each row that meets fmt, with fmt's text TOLD by the authors' own Lean function (tested against real Go, not proved from fmt's source: count such statements apart). THE CARD IS WHAT COUNTS. Prove the row's statement (the work); the ties are given (YtfblenhlildnaaaGreatDoorTie.lean); close each card by the builder's one call (the guide's Derived/Test/ToyasCard.lean, 'card_holds'). Laid BY PROGRAM, IN A SANDBOX (cutbox-door.mjs). By AI agents, Wed Nov 11 2026. No macro, syntax, notation, axiom, sorry.
-/
import Derived.Test.YtfblenhlildnaaaGreatDoorRows
import GoSem.ClaimSeven
namespace Go.Proofs.YtfblenhlildnaaaGreatDoor
namespace Rows

/-- THE TIED CARD OF 'tailracelaw17.ParseStatements'. -/
def parseStatementsCard : Claim7 := { stood := { row := parseStatementsRow, standIns := [], harness := (true, "2c4a0cc6367f05e9bdc00b144e08a8aa6c444751202490e56f092446e1357e4f"), looks := true }, kinds := [], alts := [], laidByText := true, laidKinds := [.data, .data, .widerDeep, .widerDeep, .data, .data, .data, .data, .data, .sentinel, .sentinel, .pinned, .pinned], laidTests := true, laidLooks := .later }
def ParseStatementsCardSaid : Prop := Claim7.holds Tryz.pinned (.plain (OpenSpec.ofChange parseStatementsSpec)) parseStatementsCard

/-- THE TIED CARD OF 'tailracelaw17.ParseDeep'. -/
def parseDeepCard : Claim7 := { stood := { row := parseDeepRow, standIns := [], harness := (true, "2c4a0cc6367f05e9bdc00b144e08a8aa6c444751202490e56f092446e1357e4f"), looks := true }, kinds := [], alts := [], laidByText := true, laidKinds := [.data, .data, .widerDeep, .widerDeep, .data, .data, .data, .data, .data, .sentinel, .sentinel, .pinned, .pinned], laidTests := true, laidLooks := .later }
def ParseDeepCardSaid : Prop := Claim7.holds Tryz.pinned (.plain (OpenSpec.ofChange parseDeepSpec)) parseDeepCard

/-- THE TIED CARD OF 'tailracelaw18.ShowKnown'. -/
def showKnownCard : Claim7 := { stood := { row := showKnownRow, standIns := [], harness := (true, "2c4a0cc6367f05e9bdc00b144e08a8aa6c444751202490e56f092446e1357e4f"), looks := true }, kinds := [], alts := [], laidByText := true, laidKinds := [.data, .data, .widerDeep, .widerDeep, .data, .data, .data, .data, .data, .sentinel, .sentinel, .pinned, .pinned], laidTests := true, laidLooks := .later }
def ShowKnownCardSaid : Prop := Claim7.holds Tryz.pinned (.plain (OpenSpec.ofChange showKnownSpec)) showKnownCard

/-- THE SECOND FORM's CARD OF 'tailracelaw17.ParseStatements'. -/
def parseStatementsUptoCard : Claim7 := { stood := { row := parseStatementsUptoRow, standIns := [], harness := (true, "2c4a0cc6367f05e9bdc00b144e08a8aa6c444751202490e56f092446e1357e4f"), looks := true }, kinds := [], alts := [], laidByText := true, laidKinds := [.data, .data, .widerDeep, .widerDeep, .data, .data, .data, .data, .data, .sentinel, .sentinel, .pinned, .pinned], laidTests := true, laidLooks := .later }
def ParseStatementsUptoCardSaid : Prop := Claim7.holds Tryz.pinned (.plain (OpenSpec.upto parseStatementsSpec)) parseStatementsUptoCard

/-- THE SECOND FORM's CARD OF 'tailracelaw17.ParseDeep'. -/
def parseDeepUptoCard : Claim7 := { stood := { row := parseDeepUptoRow, standIns := [], harness := (true, "2c4a0cc6367f05e9bdc00b144e08a8aa6c444751202490e56f092446e1357e4f"), looks := true }, kinds := [], alts := [], laidByText := true, laidKinds := [.data, .data, .widerDeep, .widerDeep, .data, .data, .data, .data, .data, .sentinel, .sentinel, .pinned, .pinned], laidTests := true, laidLooks := .later }
def ParseDeepUptoCardSaid : Prop := Claim7.holds Tryz.pinned (.plain (OpenSpec.upto parseDeepSpec)) parseDeepUptoCard

/-- THE SECOND FORM's CARD OF 'tailracelaw18.ShowKnown'. -/
def showKnownUptoCard : Claim7 := { stood := { row := showKnownUptoRow, standIns := [], harness := (true, "2c4a0cc6367f05e9bdc00b144e08a8aa6c444751202490e56f092446e1357e4f"), looks := true }, kinds := [], alts := [], laidByText := true, laidKinds := [.data, .data, .widerDeep, .widerDeep, .data, .data, .data, .data, .data, .sentinel, .sentinel, .pinned, .pinned], laidTests := true, laidLooks := .later }
def ShowKnownUptoCardSaid : Prop := Claim7.holds Tryz.pinned (.plain (OpenSpec.upto showKnownSpec)) showKnownUptoCard
end Rows
end Go.Proofs.YtfblenhlildnaaaGreatDoor
