/-
  DERIVED. GIVEN WITH THE SEED: THE CARDS: each row of YtjolfpcpcaocmaaGreatDoorRows.lean that lists a variable, with what it lists TIED to the program's text (the seventh form; the later family's looks); each row that meets fmt, with fmt's text TOLD by the authors' own Lean function (tested against real Go, not proved from fmt's source: count such statements apart). THE CARD IS WHAT COUNTS. Prove the row's statement (the work); the ties are given (YtjolfpcpcaocmaaGreatDoorTie.lean); close each card by the builder's one call (the guide's Derived/Test/ToyasCard.lean, 'card_holds'). Laid BY PROGRAM, IN A SANDBOX (cutbox-door.mjs). By AI agents, Wed Nov 11 2026. No macro, syntax, notation, axiom, sorry.
-/
import Derived.Test.YtjolfpcpcaocmaaGreatDoorRows
import GoSem.ClaimSeven
namespace Go.Proofs.YtjolfpcpcaocmaaGreatDoor
namespace Rows

/-- THE TIED CARD OF 'tailracelaw17.ParseKnown'. -/
def parseKnownCard : Claim7 := { stood := { row := parseKnownRow, standIns := [], harness := (true, "ffdab007bec86a8ec4fe179a1e275c4b302c6986b994c2d759ac6a0dcb365db7"), looks := true }, kinds := [], alts := [], laidByText := true, laidKinds := [.data, .data, .widerDeep, .widerDeep, .data, .data, .data, .data, .data, .sentinel, .sentinel, .pinned, .pinned], laidTests := true, laidLooks := .later }
def ParseKnownCardSaid : Prop := Claim7.holds Tryz.pinned (.plain (OpenSpec.ofChange parseKnownSpec)) parseKnownCard

/-- THE TIED CARD OF 'tailracelaw17.ParseLong'. -/
def parseLongCard : Claim7 := { stood := { row := parseLongRow, standIns := [], harness := (true, "ffdab007bec86a8ec4fe179a1e275c4b302c6986b994c2d759ac6a0dcb365db7"), looks := true }, kinds := [], alts := [], laidByText := true, laidKinds := [.data, .data, .widerDeep, .widerDeep, .data, .data, .data, .data, .data, .sentinel, .sentinel, .pinned, .pinned], laidTests := true, laidLooks := .later }
def ParseLongCardSaid : Prop := Claim7.holds Tryz.pinned (.plain (OpenSpec.ofChange parseLongSpec)) parseLongCard

/-- THE SECOND FORM's CARD OF 'tailracelaw17.ParseKnown'. -/
def parseKnownUptoCard : Claim7 := { stood := { row := parseKnownUptoRow, standIns := [], harness := (true, "ffdab007bec86a8ec4fe179a1e275c4b302c6986b994c2d759ac6a0dcb365db7"), looks := true }, kinds := [], alts := [], laidByText := true, laidKinds := [.data, .data, .widerDeep, .widerDeep, .data, .data, .data, .data, .data, .sentinel, .sentinel, .pinned, .pinned], laidTests := true, laidLooks := .later }
def ParseKnownUptoCardSaid : Prop := Claim7.holds Tryz.pinned (.plain (OpenSpec.upto parseKnownSpec)) parseKnownUptoCard

/-- THE SECOND FORM's CARD OF 'tailracelaw17.ParseLong'. -/
def parseLongUptoCard : Claim7 := { stood := { row := parseLongUptoRow, standIns := [], harness := (true, "ffdab007bec86a8ec4fe179a1e275c4b302c6986b994c2d759ac6a0dcb365db7"), looks := true }, kinds := [], alts := [], laidByText := true, laidKinds := [.data, .data, .widerDeep, .widerDeep, .data, .data, .data, .data, .data, .sentinel, .sentinel, .pinned, .pinned], laidTests := true, laidLooks := .later }
def ParseLongUptoCardSaid : Prop := Claim7.holds Tryz.pinned (.plain (OpenSpec.upto parseLongSpec)) parseLongUptoCard
end Rows
end Go.Proofs.YtjolfpcpcaocmaaGreatDoor
