/-
  DERIVED. GIVEN WITH THE SEED: THE CARDS: each row of YtipfpohlnhmlpaaGreatDoorRows.lean that lists a variable, with what it lists TIED to the program's text (the seventh form; the later family's looks); each row that meets fmt, with fmt's text TOLD by the authors' own Lean function (tested against real Go, not proved from fmt's source: count such statements apart). THE CARD IS WHAT COUNTS. Prove the row's statement (the work); the ties are given (YtipfpohlnhmlpaaGreatDoorTie.lean); close each card by the builder's one call (the guide's Derived/Test/ToyasCard.lean, 'card_holds'). Laid BY PROGRAM, IN A SANDBOX (cutbox-door.mjs). By AI agents, Wed Nov 11 2026. No macro, syntax, notation, axiom, sorry.
-/
import Derived.Test.YtipfpohlnhmlpaaGreatDoorRows
import GoSem.ClaimSeven
namespace Go.Proofs.YtipfpohlnhmlpaaGreatDoor
namespace Rows

/-- THE TIED CARD OF 'tailracelaw16.TokenMade'. -/
def tokenMadeCard : Claim7 := { stood := { row := tokenMadeRow, standIns := [], harness := (true, "426b1b1d3719a03eac3aaafbcb1ac10c96bd4cb981409a4a8f734de5b6aa65ac"), looks := true }, kinds := [], alts := [], laidByText := true, laidKinds := [.data, .data, .widerDeep, .widerDeep, .data, .data, .data, .data, .data, .sentinel, .sentinel, .data, .data, .data, .data, .data, .data, .data, .data, .pinned, .pinned], laidTests := true, laidLooks := .later }
def TokenMadeCardSaid : Prop := Claim7.holds Tryz.pinned (.plain (OpenSpec.ofChange tokenMadeSpec)) tokenMadeCard

/-- THE SECOND FORM's CARD OF 'tailracelaw16.TokenMade'. -/
def tokenMadeUptoCard : Claim7 := { stood := { row := tokenMadeUptoRow, standIns := [], harness := (true, "426b1b1d3719a03eac3aaafbcb1ac10c96bd4cb981409a4a8f734de5b6aa65ac"), looks := true }, kinds := [], alts := [], laidByText := true, laidKinds := [.data, .data, .widerDeep, .widerDeep, .data, .data, .data, .data, .data, .sentinel, .sentinel, .data, .data, .data, .data, .data, .data, .data, .data, .pinned, .pinned], laidTests := true, laidLooks := .later }
def TokenMadeUptoCardSaid : Prop := Claim7.holds Tryz.pinned (.plain (OpenSpec.upto tokenMadeSpec)) tokenMadeUptoCard
end Rows
end Go.Proofs.YtipfpohlnhmlpaaGreatDoor
