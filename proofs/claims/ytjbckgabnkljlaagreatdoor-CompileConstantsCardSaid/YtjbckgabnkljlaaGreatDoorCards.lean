/-
  DERIVED. GIVEN WITH THE SEED: THE CARDS: each row of YtjbckgabnkljlaaGreatDoorRows.lean that lists a variable, with what it lists TIED to the program's text (the seventh form; the later family's looks); each row that meets fmt, with fmt's text TOLD by the authors' own Lean function (tested against real Go, not proved from fmt's source: count such statements apart). THE CARD IS WHAT COUNTS. Prove the row's statement (the work); the ties are given (YtjbckgabnkljlaaGreatDoorTie.lean); close each card by the builder's one call (the guide's Derived/Test/ToyasCard.lean, 'card_holds'). Laid BY PROGRAM, IN A SANDBOX (cutbox-door.mjs). By AI agents, Wed Nov 11 2026. No macro, syntax, notation, axiom, sorry.
-/
import Derived.Test.YtjbckgabnkljlaaGreatDoorRows
import GoSem.ClaimSeven
namespace Go.Proofs.YtjbckgabnkljlaaGreatDoor
namespace Rows

/-- THE TIED CARD OF 'shucklaw18.CompileConstants'. -/
def compileConstantsCard : Claim7 := { stood := { row := compileConstantsRow, standIns := [], harness := (true, "a4beef5747d145ad9d4d735f1273b1b32a37ce90f7b2f19542192746d29d5a44"), looks := true }, kinds := [], alts := [], laidByText := true, laidKinds := [.sentinel, .sentinel, .data, .data, .data, .pinned, .data, .data, .listed], laidTests := true, laidLooks := .later }
def CompileConstantsCardSaid : Prop := Claim7.holds Tryz.pinned (.plain (OpenSpec.ofChange compileConstantsSpec)) compileConstantsCard

/-- THE SECOND FORM's CARD OF 'shucklaw18.CompileConstants'. -/
def compileConstantsUptoCard : Claim7 := { stood := { row := compileConstantsUptoRow, standIns := [], harness := (true, "a4beef5747d145ad9d4d735f1273b1b32a37ce90f7b2f19542192746d29d5a44"), looks := true }, kinds := [], alts := [], laidByText := true, laidKinds := [.sentinel, .sentinel, .data, .data, .data, .pinned, .data, .data, .listed], laidTests := true, laidLooks := .later }
def CompileConstantsUptoCardSaid : Prop := Claim7.holds Tryz.pinned (.plain (OpenSpec.upto compileConstantsSpec)) compileConstantsUptoCard
end Rows
end Go.Proofs.YtjbckgabnkljlaaGreatDoor
