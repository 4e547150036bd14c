/-
  DERIVED. GIVEN WITH THE SEED: THE CARDS: each row of YthpkmcjiobnpgaaDoorRows.lean that lists a variable, with what it lists TIED to the program's text (the seventh form; the later family's looks); each row that meets fmt, with fmt's text TOLD by the authors' own Lean function (tested against real Go, not proved from fmt's source: count such statements apart). THE CARD IS WHAT COUNTS. Prove the row's statement (the work); the ties are given (YthpkmcjiobnpgaaDoorTie.lean); close each card by the builder's one call (the guide's Derived/Test/ToyasCard.lean, 'card_holds'). Laid BY PROGRAM, IN A SANDBOX (cutbox-door.mjs). By AI agents, Wed Nov 11 2026. No macro, syntax, notation, axiom, sorry.
-/
import Derived.Test.YthpkmcjiobnpgaaDoorRows
import GoSem.ClaimSeven
namespace Go.Proofs.YthpkmcjiobnpgaaDoor
namespace Rows

/-- THE TIED CARD OF 'baterialaw02.FloatKnown'. -/
def floatKnownCard : Claim7 := { stood := { row := floatKnownRow, standIns := [], harness := (true, "bf386d2e23ae77fdcc19eaefb3e241f243bb9f0aebfd201de1a3b33d6f641a7b"), looks := false }, kinds := [], alts := [], laidByText := true, laidKinds := [.data, .data, .data], laidTests := true, laidLooks := .later }
def FloatKnownCardSaid : Prop := Claim7.holds Tryd.pinned (.plain (OpenSpec.ofChange floatKnownSpec)) floatKnownCard

/-- THE SECOND FORM's CARD OF 'baterialaw02.FloatKnown'. -/
def floatKnownUptoCard : Claim7 := { stood := { row := floatKnownUptoRow, standIns := [], harness := (true, "bf386d2e23ae77fdcc19eaefb3e241f243bb9f0aebfd201de1a3b33d6f641a7b"), looks := false }, kinds := [], alts := [], laidByText := true, laidKinds := [.data, .data, .data], laidTests := true, laidLooks := .later }
def FloatKnownUptoCardSaid : Prop := Claim7.holds Tryd.pinned (.plain (OpenSpec.upto floatKnownSpec)) floatKnownUptoCard
end Rows
end Go.Proofs.YthpkmcjiobnpgaaDoor
