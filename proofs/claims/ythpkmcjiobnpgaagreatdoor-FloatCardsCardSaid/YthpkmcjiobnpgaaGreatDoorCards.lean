/-
  DERIVED. GIVEN WITH THE SEED: THE CARDS: each row of YthpkmcjiobnpgaaGreatDoorRows.lean that lists a variable, with what it lists TIED to the program's text (the seventh form; the later family's looks); each row that meets fmt, with fmt's text TOLD by the authors' own Lean function (tested against real Go, not proved from fmt's source: count such statements apart). THE CARD IS WHAT COUNTS. Prove the row's statement (the work); the ties are given (YthpkmcjiobnpgaaGreatDoorTie.lean); close each card by the builder's one call (the guide's Derived/Test/ToyasCard.lean, 'card_holds'). Laid BY PROGRAM, IN A SANDBOX (cutbox-door.mjs). By AI agents, Wed Nov 11 2026. No macro, syntax, notation, axiom, sorry.
-/
import Derived.Test.YthpkmcjiobnpgaaGreatDoorRows
import GoSem.ClaimSeven
namespace Go.Proofs.YthpkmcjiobnpgaaGreatDoor
namespace Rows

/-- THE TIED CARD OF 'baterialaw02.FloatCards'. -/
def floatCardsCard : Claim7 := { stood := { row := floatCardsRow, standIns := [], harness := (true, "3b078827f649656235a686c66793dc3a278843b1723610ed76d48fc53f7d6998"), looks := true }, kinds := [], alts := [], laidByText := true, laidKinds := [.data, .data, .data, .data, .sentinel, .sentinel, .pinned], laidTests := true, laidLooks := .later }
def FloatCardsCardSaid : Prop := Claim7.holds Tryz.pinned (.plain (OpenSpec.ofChange floatCardsSpec)) floatCardsCard

/-- THE TIED CARD OF 'baterialaw02.FloatTape'. -/
def floatTapeCard : Claim7 := { stood := { row := floatTapeRow, standIns := [], harness := (true, "3b078827f649656235a686c66793dc3a278843b1723610ed76d48fc53f7d6998"), looks := true }, kinds := [], alts := [], laidByText := true, laidKinds := [.data, .data, .data, .data, .sentinel, .sentinel, .pinned], laidTests := true, laidLooks := .later }
def FloatTapeCardSaid : Prop := Claim7.holds Tryz.pinned (.plain (OpenSpec.ofChange floatTapeSpec)) floatTapeCard

/-- THE SECOND FORM's CARD OF 'baterialaw02.FloatCards'. -/
def floatCardsUptoCard : Claim7 := { stood := { row := floatCardsUptoRow, standIns := [], harness := (true, "3b078827f649656235a686c66793dc3a278843b1723610ed76d48fc53f7d6998"), looks := true }, kinds := [], alts := [], laidByText := true, laidKinds := [.data, .data, .data, .data, .sentinel, .sentinel, .pinned], laidTests := true, laidLooks := .later }
def FloatCardsUptoCardSaid : Prop := Claim7.holds Tryz.pinned (.plain (OpenSpec.upto floatCardsSpec)) floatCardsUptoCard

/-- THE SECOND FORM's CARD OF 'baterialaw02.FloatTape'. -/
def floatTapeUptoCard : Claim7 := { stood := { row := floatTapeUptoRow, standIns := [], harness := (true, "3b078827f649656235a686c66793dc3a278843b1723610ed76d48fc53f7d6998"), looks := true }, kinds := [], alts := [], laidByText := true, laidKinds := [.data, .data, .data, .data, .sentinel, .sentinel, .pinned], laidTests := true, laidLooks := .later }
def FloatTapeUptoCardSaid : Prop := Claim7.holds Tryz.pinned (.plain (OpenSpec.upto floatTapeSpec)) floatTapeUptoCard
end Rows
end Go.Proofs.YthpkmcjiobnpgaaGreatDoor
