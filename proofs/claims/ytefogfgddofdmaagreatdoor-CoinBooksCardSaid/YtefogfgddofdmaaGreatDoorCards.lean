/-
  DERIVED. GIVEN WITH THE SEED: THE CARDS: each row of YtefogfgddofdmaaGreatDoorRows.lean that lists a variable, with what it lists TIED to the program's text (the seventh form; the later family's looks); each row that meets fmt, with fmt's text TOLD by the authors' own Lean function (tested against real Go, not proved from fmt's source: count such statements apart). THE CARD IS WHAT COUNTS. Prove the row's statement (the work); the ties are given (YtefogfgddofdmaaGreatDoorTie.lean); close each card by the builder's one call (the guide's Derived/Test/ToyasCard.lean, 'card_holds'). Laid BY PROGRAM, IN A SANDBOX (cutbox-door.mjs). By AI agents, Wed Nov 11 2026. No macro, syntax, notation, axiom, sorry.
-/
import Derived.Test.YtefogfgddofdmaaGreatDoorRows
import GoSem.ClaimSeven
namespace Go.Proofs.YtefogfgddofdmaaGreatDoor
namespace Rows

/-- THE TIED CARD OF 'baterialaw09.CoinBooks'. -/
def coinBooksCard : Claim7 := { stood := { row := coinBooksRow, standIns := [], harness := (true, "ec3c5da664ed581651c615105785aebdab2fababb32ad17c5d7cbe2b51f0924d"), looks := true }, kinds := [], alts := [], laidByText := true, laidKinds := [.data, .data, .data, .data, .sentinel, .sentinel, .pinned], laidTests := true, laidLooks := .later }
def CoinBooksCardSaid : Prop := Claim7.holds Tryz.pinned (.plain (OpenSpec.ofChange coinBooksSpec)) coinBooksCard

/-- THE TIED CARD OF 'baterialaw09.CoinTape'. -/
def coinTapeCard : Claim7 := { stood := { row := coinTapeRow, standIns := [], harness := (true, "ec3c5da664ed581651c615105785aebdab2fababb32ad17c5d7cbe2b51f0924d"), looks := true }, kinds := [], alts := [], laidByText := true, laidKinds := [.data, .data, .data, .data, .sentinel, .sentinel, .pinned], laidTests := true, laidLooks := .later }
def CoinTapeCardSaid : Prop := Claim7.holds Tryz.pinned (.plain (OpenSpec.ofChange coinTapeSpec)) coinTapeCard

/-- THE SECOND FORM's CARD OF 'baterialaw09.CoinBooks'. -/
def coinBooksUptoCard : Claim7 := { stood := { row := coinBooksUptoRow, standIns := [], harness := (true, "ec3c5da664ed581651c615105785aebdab2fababb32ad17c5d7cbe2b51f0924d"), looks := true }, kinds := [], alts := [], laidByText := true, laidKinds := [.data, .data, .data, .data, .sentinel, .sentinel, .pinned], laidTests := true, laidLooks := .later }
def CoinBooksUptoCardSaid : Prop := Claim7.holds Tryz.pinned (.plain (OpenSpec.upto coinBooksSpec)) coinBooksUptoCard

/-- THE SECOND FORM's CARD OF 'baterialaw09.CoinTape'. -/
def coinTapeUptoCard : Claim7 := { stood := { row := coinTapeUptoRow, standIns := [], harness := (true, "ec3c5da664ed581651c615105785aebdab2fababb32ad17c5d7cbe2b51f0924d"), looks := true }, kinds := [], alts := [], laidByText := true, laidKinds := [.data, .data, .data, .data, .sentinel, .sentinel, .pinned], laidTests := true, laidLooks := .later }
def CoinTapeUptoCardSaid : Prop := Claim7.holds Tryz.pinned (.plain (OpenSpec.upto coinTapeSpec)) coinTapeUptoCard
end Rows
end Go.Proofs.YtefogfgddofdmaaGreatDoor
