/-
  DERIVED. GIVEN WITH THE SEED: THE CARDS: each row of YtaijkalhkgjakaaGreatDoorRows.lean that lists a variable, with what it lists TIED to the program's text (the seventh form; the later family's looks); each row that meets fmt, with fmt's text TOLD by the authors' own Lean function (tested against real Go, not proved from fmt's source: count such statements apart). THE CARD IS WHAT COUNTS. Prove the row's statement (the work); the ties are given (YtaijkalhkgjakaaGreatDoorTie.lean); close each card by the builder's one call (the guide's Derived/Test/ToyasCard.lean, 'card_holds'). Laid BY PROGRAM, IN A SANDBOX (cutbox-door.mjs). By AI agents, Wed Nov 11 2026. No macro, syntax, notation, axiom, sorry.
-/
import Derived.Test.YtaijkalhkgjakaaGreatDoorRows
import GoSem.ClaimSeven
namespace Go.Proofs.YtaijkalhkgjakaaGreatDoor
namespace Rows

/-- THE TIED CARD OF 'baterialaw08.ShedFits'. -/
def shedFitsCard : Claim7 := { stood := { row := shedFitsRow, standIns := [], harness := (true, "76f8fcd239e48aebdb6f6c9b9e7952065e355656ad1f43f02b629ab88d6fff6b"), looks := true }, kinds := [], alts := [], laidByText := true, laidKinds := [.data], laidTests := true, laidLooks := .later }
def ShedFitsCardSaid : Prop := Claim7.holds Tryz.pinned (.plain (OpenSpec.ofChange shedFitsSpec)) shedFitsCard

/-- THE TIED CARD OF 'baterialaw08.ShedKnown'. -/
def shedKnownCard : Claim7 := { stood := { row := shedKnownRow, standIns := [], harness := (true, "76f8fcd239e48aebdb6f6c9b9e7952065e355656ad1f43f02b629ab88d6fff6b"), looks := true }, kinds := [], alts := [], laidByText := true, laidKinds := [.data, .data, .data, .data], laidTests := true, laidLooks := .later }
def ShedKnownCardSaid : Prop := Claim7.holds Tryz.pinned (.plain (OpenSpec.ofChange shedKnownSpec)) shedKnownCard

/-- THE TIED CARD OF 'baterialaw08.ShedBoards'. -/
def shedBoardsCard : Claim7 := { stood := { row := shedBoardsRow, standIns := [], harness := (true, "76f8fcd239e48aebdb6f6c9b9e7952065e355656ad1f43f02b629ab88d6fff6b"), looks := true }, kinds := [], alts := [], laidByText := true, laidKinds := [.data, .data, .data, .data, .sentinel, .sentinel, .data, .pinned], laidTests := true, laidLooks := .later }
def ShedBoardsCardSaid : Prop := Claim7.holds Tryz.pinned (.plain (OpenSpec.ofChange shedBoardsSpec)) shedBoardsCard

/-- THE TIED CARD OF 'baterialaw08.ShedTape'. -/
def shedTapeCard : Claim7 := { stood := { row := shedTapeRow, standIns := [], harness := (true, "76f8fcd239e48aebdb6f6c9b9e7952065e355656ad1f43f02b629ab88d6fff6b"), looks := true }, kinds := [], alts := [], laidByText := true, laidKinds := [.data, .data, .data, .data, .sentinel, .sentinel, .data, .pinned], laidTests := true, laidLooks := .later }
def ShedTapeCardSaid : Prop := Claim7.holds Tryz.pinned (.plain (OpenSpec.ofChange shedTapeSpec)) shedTapeCard

/-- THE SECOND FORM's CARD OF 'baterialaw08.ShedFits'. -/
def shedFitsUptoCard : Claim7 := { stood := { row := shedFitsUptoRow, standIns := [], harness := (true, "76f8fcd239e48aebdb6f6c9b9e7952065e355656ad1f43f02b629ab88d6fff6b"), looks := true }, kinds := [], alts := [], laidByText := true, laidKinds := [.data], laidTests := true, laidLooks := .later }
def ShedFitsUptoCardSaid : Prop := Claim7.holds Tryz.pinned (.plain (OpenSpec.upto shedFitsSpec)) shedFitsUptoCard

/-- THE SECOND FORM's CARD OF 'baterialaw08.ShedKnown'. -/
def shedKnownUptoCard : Claim7 := { stood := { row := shedKnownUptoRow, standIns := [], harness := (true, "76f8fcd239e48aebdb6f6c9b9e7952065e355656ad1f43f02b629ab88d6fff6b"), looks := true }, kinds := [], alts := [], laidByText := true, laidKinds := [.data, .data, .data, .data], laidTests := true, laidLooks := .later }
def ShedKnownUptoCardSaid : Prop := Claim7.holds Tryz.pinned (.plain (OpenSpec.upto shedKnownSpec)) shedKnownUptoCard

/-- THE SECOND FORM's CARD OF 'baterialaw08.ShedBoards'. -/
def shedBoardsUptoCard : Claim7 := { stood := { row := shedBoardsUptoRow, standIns := [], harness := (true, "76f8fcd239e48aebdb6f6c9b9e7952065e355656ad1f43f02b629ab88d6fff6b"), looks := true }, kinds := [], alts := [], laidByText := true, laidKinds := [.data, .data, .data, .data, .sentinel, .sentinel, .data, .pinned], laidTests := true, laidLooks := .later }
def ShedBoardsUptoCardSaid : Prop := Claim7.holds Tryz.pinned (.plain (OpenSpec.upto shedBoardsSpec)) shedBoardsUptoCard

/-- THE SECOND FORM's CARD OF 'baterialaw08.ShedTape'. -/
def shedTapeUptoCard : Claim7 := { stood := { row := shedTapeUptoRow, standIns := [], harness := (true, "76f8fcd239e48aebdb6f6c9b9e7952065e355656ad1f43f02b629ab88d6fff6b"), looks := true }, kinds := [], alts := [], laidByText := true, laidKinds := [.data, .data, .data, .data, .sentinel, .sentinel, .data, .pinned], laidTests := true, laidLooks := .later }
def ShedTapeUptoCardSaid : Prop := Claim7.holds Tryz.pinned (.plain (OpenSpec.upto shedTapeSpec)) shedTapeUptoCard
end Rows
end Go.Proofs.YtaijkalhkgjakaaGreatDoor
