/-
  DERIVED. GIVEN WITH THE SEED: THE CARDS: each row of YtoafigpikgigaaaGreatDoorRows.lean that lists a variable, with what it lists TIED to the program's text (the seventh form; the later family's looks); each row that meets fmt, with fmt's text TOLD by the authors' own Lean function (tested against real Go, not proved from fmt's source: count such statements apart). THE CARD IS WHAT COUNTS. Prove the row's statement (the work); the ties are given (YtoafigpikgigaaaGreatDoorTie.lean); close each card by the builder's one call (the guide's Derived/Test/ToyasCard.lean, 'card_holds'). Laid BY PROGRAM, IN A SANDBOX (cutbox-door.mjs). By AI agents, Wed Nov 11 2026. No macro, syntax, notation, axiom, sorry.
-/
import Derived.Test.YtoafigpikgigaaaGreatDoorRows
import GoSem.ClaimSeven
namespace Go.Proofs.YtoafigpikgigaaaGreatDoor
namespace Rows

/-- THE TIED CARD OF 'baterialaw06.CrowdCharters'. -/
def crowdChartersCard : Claim7 := { stood := { row := crowdChartersRow, standIns := [], harness := (true, "624c694edb86f477ec0ba500a4974b6a472950937f44149116cd35585ddb9921"), looks := true }, kinds := [], alts := [], laidByText := true, laidKinds := [.data, .data, .data, .data, .sentinel, .sentinel, .pinned], laidTests := true, laidLooks := .later }
def CrowdChartersCardSaid : Prop := Claim7.holds Tryz.pinned (.plain (OpenSpec.ofChange crowdChartersSpec)) crowdChartersCard

/-- THE TIED CARD OF 'baterialaw06.CrowdTape'. -/
def crowdTapeCard : Claim7 := { stood := { row := crowdTapeRow, standIns := [], harness := (true, "624c694edb86f477ec0ba500a4974b6a472950937f44149116cd35585ddb9921"), looks := true }, kinds := [], alts := [], laidByText := true, laidKinds := [.data, .data, .data, .data, .sentinel, .sentinel, .pinned], laidTests := true, laidLooks := .later }
def CrowdTapeCardSaid : Prop := Claim7.holds Tryz.pinned (.plain (OpenSpec.ofChange crowdTapeSpec)) crowdTapeCard

/-- THE SECOND FORM's CARD OF 'baterialaw06.CrowdCharters'. -/
def crowdChartersUptoCard : Claim7 := { stood := { row := crowdChartersUptoRow, standIns := [], harness := (true, "624c694edb86f477ec0ba500a4974b6a472950937f44149116cd35585ddb9921"), looks := true }, kinds := [], alts := [], laidByText := true, laidKinds := [.data, .data, .data, .data, .sentinel, .sentinel, .pinned], laidTests := true, laidLooks := .later }
def CrowdChartersUptoCardSaid : Prop := Claim7.holds Tryz.pinned (.plain (OpenSpec.upto crowdChartersSpec)) crowdChartersUptoCard

/-- THE SECOND FORM's CARD OF 'baterialaw06.CrowdTape'. -/
def crowdTapeUptoCard : Claim7 := { stood := { row := crowdTapeUptoRow, standIns := [], harness := (true, "624c694edb86f477ec0ba500a4974b6a472950937f44149116cd35585ddb9921"), looks := true }, kinds := [], alts := [], laidByText := true, laidKinds := [.data, .data, .data, .data, .sentinel, .sentinel, .pinned], laidTests := true, laidLooks := .later }
def CrowdTapeUptoCardSaid : Prop := Claim7.holds Tryz.pinned (.plain (OpenSpec.upto crowdTapeSpec)) crowdTapeUptoCard
end Rows
end Go.Proofs.YtoafigpikgigaaaGreatDoor
