/-
  DERIVED. GIVEN WITH THE SEED: THE CARDS: each row of YtoafigpikgigaaaDoorRows.lean that lists a variable, with what it lists TIED to the program's text (the seventh form; the later family's looks); each row that meets fmt, with fmt's text TOLD by the authors' own Lean function (tested against real Go, not proved from fmt's source: count such statements apart). THE CARD IS WHAT COUNTS. Prove the row's statement (the work); the ties are given (YtoafigpikgigaaaDoorTie.lean); close each card by the builder's one call (the guide's Derived/Test/ToyasCard.lean, 'card_holds'). Laid BY PROGRAM, IN A SANDBOX (cutbox-door.mjs). By AI agents, Wed Nov 11 2026. No macro, syntax, notation, axiom, sorry.
-/
import Derived.Test.YtoafigpikgigaaaDoorRows
import GoSem.ClaimSeven
namespace Go.Proofs.YtoafigpikgigaaaDoor
namespace Rows

/-- THE TIED CARD OF 'baterialaw06.CrowdKnown'. -/
def crowdKnownCard : Claim7 := { stood := { row := crowdKnownRow, standIns := [], harness := (true, "41363f61790b91b407d23053874fe194dff31eb08a72840009e52f1bc33fff25"), looks := false }, kinds := [], alts := [], laidByText := true, laidKinds := [.data, .data, .data], laidTests := true, laidLooks := .later }
def CrowdKnownCardSaid : Prop := Claim7.holds Tryd.pinned (.plain (OpenSpec.ofChange crowdKnownSpec)) crowdKnownCard

/-- THE SECOND FORM's CARD OF 'baterialaw06.CrowdKnown'. -/
def crowdKnownUptoCard : Claim7 := { stood := { row := crowdKnownUptoRow, standIns := [], harness := (true, "41363f61790b91b407d23053874fe194dff31eb08a72840009e52f1bc33fff25"), looks := false }, kinds := [], alts := [], laidByText := true, laidKinds := [.data, .data, .data], laidTests := true, laidLooks := .later }
def CrowdKnownUptoCardSaid : Prop := Claim7.holds Tryd.pinned (.plain (OpenSpec.upto crowdKnownSpec)) crowdKnownUptoCard
end Rows
end Go.Proofs.YtoafigpikgigaaaDoor
