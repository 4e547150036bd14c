/-
  DERIVED. GIVEN WITH THE SEED: THE CARDS: each row of YtaijkalhkgjakaaDoorRows.lean that lists a variable, with what it lists TIED to the program's text (the seventh form; the later family's looks); each row that meets fmt, with fmt's text TOLD by the authors' own Lean function (tested against real Go, not proved from fmt's source: count such statements apart). THE CARD IS WHAT COUNTS. Prove the row's statement (the work); the ties are given (YtaijkalhkgjakaaDoorTie.lean); close each card by the builder's one call (the guide's Derived/Test/ToyasCard.lean, 'card_holds'). Laid BY PROGRAM, IN A SANDBOX (cutbox-door.mjs). By AI agents, Wed Nov 11 2026. No macro, syntax, notation, axiom, sorry.
-/
import Derived.Test.YtaijkalhkgjakaaDoorRows
import GoSem.ClaimSeven
namespace Go.Proofs.YtaijkalhkgjakaaDoor
namespace Rows

/-- THE TIED CARD OF 'baterialaw08.ShedBest'. -/
def shedBestCard : Claim7 := { stood := { row := shedBestRow, standIns := [], harness := (true, "f7793e3ab28938ded4c379ad53b599c5118ce520f63074f7826dfef2ea35c2f1"), looks := false }, kinds := [], alts := [], laidByText := true, laidKinds := [.data], laidTests := true, laidLooks := .later }
def ShedBestCardSaid : Prop := Claim7.holds Tryd.pinned (.plain (OpenSpec.ofChange shedBestSpec)) shedBestCard

/-- THE TIED CARD OF 'baterialaw08.ShedCarries'. -/
def shedCarriesCard : Claim7 := { stood := { row := shedCarriesRow, standIns := [], harness := (true, "f7793e3ab28938ded4c379ad53b599c5118ce520f63074f7826dfef2ea35c2f1"), looks := false }, kinds := [], alts := [], laidByText := true, laidKinds := [.data], laidTests := true, laidLooks := .later }
def ShedCarriesCardSaid : Prop := Claim7.holds Tryd.pinned (.plain (OpenSpec.ofChange shedCarriesSpec)) shedCarriesCard

/-- THE TIED CARD OF 'baterialaw08.ShedMatch'. -/
def shedMatchCard : Claim7 := { stood := { row := shedMatchRow, standIns := [], harness := (true, "f7793e3ab28938ded4c379ad53b599c5118ce520f63074f7826dfef2ea35c2f1"), looks := false }, kinds := [], alts := [], laidByText := true, laidKinds := [.data], laidTests := true, laidLooks := .later }
def ShedMatchCardSaid : Prop := Claim7.holds Tryd.pinned (.plain (OpenSpec.ofChange shedMatchSpec)) shedMatchCard

/-- THE TIED CARD OF 'baterialaw08.ShedHands'. -/
def shedHandsCard : Claim7 := { stood := { row := shedHandsRow, standIns := [], harness := (true, "f7793e3ab28938ded4c379ad53b599c5118ce520f63074f7826dfef2ea35c2f1"), looks := false }, kinds := [], alts := [], laidByText := true, laidKinds := [.data], laidTests := true, laidLooks := .later }
def ShedHandsCardSaid : Prop := Claim7.holds Tryd.pinned (.plain (OpenSpec.ofChange shedHandsSpec)) shedHandsCard

/-- THE TIED CARD OF 'baterialaw08.ShedJobs'. -/
def shedJobsCard : Claim7 := { stood := { row := shedJobsRow, standIns := [], harness := (true, "f7793e3ab28938ded4c379ad53b599c5118ce520f63074f7826dfef2ea35c2f1"), looks := false }, kinds := [], alts := [], laidByText := true, laidKinds := [.data], laidTests := true, laidLooks := .later }
def ShedJobsCardSaid : Prop := Claim7.holds Tryd.pinned (.plain (OpenSpec.ofChange shedJobsSpec)) shedJobsCard

/-- THE TIED CARD OF 'baterialaw08.ShedPlans'. -/
def shedPlansCard : Claim7 := { stood := { row := shedPlansRow, standIns := [], harness := (true, "f7793e3ab28938ded4c379ad53b599c5118ce520f63074f7826dfef2ea35c2f1"), looks := false }, kinds := [], alts := [], laidByText := true, laidKinds := [.data], laidTests := true, laidLooks := .later }
def ShedPlansCardSaid : Prop := Claim7.holds Tryd.pinned (.plain (OpenSpec.ofChange shedPlansSpec)) shedPlansCard

/-- THE TIED CARD OF 'baterialaw08.ShedFewest'. -/
def shedFewestCard : Claim7 := { stood := { row := shedFewestRow, standIns := [], harness := (true, "f7793e3ab28938ded4c379ad53b599c5118ce520f63074f7826dfef2ea35c2f1"), looks := false }, kinds := [], alts := [], laidByText := true, laidKinds := [.data], laidTests := true, laidLooks := .later }
def ShedFewestCardSaid : Prop := Claim7.holds Tryd.pinned (.plain (OpenSpec.ofChange shedFewestSpec)) shedFewestCard

/-- THE TIED CARD OF 'baterialaw08.ShedBound'. -/
def shedBoundCard : Claim7 := { stood := { row := shedBoundRow, standIns := [], harness := (true, "f7793e3ab28938ded4c379ad53b599c5118ce520f63074f7826dfef2ea35c2f1"), looks := false }, kinds := [], alts := [], laidByText := true, laidKinds := [.data], laidTests := true, laidLooks := .later }
def ShedBoundCardSaid : Prop := Claim7.holds Tryd.pinned (.plain (OpenSpec.ofChange shedBoundSpec)) shedBoundCard

/-- THE TIED CARD OF 'baterialaw08.ShedEarly'. -/
def shedEarlyCard : Claim7 := { stood := { row := shedEarlyRow, standIns := [], harness := (true, "f7793e3ab28938ded4c379ad53b599c5118ce520f63074f7826dfef2ea35c2f1"), looks := false }, kinds := [], alts := [], laidByText := true, laidKinds := [.data], laidTests := true, laidLooks := .later }
def ShedEarlyCardSaid : Prop := Claim7.holds Tryd.pinned (.plain (OpenSpec.ofChange shedEarlySpec)) shedEarlyCard

/-- THE SECOND FORM's CARD OF 'baterialaw08.ShedBest'. -/
def shedBestUptoCard : Claim7 := { stood := { row := shedBestUptoRow, standIns := [], harness := (true, "f7793e3ab28938ded4c379ad53b599c5118ce520f63074f7826dfef2ea35c2f1"), looks := false }, kinds := [], alts := [], laidByText := true, laidKinds := [.data], laidTests := true, laidLooks := .later }
def ShedBestUptoCardSaid : Prop := Claim7.holds Tryd.pinned (.plain (OpenSpec.upto shedBestSpec)) shedBestUptoCard

/-- THE SECOND FORM's CARD OF 'baterialaw08.ShedCarries'. -/
def shedCarriesUptoCard : Claim7 := { stood := { row := shedCarriesUptoRow, standIns := [], harness := (true, "f7793e3ab28938ded4c379ad53b599c5118ce520f63074f7826dfef2ea35c2f1"), looks := false }, kinds := [], alts := [], laidByText := true, laidKinds := [.data], laidTests := true, laidLooks := .later }
def ShedCarriesUptoCardSaid : Prop := Claim7.holds Tryd.pinned (.plain (OpenSpec.upto shedCarriesSpec)) shedCarriesUptoCard

/-- THE SECOND FORM's CARD OF 'baterialaw08.ShedMatch'. -/
def shedMatchUptoCard : Claim7 := { stood := { row := shedMatchUptoRow, standIns := [], harness := (true, "f7793e3ab28938ded4c379ad53b599c5118ce520f63074f7826dfef2ea35c2f1"), looks := false }, kinds := [], alts := [], laidByText := true, laidKinds := [.data], laidTests := true, laidLooks := .later }
def ShedMatchUptoCardSaid : Prop := Claim7.holds Tryd.pinned (.plain (OpenSpec.upto shedMatchSpec)) shedMatchUptoCard

/-- THE SECOND FORM's CARD OF 'baterialaw08.ShedHands'. -/
def shedHandsUptoCard : Claim7 := { stood := { row := shedHandsUptoRow, standIns := [], harness := (true, "f7793e3ab28938ded4c379ad53b599c5118ce520f63074f7826dfef2ea35c2f1"), looks := false }, kinds := [], alts := [], laidByText := true, laidKinds := [.data], laidTests := true, laidLooks := .later }
def ShedHandsUptoCardSaid : Prop := Claim7.holds Tryd.pinned (.plain (OpenSpec.upto shedHandsSpec)) shedHandsUptoCard

/-- THE SECOND FORM's CARD OF 'baterialaw08.ShedJobs'. -/
def shedJobsUptoCard : Claim7 := { stood := { row := shedJobsUptoRow, standIns := [], harness := (true, "f7793e3ab28938ded4c379ad53b599c5118ce520f63074f7826dfef2ea35c2f1"), looks := false }, kinds := [], alts := [], laidByText := true, laidKinds := [.data], laidTests := true, laidLooks := .later }
def ShedJobsUptoCardSaid : Prop := Claim7.holds Tryd.pinned (.plain (OpenSpec.upto shedJobsSpec)) shedJobsUptoCard

/-- THE SECOND FORM's CARD OF 'baterialaw08.ShedPlans'. -/
def shedPlansUptoCard : Claim7 := { stood := { row := shedPlansUptoRow, standIns := [], harness := (true, "f7793e3ab28938ded4c379ad53b599c5118ce520f63074f7826dfef2ea35c2f1"), looks := false }, kinds := [], alts := [], laidByText := true, laidKinds := [.data], laidTests := true, laidLooks := .later }
def ShedPlansUptoCardSaid : Prop := Claim7.holds Tryd.pinned (.plain (OpenSpec.upto shedPlansSpec)) shedPlansUptoCard

/-- THE SECOND FORM's CARD OF 'baterialaw08.ShedFewest'. -/
def shedFewestUptoCard : Claim7 := { stood := { row := shedFewestUptoRow, standIns := [], harness := (true, "f7793e3ab28938ded4c379ad53b599c5118ce520f63074f7826dfef2ea35c2f1"), looks := false }, kinds := [], alts := [], laidByText := true, laidKinds := [.data], laidTests := true, laidLooks := .later }
def ShedFewestUptoCardSaid : Prop := Claim7.holds Tryd.pinned (.plain (OpenSpec.upto shedFewestSpec)) shedFewestUptoCard

/-- THE SECOND FORM's CARD OF 'baterialaw08.ShedBound'. -/
def shedBoundUptoCard : Claim7 := { stood := { row := shedBoundUptoRow, standIns := [], harness := (true, "f7793e3ab28938ded4c379ad53b599c5118ce520f63074f7826dfef2ea35c2f1"), looks := false }, kinds := [], alts := [], laidByText := true, laidKinds := [.data], laidTests := true, laidLooks := .later }
def ShedBoundUptoCardSaid : Prop := Claim7.holds Tryd.pinned (.plain (OpenSpec.upto shedBoundSpec)) shedBoundUptoCard

/-- THE SECOND FORM's CARD OF 'baterialaw08.ShedEarly'. -/
def shedEarlyUptoCard : Claim7 := { stood := { row := shedEarlyUptoRow, standIns := [], harness := (true, "f7793e3ab28938ded4c379ad53b599c5118ce520f63074f7826dfef2ea35c2f1"), looks := false }, kinds := [], alts := [], laidByText := true, laidKinds := [.data], laidTests := true, laidLooks := .later }
def ShedEarlyUptoCardSaid : Prop := Claim7.holds Tryd.pinned (.plain (OpenSpec.upto shedEarlySpec)) shedEarlyUptoCard
end Rows
end Go.Proofs.YtaijkalhkgjakaaDoor
