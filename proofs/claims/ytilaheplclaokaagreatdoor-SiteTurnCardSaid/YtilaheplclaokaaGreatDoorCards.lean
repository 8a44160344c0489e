/-
  DERIVED. GIVEN WITH THE SEED: THE CARDS: each row of YtilaheplclaokaaGreatDoorRows.lean that lists a variable, with what it lists TIED to the program's text (the seventh form; the later family's looks); each row that meets fmt, with fmt's text TOLD by the authors' own Lean function (tested against real Go, not proved from fmt's source: count such statements apart). THE CARD IS WHAT COUNTS. Prove the row's statement (the work); the ties are given (YtilaheplclaokaaGreatDoorTie.lean); close each card by the builder's one call (the guide's Derived/Test/ToyasCard.lean, 'card_holds'). Laid BY PROGRAM, IN A SANDBOX (cutbox-door.mjs). By AI agents, Wed Nov 11 2026. No macro, syntax, notation, axiom, sorry.
-/
import Derived.Test.YtilaheplclaokaaGreatDoorRows
import GoSem.ClaimSeven
namespace Go.Proofs.YtilaheplclaokaaGreatDoor
namespace Rows

/-- THE TIED CARD OF 'planispherelaw24.SiteTurn'. -/
def siteTurnCard : Claim7 := { stood := { row := siteTurnRow, standIns := [], harness := (true, "5e871b961a11ee7fd9cdbe7ffaa1de9ba962bf7e06dc3d1da5ed40d92934471b"), looks := true }, kinds := [], alts := [], laidByText := true, laidKinds := [.data, .pinned], laidTests := true, laidLooks := .later }
def SiteTurnCardSaid : Prop := Claim7.holds Tryz.pinned (.plain (OpenSpec.ofChange siteTurnSpec)) siteTurnCard

/-- THE TIED CARD OF 'planispherelaw24.SiteArm'. -/
def siteArmCard : Claim7 := { stood := { row := siteArmRow, standIns := [], harness := (true, "5e871b961a11ee7fd9cdbe7ffaa1de9ba962bf7e06dc3d1da5ed40d92934471b"), looks := true }, kinds := [], alts := [], laidByText := true, laidKinds := [.data, .pinned], laidTests := true, laidLooks := .later }
def SiteArmCardSaid : Prop := Claim7.holds Tryz.pinned (.plain (OpenSpec.ofChange siteArmSpec)) siteArmCard

/-- THE TIED CARD OF 'planispherelaw24.SitePlace'. -/
def sitePlaceCard : Claim7 := { stood := { row := sitePlaceRow, standIns := [], harness := (true, "5e871b961a11ee7fd9cdbe7ffaa1de9ba962bf7e06dc3d1da5ed40d92934471b"), looks := true }, kinds := [], alts := [], laidByText := true, laidKinds := [.data, .pinned], laidTests := true, laidLooks := .later }
def SitePlaceCardSaid : Prop := Claim7.holds Tryz.pinned (.plain (OpenSpec.ofChange sitePlaceSpec)) sitePlaceCard

/-- THE TIED CARD OF 'planispherelaw42.PlanUp'. -/
def planUpCard : Claim7 := { stood := { row := planUpRow, standIns := [], harness := (true, "5e871b961a11ee7fd9cdbe7ffaa1de9ba962bf7e06dc3d1da5ed40d92934471b"), looks := true }, kinds := [], alts := [], laidByText := true, laidKinds := [.data, .pinned], laidTests := true, laidLooks := .later }
def PlanUpCardSaid : Prop := Claim7.holds Tryz.pinned (.plain (OpenSpec.ofChange planUpSpec)) planUpCard

/-- THE TIED CARD OF 'planispherelaw30.CellsParts'. -/
def cellsPartsCard : Claim7 := { stood := { row := cellsPartsRow, standIns := [], harness := (true, "5e871b961a11ee7fd9cdbe7ffaa1de9ba962bf7e06dc3d1da5ed40d92934471b"), looks := true }, kinds := [], alts := [], laidByText := true, laidKinds := [.data, .pinned], laidTests := true, laidLooks := .later }
def CellsPartsCardSaid : Prop := Claim7.holds Tryz.pinned (.plain (OpenSpec.ofChange cellsPartsSpec)) cellsPartsCard

/-- THE TIED CARD OF 'planispherelaw30.CellsComplete'. -/
def cellsCompleteCard : Claim7 := { stood := { row := cellsCompleteRow, standIns := [], harness := (true, "5e871b961a11ee7fd9cdbe7ffaa1de9ba962bf7e06dc3d1da5ed40d92934471b"), looks := true }, kinds := [], alts := [], laidByText := true, laidKinds := [.data, .pinned], laidTests := true, laidLooks := .later }
def CellsCompleteCardSaid : Prop := Claim7.holds Tryz.pinned (.plain (OpenSpec.ofChange cellsCompleteSpec)) cellsCompleteCard

/-- THE SECOND FORM's CARD OF 'planispherelaw24.SiteTurn'. -/
def siteTurnUptoCard : Claim7 := { stood := { row := siteTurnUptoRow, standIns := [], harness := (true, "5e871b961a11ee7fd9cdbe7ffaa1de9ba962bf7e06dc3d1da5ed40d92934471b"), looks := true }, kinds := [], alts := [], laidByText := true, laidKinds := [.data, .pinned], laidTests := true, laidLooks := .later }
def SiteTurnUptoCardSaid : Prop := Claim7.holds Tryz.pinned (.plain (OpenSpec.upto siteTurnSpec)) siteTurnUptoCard

/-- THE SECOND FORM's CARD OF 'planispherelaw24.SiteArm'. -/
def siteArmUptoCard : Claim7 := { stood := { row := siteArmUptoRow, standIns := [], harness := (true, "5e871b961a11ee7fd9cdbe7ffaa1de9ba962bf7e06dc3d1da5ed40d92934471b"), looks := true }, kinds := [], alts := [], laidByText := true, laidKinds := [.data, .pinned], laidTests := true, laidLooks := .later }
def SiteArmUptoCardSaid : Prop := Claim7.holds Tryz.pinned (.plain (OpenSpec.upto siteArmSpec)) siteArmUptoCard

/-- THE SECOND FORM's CARD OF 'planispherelaw24.SitePlace'. -/
def sitePlaceUptoCard : Claim7 := { stood := { row := sitePlaceUptoRow, standIns := [], harness := (true, "5e871b961a11ee7fd9cdbe7ffaa1de9ba962bf7e06dc3d1da5ed40d92934471b"), looks := true }, kinds := [], alts := [], laidByText := true, laidKinds := [.data, .pinned], laidTests := true, laidLooks := .later }
def SitePlaceUptoCardSaid : Prop := Claim7.holds Tryz.pinned (.plain (OpenSpec.upto sitePlaceSpec)) sitePlaceUptoCard

/-- THE SECOND FORM's CARD OF 'planispherelaw42.PlanUp'. -/
def planUpUptoCard : Claim7 := { stood := { row := planUpUptoRow, standIns := [], harness := (true, "5e871b961a11ee7fd9cdbe7ffaa1de9ba962bf7e06dc3d1da5ed40d92934471b"), looks := true }, kinds := [], alts := [], laidByText := true, laidKinds := [.data, .pinned], laidTests := true, laidLooks := .later }
def PlanUpUptoCardSaid : Prop := Claim7.holds Tryz.pinned (.plain (OpenSpec.upto planUpSpec)) planUpUptoCard

/-- THE SECOND FORM's CARD OF 'planispherelaw30.CellsParts'. -/
def cellsPartsUptoCard : Claim7 := { stood := { row := cellsPartsUptoRow, standIns := [], harness := (true, "5e871b961a11ee7fd9cdbe7ffaa1de9ba962bf7e06dc3d1da5ed40d92934471b"), looks := true }, kinds := [], alts := [], laidByText := true, laidKinds := [.data, .pinned], laidTests := true, laidLooks := .later }
def CellsPartsUptoCardSaid : Prop := Claim7.holds Tryz.pinned (.plain (OpenSpec.upto cellsPartsSpec)) cellsPartsUptoCard

/-- THE SECOND FORM's CARD OF 'planispherelaw30.CellsComplete'. -/
def cellsCompleteUptoCard : Claim7 := { stood := { row := cellsCompleteUptoRow, standIns := [], harness := (true, "5e871b961a11ee7fd9cdbe7ffaa1de9ba962bf7e06dc3d1da5ed40d92934471b"), looks := true }, kinds := [], alts := [], laidByText := true, laidKinds := [.data, .pinned], laidTests := true, laidLooks := .later }
def CellsCompleteUptoCardSaid : Prop := Claim7.holds Tryz.pinned (.plain (OpenSpec.upto cellsCompleteSpec)) cellsCompleteUptoCard
end Rows
end Go.Proofs.YtilaheplclaokaaGreatDoor
