/-
  DERIVED. GIVEN WITH THE SEED: THE CARDS: each row of YtapbefpeopaecaaGreatDoorRows.lean that lists a variable, with what it lists TIED to the program's text (the seventh form; the later family's looks); each row that meets fmt, with fmt's text TOLD by the authors' own Lean function (tested against real Go, not proved from fmt's source: count such statements apart). THE CARD IS WHAT COUNTS. Prove the row's statement (the work); the ties are given (YtapbefpeopaecaaGreatDoorTie.lean); close each card by the builder's one call (the guide's Derived/Test/ToyasCard.lean, 'card_holds'). Laid BY PROGRAM, IN A SANDBOX (cutbox-door.mjs). By AI agents, Wed Nov 11 2026. No macro, syntax, notation, axiom, sorry.
-/
import Derived.Test.YtapbefpeopaecaaGreatDoorRows
import GoSem.ClaimSeven
namespace Go.Proofs.YtapbefpeopaecaaGreatDoor
namespace Rows

/-- THE TIED CARD OF 'skewbacklaw21.ConePyramidsMatchSpec'. -/
def conePyramidsMatchSpecCard : Claim7 := { stood := { row := conePyramidsMatchSpecRow, standIns := [], harness := (true, "c8646e32bfb3d90db719c2b2bb79b01457cf5be6526233fb0820215853a49d8c"), looks := false }, kinds := [], alts := [], laidByText := true, laidKinds := [.data], laidTests := true, laidLooks := .later }
def ConePyramidsMatchSpecCardSaid : Prop := Claim7.holds Tryz.pinned (.plain (OpenSpec.ofChange conePyramidsMatchSpecSpec)) conePyramidsMatchSpecCard

/-- THE TIED CARD OF 'skewbacklaw21.ConeSidesMatchSpec'. -/
def coneSidesMatchSpecCard : Claim7 := { stood := { row := coneSidesMatchSpecRow, standIns := [], harness := (true, "c8646e32bfb3d90db719c2b2bb79b01457cf5be6526233fb0820215853a49d8c"), looks := false }, kinds := [], alts := [], laidByText := true, laidKinds := [.data], laidTests := true, laidLooks := .later }
def ConeSidesMatchSpecCardSaid : Prop := Claim7.holds Tryz.pinned (.plain (OpenSpec.ofChange coneSidesMatchSpecSpec)) coneSidesMatchSpecCard

/-- THE TIED CARD OF 'skewbacklaw21.ConeCombinesMatchSpec'. -/
def coneCombinesMatchSpecCard : Claim7 := { stood := { row := coneCombinesMatchSpecRow, standIns := [], harness := (true, "c8646e32bfb3d90db719c2b2bb79b01457cf5be6526233fb0820215853a49d8c"), looks := false }, kinds := [], alts := [], laidByText := true, laidKinds := [.data], laidTests := true, laidLooks := .later }
def ConeCombinesMatchSpecCardSaid : Prop := Claim7.holds Tryz.pinned (.plain (OpenSpec.ofChange coneCombinesMatchSpecSpec)) coneCombinesMatchSpecCard

/-- THE TIED CARD OF 'skewbacklaw21.ConeIsInside'. -/
def coneIsInsideCard : Claim7 := { stood := { row := coneIsInsideRow, standIns := [], harness := (true, "c8646e32bfb3d90db719c2b2bb79b01457cf5be6526233fb0820215853a49d8c"), looks := false }, kinds := [], alts := [], laidByText := true, laidKinds := [.data], laidTests := true, laidLooks := .later }
def ConeIsInsideCardSaid : Prop := Claim7.holds Tryz.pinned (.plain (OpenSpec.ofChange coneIsInsideSpec)) coneIsInsideCard

/-- THE TIED CARD OF 'skewbacklaw21.ConeEdges'. -/
def coneEdgesCard : Claim7 := { stood := { row := coneEdgesRow, standIns := [], harness := (true, "c8646e32bfb3d90db719c2b2bb79b01457cf5be6526233fb0820215853a49d8c"), looks := false }, kinds := [], alts := [], laidByText := true, laidKinds := [.data], laidTests := true, laidLooks := .later }
def ConeEdgesCardSaid : Prop := Claim7.holds Tryz.pinned (.plain (OpenSpec.ofChange coneEdgesSpec)) coneEdgesCard

/-- THE TIED CARD OF 'skewbacklaw21.ConeGrows'. -/
def coneGrowsCard : Claim7 := { stood := { row := coneGrowsRow, standIns := [], harness := (true, "c8646e32bfb3d90db719c2b2bb79b01457cf5be6526233fb0820215853a49d8c"), looks := false }, kinds := [], alts := [], laidByText := true, laidKinds := [.data], laidTests := true, laidLooks := .later }
def ConeGrowsCardSaid : Prop := Claim7.holds Tryz.pinned (.plain (OpenSpec.ofChange coneGrowsSpec)) coneGrowsCard

/-- THE TIED CARD OF 'skewbacklaw21.ConeSlopes'. -/
def coneSlopesCard : Claim7 := { stood := { row := coneSlopesRow, standIns := [], harness := (true, "c8646e32bfb3d90db719c2b2bb79b01457cf5be6526233fb0820215853a49d8c"), looks := false }, kinds := [], alts := [], laidByText := true, laidKinds := [.data], laidTests := true, laidLooks := .later }
def ConeSlopesCardSaid : Prop := Claim7.holds Tryz.pinned (.plain (OpenSpec.ofChange coneSlopesSpec)) coneSlopesCard

/-- THE SECOND FORM's CARD OF 'skewbacklaw21.ConePyramidsMatchSpec'. -/
def conePyramidsMatchSpecUptoCard : Claim7 := { stood := { row := conePyramidsMatchSpecUptoRow, standIns := [], harness := (true, "c8646e32bfb3d90db719c2b2bb79b01457cf5be6526233fb0820215853a49d8c"), looks := false }, kinds := [], alts := [], laidByText := true, laidKinds := [.data], laidTests := true, laidLooks := .later }
def ConePyramidsMatchSpecUptoCardSaid : Prop := Claim7.holds Tryz.pinned (.plain (OpenSpec.upto conePyramidsMatchSpecSpec)) conePyramidsMatchSpecUptoCard

/-- THE SECOND FORM's CARD OF 'skewbacklaw21.ConeSidesMatchSpec'. -/
def coneSidesMatchSpecUptoCard : Claim7 := { stood := { row := coneSidesMatchSpecUptoRow, standIns := [], harness := (true, "c8646e32bfb3d90db719c2b2bb79b01457cf5be6526233fb0820215853a49d8c"), looks := false }, kinds := [], alts := [], laidByText := true, laidKinds := [.data], laidTests := true, laidLooks := .later }
def ConeSidesMatchSpecUptoCardSaid : Prop := Claim7.holds Tryz.pinned (.plain (OpenSpec.upto coneSidesMatchSpecSpec)) coneSidesMatchSpecUptoCard

/-- THE SECOND FORM's CARD OF 'skewbacklaw21.ConeCombinesMatchSpec'. -/
def coneCombinesMatchSpecUptoCard : Claim7 := { stood := { row := coneCombinesMatchSpecUptoRow, standIns := [], harness := (true, "c8646e32bfb3d90db719c2b2bb79b01457cf5be6526233fb0820215853a49d8c"), looks := false }, kinds := [], alts := [], laidByText := true, laidKinds := [.data], laidTests := true, laidLooks := .later }
def ConeCombinesMatchSpecUptoCardSaid : Prop := Claim7.holds Tryz.pinned (.plain (OpenSpec.upto coneCombinesMatchSpecSpec)) coneCombinesMatchSpecUptoCard

/-- THE SECOND FORM's CARD OF 'skewbacklaw21.ConeIsInside'. -/
def coneIsInsideUptoCard : Claim7 := { stood := { row := coneIsInsideUptoRow, standIns := [], harness := (true, "c8646e32bfb3d90db719c2b2bb79b01457cf5be6526233fb0820215853a49d8c"), looks := false }, kinds := [], alts := [], laidByText := true, laidKinds := [.data], laidTests := true, laidLooks := .later }
def ConeIsInsideUptoCardSaid : Prop := Claim7.holds Tryz.pinned (.plain (OpenSpec.upto coneIsInsideSpec)) coneIsInsideUptoCard

/-- THE SECOND FORM's CARD OF 'skewbacklaw21.ConeEdges'. -/
def coneEdgesUptoCard : Claim7 := { stood := { row := coneEdgesUptoRow, standIns := [], harness := (true, "c8646e32bfb3d90db719c2b2bb79b01457cf5be6526233fb0820215853a49d8c"), looks := false }, kinds := [], alts := [], laidByText := true, laidKinds := [.data], laidTests := true, laidLooks := .later }
def ConeEdgesUptoCardSaid : Prop := Claim7.holds Tryz.pinned (.plain (OpenSpec.upto coneEdgesSpec)) coneEdgesUptoCard

/-- THE SECOND FORM's CARD OF 'skewbacklaw21.ConeGrows'. -/
def coneGrowsUptoCard : Claim7 := { stood := { row := coneGrowsUptoRow, standIns := [], harness := (true, "c8646e32bfb3d90db719c2b2bb79b01457cf5be6526233fb0820215853a49d8c"), looks := false }, kinds := [], alts := [], laidByText := true, laidKinds := [.data], laidTests := true, laidLooks := .later }
def ConeGrowsUptoCardSaid : Prop := Claim7.holds Tryz.pinned (.plain (OpenSpec.upto coneGrowsSpec)) coneGrowsUptoCard

/-- THE SECOND FORM's CARD OF 'skewbacklaw21.ConeSlopes'. -/
def coneSlopesUptoCard : Claim7 := { stood := { row := coneSlopesUptoRow, standIns := [], harness := (true, "c8646e32bfb3d90db719c2b2bb79b01457cf5be6526233fb0820215853a49d8c"), looks := false }, kinds := [], alts := [], laidByText := true, laidKinds := [.data], laidTests := true, laidLooks := .later }
def ConeSlopesUptoCardSaid : Prop := Claim7.holds Tryz.pinned (.plain (OpenSpec.upto coneSlopesSpec)) coneSlopesUptoCard
end Rows
end Go.Proofs.YtapbefpeopaecaaGreatDoor
