/-
  DERIVED. GIVEN WITH THE SEED: THE CARDS: each row of YtbjlhfochebmiaaGreatDoorRows.lean that lists a variable, with what it lists TIED to the program's text (the seventh form; the later family's looks); each row that meets fmt, with fmt's text TOLD by the authors' own Lean function (tested against real Go, not proved from fmt's source: count such statements apart). THE CARD IS WHAT COUNTS. Prove the row's statement (the work); the ties are given (YtbjlhfochebmiaaGreatDoorTie.lean); close each card by the builder's one call (the guide's Derived/Test/ToyasCard.lean, 'card_holds'). Laid BY PROGRAM, IN A SANDBOX (cutbox-door.mjs). By AI agents, Wed Nov 11 2026. No macro, syntax, notation, axiom, sorry.
-/
import Derived.Test.YtbjlhfochebmiaaGreatDoorRows
import GoSem.ClaimSeven
namespace Go.Proofs.YtbjlhfochebmiaaGreatDoor
namespace Rows

/-- THE TIED CARD OF 'skewbacklaw14.PoseEnds'. -/
def poseEndsCard : Claim7 := { stood := { row := poseEndsRow, standIns := [], harness := (true, "91f3d83de141079e5f04c79cdc66b804f5c34474148b6dff211b814160ce89f9"), looks := false }, kinds := [], alts := [], laidByText := true, laidKinds := [.data], laidTests := true, laidLooks := .later }
def PoseEndsCardSaid : Prop := Claim7.holds Tryz.pinned (.plain (OpenSpec.ofChange poseEndsSpec)) poseEndsCard

/-- THE TIED CARD OF 'skewbacklaw14.PosePlacesAsSpecified'. -/
def posePlacesAsSpecifiedCard : Claim7 := { stood := { row := posePlacesAsSpecifiedRow, standIns := [], harness := (true, "91f3d83de141079e5f04c79cdc66b804f5c34474148b6dff211b814160ce89f9"), looks := false }, kinds := [], alts := [], laidByText := true, laidKinds := [.data], laidTests := true, laidLooks := .later }
def PosePlacesAsSpecifiedCardSaid : Prop := Claim7.holds Tryz.pinned (.plain (OpenSpec.ofChange posePlacesAsSpecifiedSpec)) posePlacesAsSpecifiedCard

/-- THE TIED CARD OF 'skewbacklaw14.PoseIsRigid'. -/
def poseIsRigidCard : Claim7 := { stood := { row := poseIsRigidRow, standIns := [], harness := (true, "91f3d83de141079e5f04c79cdc66b804f5c34474148b6dff211b814160ce89f9"), looks := false }, kinds := [], alts := [], laidByText := true, laidKinds := [.data], laidTests := true, laidLooks := .later }
def PoseIsRigidCardSaid : Prop := Claim7.holds Tryz.pinned (.plain (OpenSpec.ofChange poseIsRigidSpec)) poseIsRigidCard

/-- THE TIED CARD OF 'skewbacklaw14.PoseTightIsTight'. -/
def poseTightIsTightCard : Claim7 := { stood := { row := poseTightIsTightRow, standIns := [], harness := (true, "91f3d83de141079e5f04c79cdc66b804f5c34474148b6dff211b814160ce89f9"), looks := false }, kinds := [], alts := [], laidByText := true, laidKinds := [.data], laidTests := true, laidLooks := .later }
def PoseTightIsTightCardSaid : Prop := Claim7.holds Tryz.pinned (.plain (OpenSpec.ofChange poseTightIsTightSpec)) poseTightIsTightCard

/-- THE SECOND FORM's CARD OF 'skewbacklaw14.PoseEnds'. -/
def poseEndsUptoCard : Claim7 := { stood := { row := poseEndsUptoRow, standIns := [], harness := (true, "91f3d83de141079e5f04c79cdc66b804f5c34474148b6dff211b814160ce89f9"), looks := false }, kinds := [], alts := [], laidByText := true, laidKinds := [.data], laidTests := true, laidLooks := .later }
def PoseEndsUptoCardSaid : Prop := Claim7.holds Tryz.pinned (.plain (OpenSpec.upto poseEndsSpec)) poseEndsUptoCard

/-- THE SECOND FORM's CARD OF 'skewbacklaw14.PosePlacesAsSpecified'. -/
def posePlacesAsSpecifiedUptoCard : Claim7 := { stood := { row := posePlacesAsSpecifiedUptoRow, standIns := [], harness := (true, "91f3d83de141079e5f04c79cdc66b804f5c34474148b6dff211b814160ce89f9"), looks := false }, kinds := [], alts := [], laidByText := true, laidKinds := [.data], laidTests := true, laidLooks := .later }
def PosePlacesAsSpecifiedUptoCardSaid : Prop := Claim7.holds Tryz.pinned (.plain (OpenSpec.upto posePlacesAsSpecifiedSpec)) posePlacesAsSpecifiedUptoCard

/-- THE SECOND FORM's CARD OF 'skewbacklaw14.PoseIsRigid'. -/
def poseIsRigidUptoCard : Claim7 := { stood := { row := poseIsRigidUptoRow, standIns := [], harness := (true, "91f3d83de141079e5f04c79cdc66b804f5c34474148b6dff211b814160ce89f9"), looks := false }, kinds := [], alts := [], laidByText := true, laidKinds := [.data], laidTests := true, laidLooks := .later }
def PoseIsRigidUptoCardSaid : Prop := Claim7.holds Tryz.pinned (.plain (OpenSpec.upto poseIsRigidSpec)) poseIsRigidUptoCard

/-- THE SECOND FORM's CARD OF 'skewbacklaw14.PoseTightIsTight'. -/
def poseTightIsTightUptoCard : Claim7 := { stood := { row := poseTightIsTightUptoRow, standIns := [], harness := (true, "91f3d83de141079e5f04c79cdc66b804f5c34474148b6dff211b814160ce89f9"), looks := false }, kinds := [], alts := [], laidByText := true, laidKinds := [.data], laidTests := true, laidLooks := .later }
def PoseTightIsTightUptoCardSaid : Prop := Claim7.holds Tryz.pinned (.plain (OpenSpec.upto poseTightIsTightSpec)) poseTightIsTightUptoCard
end Rows
end Go.Proofs.YtbjlhfochebmiaaGreatDoor
