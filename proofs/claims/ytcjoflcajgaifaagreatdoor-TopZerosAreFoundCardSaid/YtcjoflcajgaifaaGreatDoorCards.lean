/-
  DERIVED. GIVEN WITH THE SEED: THE CARDS: each row of YtcjoflcajgaifaaGreatDoorRows.lean that lists a variable, with what it lists TIED to the program's text (the seventh form; the later family's looks); each row that meets fmt, with fmt's text TOLD by the authors' own Lean function (tested against real Go, not proved from fmt's source: count such statements apart). THE CARD IS WHAT COUNTS. Prove the row's statement (the work); the ties are given (YtcjoflcajgaifaaGreatDoorTie.lean); close each card by the builder's one call (the guide's Derived/Test/ToyasCard.lean, 'card_holds'). Laid BY PROGRAM, IN A SANDBOX (cutbox-door.mjs). By AI agents, Wed Nov 11 2026. No macro, syntax, notation, axiom, sorry.
-/
import Derived.Test.YtcjoflcajgaifaaGreatDoorRows
import GoSem.ClaimSeven
namespace Go.Proofs.YtcjoflcajgaifaaGreatDoor
namespace Rows

/-- THE TIED CARD OF 'skewbacktop.TopZerosAreFound'. -/
def topZerosAreFoundCard : Claim7 := { stood := { row := topZerosAreFoundRow, standIns := [], harness := (true, "692fe83d3300bb4fb542bf196ad89efad5f7b68adaa3b00508caee40a669d5ce"), looks := false }, kinds := [], alts := [], laidByText := true, laidKinds := [.data, .data, .data], laidTests := true, laidLooks := .later }
def TopZerosAreFoundCardSaid : Prop := Claim7.holds Tryz.pinned (.plain (OpenSpec.ofChange topZerosAreFoundSpec)) topZerosAreFoundCard

/-- THE TIED CARD OF 'skewbacktop.TopBoundsHold'. -/
def topBoundsHoldCard : Claim7 := { stood := { row := topBoundsHoldRow, standIns := [], harness := (true, "692fe83d3300bb4fb542bf196ad89efad5f7b68adaa3b00508caee40a669d5ce"), looks := false }, kinds := [], alts := [], laidByText := true, laidKinds := [.data, .data, .data], laidTests := true, laidLooks := .later }
def TopBoundsHoldCardSaid : Prop := Claim7.holds Tryz.pinned (.plain (OpenSpec.ofChange topBoundsHoldSpec)) topBoundsHoldCard

/-- THE SECOND FORM's CARD OF 'skewbacktop.TopZerosAreFound'. -/
def topZerosAreFoundUptoCard : Claim7 := { stood := { row := topZerosAreFoundUptoRow, standIns := [], harness := (true, "692fe83d3300bb4fb542bf196ad89efad5f7b68adaa3b00508caee40a669d5ce"), looks := false }, kinds := [], alts := [], laidByText := true, laidKinds := [.data, .data, .data], laidTests := true, laidLooks := .later }
def TopZerosAreFoundUptoCardSaid : Prop := Claim7.holds Tryz.pinned (.plain (OpenSpec.upto topZerosAreFoundSpec)) topZerosAreFoundUptoCard

/-- THE SECOND FORM's CARD OF 'skewbacktop.TopBoundsHold'. -/
def topBoundsHoldUptoCard : Claim7 := { stood := { row := topBoundsHoldUptoRow, standIns := [], harness := (true, "692fe83d3300bb4fb542bf196ad89efad5f7b68adaa3b00508caee40a669d5ce"), looks := false }, kinds := [], alts := [], laidByText := true, laidKinds := [.data, .data, .data], laidTests := true, laidLooks := .later }
def TopBoundsHoldUptoCardSaid : Prop := Claim7.holds Tryz.pinned (.plain (OpenSpec.upto topBoundsHoldSpec)) topBoundsHoldUptoCard
end Rows
end Go.Proofs.YtcjoflcajgaifaaGreatDoor
