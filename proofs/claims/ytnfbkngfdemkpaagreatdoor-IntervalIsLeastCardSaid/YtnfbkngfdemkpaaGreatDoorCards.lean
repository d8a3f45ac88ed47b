/-
  DERIVED. GIVEN WITH THE SEED: THE CARDS: each row of YtnfbkngfdemkpaaGreatDoorRows.lean that lists a variable, with what it lists TIED to the program's text (the seventh form; the later family's looks); each row that meets fmt, with fmt's text TOLD by the authors' own Lean function (tested against real Go, not proved from fmt's source: count such statements apart). THE CARD IS WHAT COUNTS. Prove the row's statement (the work); the ties are given (YtnfbkngfdemkpaaGreatDoorTie.lean); close each card by the builder's one call (the guide's Derived/Test/ToyasCard.lean, 'card_holds'). Laid BY PROGRAM, IN A SANDBOX (cutbox-door.mjs). By AI agents, Wed Nov 11 2026. No macro, syntax, notation, axiom, sorry.
-/
import Derived.Test.YtnfbkngfdemkpaaGreatDoorRows
import GoSem.ClaimSeven
namespace Go.Proofs.YtnfbkngfdemkpaaGreatDoor
namespace Rows

/-- THE TIED CARD OF 'skewbacklaw05.IntervalSetsAsSpecified'. -/
def intervalSetsAsSpecifiedCard : Claim7 := { stood := { row := intervalSetsAsSpecifiedRow, standIns := [], harness := (true, "0ff47a7cbfc22db8af50ab0914e9f8ff0555a952d9c08da72a79197db0fdf7e7"), looks := false }, kinds := [], alts := [], laidByText := true, laidKinds := [.data], laidTests := true, laidLooks := .later }
def IntervalSetsAsSpecifiedCardSaid : Prop := Claim7.holds Tryz.pinned (.plain (OpenSpec.ofChange intervalSetsAsSpecifiedSpec)) intervalSetsAsSpecifiedCard

/-- THE TIED CARD OF 'skewbacklaw05.IntervalIsMonotone'. -/
def intervalIsMonotoneCard : Claim7 := { stood := { row := intervalIsMonotoneRow, standIns := [], harness := (true, "0ff47a7cbfc22db8af50ab0914e9f8ff0555a952d9c08da72a79197db0fdf7e7"), looks := false }, kinds := [], alts := [], laidByText := true, laidKinds := [.data], laidTests := true, laidLooks := .later }
def IntervalIsMonotoneCardSaid : Prop := Claim7.holds Tryz.pinned (.plain (OpenSpec.ofChange intervalIsMonotoneSpec)) intervalIsMonotoneCard

/-- THE TIED CARD OF 'skewbacklaw05.IntervalSetsAgree'. -/
def intervalSetsAgreeCard : Claim7 := { stood := { row := intervalSetsAgreeRow, standIns := [], harness := (true, "0ff47a7cbfc22db8af50ab0914e9f8ff0555a952d9c08da72a79197db0fdf7e7"), looks := false }, kinds := [], alts := [], laidByText := true, laidKinds := [.data], laidTests := true, laidLooks := .later }
def IntervalSetsAgreeCardSaid : Prop := Claim7.holds Tryz.pinned (.plain (OpenSpec.ofChange intervalSetsAgreeSpec)) intervalSetsAgreeCard

/-- THE TIED CARD OF 'skewbacklaw05.IntervalIsLeast'. -/
def intervalIsLeastCard : Claim7 := { stood := { row := intervalIsLeastRow, standIns := [], harness := (true, "0ff47a7cbfc22db8af50ab0914e9f8ff0555a952d9c08da72a79197db0fdf7e7"), looks := false }, kinds := [], alts := [], laidByText := true, laidKinds := [.data], laidTests := true, laidLooks := .later }
def IntervalIsLeastCardSaid : Prop := Claim7.holds Tryz.pinned (.plain (OpenSpec.ofChange intervalIsLeastSpec)) intervalIsLeastCard

/-- THE TIED CARD OF 'skewbacklaw05.IntervalComputesAsSpecified'. -/
def intervalComputesAsSpecifiedCard : Claim7 := { stood := { row := intervalComputesAsSpecifiedRow, standIns := [], harness := (true, "0ff47a7cbfc22db8af50ab0914e9f8ff0555a952d9c08da72a79197db0fdf7e7"), looks := false }, kinds := [], alts := [], laidByText := true, laidKinds := [.data], laidTests := true, laidLooks := .later }
def IntervalComputesAsSpecifiedCardSaid : Prop := Claim7.holds Tryz.pinned (.plain (OpenSpec.ofChange intervalComputesAsSpecifiedSpec)) intervalComputesAsSpecifiedCard

/-- THE TIED CARD OF 'skewbacklaw05.IntervalIncludes'. -/
def intervalIncludesCard : Claim7 := { stood := { row := intervalIncludesRow, standIns := [], harness := (true, "0ff47a7cbfc22db8af50ab0914e9f8ff0555a952d9c08da72a79197db0fdf7e7"), looks := false }, kinds := [], alts := [], laidByText := true, laidKinds := [.data], laidTests := true, laidLooks := .later }
def IntervalIncludesCardSaid : Prop := Claim7.holds Tryz.pinned (.plain (OpenSpec.ofChange intervalIncludesSpec)) intervalIncludesCard

/-- THE TIED CARD OF 'skewbacklaw05.IntervalWidens'. -/
def intervalWidensCard : Claim7 := { stood := { row := intervalWidensRow, standIns := [], harness := (true, "0ff47a7cbfc22db8af50ab0914e9f8ff0555a952d9c08da72a79197db0fdf7e7"), looks := false }, kinds := [], alts := [], laidByText := true, laidKinds := [.data], laidTests := true, laidLooks := .later }
def IntervalWidensCardSaid : Prop := Claim7.holds Tryz.pinned (.plain (OpenSpec.ofChange intervalWidensSpec)) intervalWidensCard

/-- THE SECOND FORM's CARD OF 'skewbacklaw05.IntervalSetsAsSpecified'. -/
def intervalSetsAsSpecifiedUptoCard : Claim7 := { stood := { row := intervalSetsAsSpecifiedUptoRow, standIns := [], harness := (true, "0ff47a7cbfc22db8af50ab0914e9f8ff0555a952d9c08da72a79197db0fdf7e7"), looks := false }, kinds := [], alts := [], laidByText := true, laidKinds := [.data], laidTests := true, laidLooks := .later }
def IntervalSetsAsSpecifiedUptoCardSaid : Prop := Claim7.holds Tryz.pinned (.plain (OpenSpec.upto intervalSetsAsSpecifiedSpec)) intervalSetsAsSpecifiedUptoCard

/-- THE SECOND FORM's CARD OF 'skewbacklaw05.IntervalIsMonotone'. -/
def intervalIsMonotoneUptoCard : Claim7 := { stood := { row := intervalIsMonotoneUptoRow, standIns := [], harness := (true, "0ff47a7cbfc22db8af50ab0914e9f8ff0555a952d9c08da72a79197db0fdf7e7"), looks := false }, kinds := [], alts := [], laidByText := true, laidKinds := [.data], laidTests := true, laidLooks := .later }
def IntervalIsMonotoneUptoCardSaid : Prop := Claim7.holds Tryz.pinned (.plain (OpenSpec.upto intervalIsMonotoneSpec)) intervalIsMonotoneUptoCard

/-- THE SECOND FORM's CARD OF 'skewbacklaw05.IntervalSetsAgree'. -/
def intervalSetsAgreeUptoCard : Claim7 := { stood := { row := intervalSetsAgreeUptoRow, standIns := [], harness := (true, "0ff47a7cbfc22db8af50ab0914e9f8ff0555a952d9c08da72a79197db0fdf7e7"), looks := false }, kinds := [], alts := [], laidByText := true, laidKinds := [.data], laidTests := true, laidLooks := .later }
def IntervalSetsAgreeUptoCardSaid : Prop := Claim7.holds Tryz.pinned (.plain (OpenSpec.upto intervalSetsAgreeSpec)) intervalSetsAgreeUptoCard

/-- THE SECOND FORM's CARD OF 'skewbacklaw05.IntervalIsLeast'. -/
def intervalIsLeastUptoCard : Claim7 := { stood := { row := intervalIsLeastUptoRow, standIns := [], harness := (true, "0ff47a7cbfc22db8af50ab0914e9f8ff0555a952d9c08da72a79197db0fdf7e7"), looks := false }, kinds := [], alts := [], laidByText := true, laidKinds := [.data], laidTests := true, laidLooks := .later }
def IntervalIsLeastUptoCardSaid : Prop := Claim7.holds Tryz.pinned (.plain (OpenSpec.upto intervalIsLeastSpec)) intervalIsLeastUptoCard

/-- THE SECOND FORM's CARD OF 'skewbacklaw05.IntervalComputesAsSpecified'. -/
def intervalComputesAsSpecifiedUptoCard : Claim7 := { stood := { row := intervalComputesAsSpecifiedUptoRow, standIns := [], harness := (true, "0ff47a7cbfc22db8af50ab0914e9f8ff0555a952d9c08da72a79197db0fdf7e7"), looks := false }, kinds := [], alts := [], laidByText := true, laidKinds := [.data], laidTests := true, laidLooks := .later }
def IntervalComputesAsSpecifiedUptoCardSaid : Prop := Claim7.holds Tryz.pinned (.plain (OpenSpec.upto intervalComputesAsSpecifiedSpec)) intervalComputesAsSpecifiedUptoCard

/-- THE SECOND FORM's CARD OF 'skewbacklaw05.IntervalIncludes'. -/
def intervalIncludesUptoCard : Claim7 := { stood := { row := intervalIncludesUptoRow, standIns := [], harness := (true, "0ff47a7cbfc22db8af50ab0914e9f8ff0555a952d9c08da72a79197db0fdf7e7"), looks := false }, kinds := [], alts := [], laidByText := true, laidKinds := [.data], laidTests := true, laidLooks := .later }
def IntervalIncludesUptoCardSaid : Prop := Claim7.holds Tryz.pinned (.plain (OpenSpec.upto intervalIncludesSpec)) intervalIncludesUptoCard

/-- THE SECOND FORM's CARD OF 'skewbacklaw05.IntervalWidens'. -/
def intervalWidensUptoCard : Claim7 := { stood := { row := intervalWidensUptoRow, standIns := [], harness := (true, "0ff47a7cbfc22db8af50ab0914e9f8ff0555a952d9c08da72a79197db0fdf7e7"), looks := false }, kinds := [], alts := [], laidByText := true, laidKinds := [.data], laidTests := true, laidLooks := .later }
def IntervalWidensUptoCardSaid : Prop := Claim7.holds Tryz.pinned (.plain (OpenSpec.upto intervalWidensSpec)) intervalWidensUptoCard
end Rows
end Go.Proofs.YtnfbkngfdemkpaaGreatDoor
