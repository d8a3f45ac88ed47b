/-
  DERIVED. GIVEN WITH THE SEED: THE CARDS: each row of YtkjjponijamaoaaGreatDoorRows.lean that lists a variable, with what it lists TIED to the program's text (the seventh form; the later family's looks); each row that meets fmt, with fmt's text TOLD by the authors' own Lean function (tested against real Go, not proved from fmt's source: count such statements apart). THE CARD IS WHAT COUNTS. Prove the row's statement (the work); the ties are given (YtkjjponijamaoaaGreatDoorTie.lean); close each card by the builder's one call (the guide's Derived/Test/ToyasCard.lean, 'card_holds'). Laid BY PROGRAM, IN A SANDBOX (cutbox-door.mjs). By AI agents, Wed Nov 11 2026. No macro, syntax, notation, axiom, sorry.
-/
import Derived.Test.YtkjjponijamaoaaGreatDoorRows
import GoSem.ClaimSeven
namespace Go.Proofs.YtkjjponijamaoaaGreatDoor
namespace Rows

/-- THE TIED CARD OF 'skewbacklaw26.RopePullsAsSpecified'. -/
def ropePullsAsSpecifiedCard : Claim7 := { stood := { row := ropePullsAsSpecifiedRow, standIns := [], harness := (true, "879c469cb3889b55bc4815716d36c3d07d60e8caae4b02f49b842c0ef3e5c4dc"), looks := false }, kinds := [], alts := [], laidByText := true, laidKinds := [.data], laidTests := true, laidLooks := .later }
def RopePullsAsSpecifiedCardSaid : Prop := Claim7.holds Tryz.pinned (.plain (OpenSpec.ofChange ropePullsAsSpecifiedSpec)) ropePullsAsSpecifiedCard

/-- THE TIED CARD OF 'skewbacklaw26.RopeColumnsMatchSpec'. -/
def ropeColumnsMatchSpecCard : Claim7 := { stood := { row := ropeColumnsMatchSpecRow, standIns := [], harness := (true, "879c469cb3889b55bc4815716d36c3d07d60e8caae4b02f49b842c0ef3e5c4dc"), looks := false }, kinds := [], alts := [], laidByText := true, laidKinds := [.data], laidTests := true, laidLooks := .later }
def RopeColumnsMatchSpecCardSaid : Prop := Claim7.holds Tryz.pinned (.plain (OpenSpec.ofChange ropeColumnsMatchSpecSpec)) ropeColumnsMatchSpecCard

/-- THE TIED CARD OF 'skewbacklaw26.RopeSlackMatchesSpec'. -/
def ropeSlackMatchesSpecCard : Claim7 := { stood := { row := ropeSlackMatchesSpecRow, standIns := [], harness := (true, "879c469cb3889b55bc4815716d36c3d07d60e8caae4b02f49b842c0ef3e5c4dc"), looks := false }, kinds := [], alts := [], laidByText := true, laidKinds := [.data], laidTests := true, laidLooks := .later }
def RopeSlackMatchesSpecCardSaid : Prop := Claim7.holds Tryz.pinned (.plain (OpenSpec.ofChange ropeSlackMatchesSpecSpec)) ropeSlackMatchesSpecCard

/-- THE TIED CARD OF 'skewbacklaw26.RopeWorkAddsUp'. -/
def ropeWorkAddsUpCard : Claim7 := { stood := { row := ropeWorkAddsUpRow, standIns := [], harness := (true, "879c469cb3889b55bc4815716d36c3d07d60e8caae4b02f49b842c0ef3e5c4dc"), looks := false }, kinds := [], alts := [], laidByText := true, laidKinds := [.data], laidTests := true, laidLooks := .later }
def RopeWorkAddsUpCardSaid : Prop := Claim7.holds Tryz.pinned (.plain (OpenSpec.ofChange ropeWorkAddsUpSpec)) ropeWorkAddsUpCard

/-- THE TIED CARD OF 'skewbacklaw26.RopeBalances'. -/
def ropeBalancesCard : Claim7 := { stood := { row := ropeBalancesRow, standIns := [], harness := (true, "879c469cb3889b55bc4815716d36c3d07d60e8caae4b02f49b842c0ef3e5c4dc"), looks := false }, kinds := [], alts := [], laidByText := true, laidKinds := [.data], laidTests := true, laidLooks := .later }
def RopeBalancesCardSaid : Prop := Claim7.holds Tryz.pinned (.plain (OpenSpec.ofChange ropeBalancesSpec)) ropeBalancesCard

/-- THE TIED CARD OF 'skewbacklaw26.RopeLiftsAsSpecified'. -/
def ropeLiftsAsSpecifiedCard : Claim7 := { stood := { row := ropeLiftsAsSpecifiedRow, standIns := [], harness := (true, "879c469cb3889b55bc4815716d36c3d07d60e8caae4b02f49b842c0ef3e5c4dc"), looks := false }, kinds := [], alts := [], laidByText := true, laidKinds := [.data], laidTests := true, laidLooks := .later }
def RopeLiftsAsSpecifiedCardSaid : Prop := Claim7.holds Tryz.pinned (.plain (OpenSpec.ofChange ropeLiftsAsSpecifiedSpec)) ropeLiftsAsSpecifiedCard

/-- THE TIED CARD OF 'skewbacklaw26.RopeLengthIsBounded'. -/
def ropeLengthIsBoundedCard : Claim7 := { stood := { row := ropeLengthIsBoundedRow, standIns := [], harness := (true, "879c469cb3889b55bc4815716d36c3d07d60e8caae4b02f49b842c0ef3e5c4dc"), looks := false }, kinds := [], alts := [], laidByText := true, laidKinds := [.data], laidTests := true, laidLooks := .later }
def RopeLengthIsBoundedCardSaid : Prop := Claim7.holds Tryz.pinned (.plain (OpenSpec.ofChange ropeLengthIsBoundedSpec)) ropeLengthIsBoundedCard

/-- THE TIED CARD OF 'skewbacklaw26.RopeStaysAsSpecified'. -/
def ropeStaysAsSpecifiedCard : Claim7 := { stood := { row := ropeStaysAsSpecifiedRow, standIns := [], harness := (true, "879c469cb3889b55bc4815716d36c3d07d60e8caae4b02f49b842c0ef3e5c4dc"), looks := false }, kinds := [], alts := [], laidByText := true, laidKinds := [.data], laidTests := true, laidLooks := .later }
def RopeStaysAsSpecifiedCardSaid : Prop := Claim7.holds Tryz.pinned (.plain (OpenSpec.ofChange ropeStaysAsSpecifiedSpec)) ropeStaysAsSpecifiedCard

/-- THE TIED CARD OF 'skewbacklaw26.RopeStaysIsSound'. -/
def ropeStaysIsSoundCard : Claim7 := { stood := { row := ropeStaysIsSoundRow, standIns := [], harness := (true, "879c469cb3889b55bc4815716d36c3d07d60e8caae4b02f49b842c0ef3e5c4dc"), looks := false }, kinds := [], alts := [], laidByText := true, laidKinds := [.data], laidTests := true, laidLooks := .later }
def RopeStaysIsSoundCardSaid : Prop := Claim7.holds Tryz.pinned (.plain (OpenSpec.ofChange ropeStaysIsSoundSpec)) ropeStaysIsSoundCard

/-- THE TIED CARD OF 'skewbacklaw26.RopeHolds'. -/
def ropeHoldsCard : Claim7 := { stood := { row := ropeHoldsRow, standIns := [], harness := (true, "879c469cb3889b55bc4815716d36c3d07d60e8caae4b02f49b842c0ef3e5c4dc"), looks := false }, kinds := [], alts := [], laidByText := true, laidKinds := [.data], laidTests := true, laidLooks := .later }
def RopeHoldsCardSaid : Prop := Claim7.holds Tryz.pinned (.plain (OpenSpec.ofChange ropeHoldsSpec)) ropeHoldsCard

/-- THE SECOND FORM's CARD OF 'skewbacklaw26.RopePullsAsSpecified'. -/
def ropePullsAsSpecifiedUptoCard : Claim7 := { stood := { row := ropePullsAsSpecifiedUptoRow, standIns := [], harness := (true, "879c469cb3889b55bc4815716d36c3d07d60e8caae4b02f49b842c0ef3e5c4dc"), looks := false }, kinds := [], alts := [], laidByText := true, laidKinds := [.data], laidTests := true, laidLooks := .later }
def RopePullsAsSpecifiedUptoCardSaid : Prop := Claim7.holds Tryz.pinned (.plain (OpenSpec.upto ropePullsAsSpecifiedSpec)) ropePullsAsSpecifiedUptoCard

/-- THE SECOND FORM's CARD OF 'skewbacklaw26.RopeColumnsMatchSpec'. -/
def ropeColumnsMatchSpecUptoCard : Claim7 := { stood := { row := ropeColumnsMatchSpecUptoRow, standIns := [], harness := (true, "879c469cb3889b55bc4815716d36c3d07d60e8caae4b02f49b842c0ef3e5c4dc"), looks := false }, kinds := [], alts := [], laidByText := true, laidKinds := [.data], laidTests := true, laidLooks := .later }
def RopeColumnsMatchSpecUptoCardSaid : Prop := Claim7.holds Tryz.pinned (.plain (OpenSpec.upto ropeColumnsMatchSpecSpec)) ropeColumnsMatchSpecUptoCard

/-- THE SECOND FORM's CARD OF 'skewbacklaw26.RopeSlackMatchesSpec'. -/
def ropeSlackMatchesSpecUptoCard : Claim7 := { stood := { row := ropeSlackMatchesSpecUptoRow, standIns := [], harness := (true, "879c469cb3889b55bc4815716d36c3d07d60e8caae4b02f49b842c0ef3e5c4dc"), looks := false }, kinds := [], alts := [], laidByText := true, laidKinds := [.data], laidTests := true, laidLooks := .later }
def RopeSlackMatchesSpecUptoCardSaid : Prop := Claim7.holds Tryz.pinned (.plain (OpenSpec.upto ropeSlackMatchesSpecSpec)) ropeSlackMatchesSpecUptoCard

/-- THE SECOND FORM's CARD OF 'skewbacklaw26.RopeWorkAddsUp'. -/
def ropeWorkAddsUpUptoCard : Claim7 := { stood := { row := ropeWorkAddsUpUptoRow, standIns := [], harness := (true, "879c469cb3889b55bc4815716d36c3d07d60e8caae4b02f49b842c0ef3e5c4dc"), looks := false }, kinds := [], alts := [], laidByText := true, laidKinds := [.data], laidTests := true, laidLooks := .later }
def RopeWorkAddsUpUptoCardSaid : Prop := Claim7.holds Tryz.pinned (.plain (OpenSpec.upto ropeWorkAddsUpSpec)) ropeWorkAddsUpUptoCard

/-- THE SECOND FORM's CARD OF 'skewbacklaw26.RopeBalances'. -/
def ropeBalancesUptoCard : Claim7 := { stood := { row := ropeBalancesUptoRow, standIns := [], harness := (true, "879c469cb3889b55bc4815716d36c3d07d60e8caae4b02f49b842c0ef3e5c4dc"), looks := false }, kinds := [], alts := [], laidByText := true, laidKinds := [.data], laidTests := true, laidLooks := .later }
def RopeBalancesUptoCardSaid : Prop := Claim7.holds Tryz.pinned (.plain (OpenSpec.upto ropeBalancesSpec)) ropeBalancesUptoCard

/-- THE SECOND FORM's CARD OF 'skewbacklaw26.RopeLiftsAsSpecified'. -/
def ropeLiftsAsSpecifiedUptoCard : Claim7 := { stood := { row := ropeLiftsAsSpecifiedUptoRow, standIns := [], harness := (true, "879c469cb3889b55bc4815716d36c3d07d60e8caae4b02f49b842c0ef3e5c4dc"), looks := false }, kinds := [], alts := [], laidByText := true, laidKinds := [.data], laidTests := true, laidLooks := .later }
def RopeLiftsAsSpecifiedUptoCardSaid : Prop := Claim7.holds Tryz.pinned (.plain (OpenSpec.upto ropeLiftsAsSpecifiedSpec)) ropeLiftsAsSpecifiedUptoCard

/-- THE SECOND FORM's CARD OF 'skewbacklaw26.RopeLengthIsBounded'. -/
def ropeLengthIsBoundedUptoCard : Claim7 := { stood := { row := ropeLengthIsBoundedUptoRow, standIns := [], harness := (true, "879c469cb3889b55bc4815716d36c3d07d60e8caae4b02f49b842c0ef3e5c4dc"), looks := false }, kinds := [], alts := [], laidByText := true, laidKinds := [.data], laidTests := true, laidLooks := .later }
def RopeLengthIsBoundedUptoCardSaid : Prop := Claim7.holds Tryz.pinned (.plain (OpenSpec.upto ropeLengthIsBoundedSpec)) ropeLengthIsBoundedUptoCard

/-- THE SECOND FORM's CARD OF 'skewbacklaw26.RopeStaysAsSpecified'. -/
def ropeStaysAsSpecifiedUptoCard : Claim7 := { stood := { row := ropeStaysAsSpecifiedUptoRow, standIns := [], harness := (true, "879c469cb3889b55bc4815716d36c3d07d60e8caae4b02f49b842c0ef3e5c4dc"), looks := false }, kinds := [], alts := [], laidByText := true, laidKinds := [.data], laidTests := true, laidLooks := .later }
def RopeStaysAsSpecifiedUptoCardSaid : Prop := Claim7.holds Tryz.pinned (.plain (OpenSpec.upto ropeStaysAsSpecifiedSpec)) ropeStaysAsSpecifiedUptoCard

/-- THE SECOND FORM's CARD OF 'skewbacklaw26.RopeStaysIsSound'. -/
def ropeStaysIsSoundUptoCard : Claim7 := { stood := { row := ropeStaysIsSoundUptoRow, standIns := [], harness := (true, "879c469cb3889b55bc4815716d36c3d07d60e8caae4b02f49b842c0ef3e5c4dc"), looks := false }, kinds := [], alts := [], laidByText := true, laidKinds := [.data], laidTests := true, laidLooks := .later }
def RopeStaysIsSoundUptoCardSaid : Prop := Claim7.holds Tryz.pinned (.plain (OpenSpec.upto ropeStaysIsSoundSpec)) ropeStaysIsSoundUptoCard

/-- THE SECOND FORM's CARD OF 'skewbacklaw26.RopeHolds'. -/
def ropeHoldsUptoCard : Claim7 := { stood := { row := ropeHoldsUptoRow, standIns := [], harness := (true, "879c469cb3889b55bc4815716d36c3d07d60e8caae4b02f49b842c0ef3e5c4dc"), looks := false }, kinds := [], alts := [], laidByText := true, laidKinds := [.data], laidTests := true, laidLooks := .later }
def RopeHoldsUptoCardSaid : Prop := Claim7.holds Tryz.pinned (.plain (OpenSpec.upto ropeHoldsSpec)) ropeHoldsUptoCard
end Rows
end Go.Proofs.YtkjjponijamaoaaGreatDoor
