/- Lemmas: what they ask stands in their statements. -/
import Derived.Test.YtkjjponijamaoaaGreatDoorRows
import Derived.Test.YtkjjponijamaoaaGreatDoorTie
import Derived.Test.YtkjjponijamaoaaGreatDoorCards
import Derived.SevenTiedAt
import Derived.LaidMore
import Derived.LaidLaws
import Derived.Test.YtkjjponijamaoaaGreatDoorJGD
set_option linter.unusedSimpArgs false
set_option linter.unusedVariables false
namespace Go.Proofs.YtkjjponijamaoaaGreatDoor
open Go.Kn Go.Num Go.ChangeShapes Go.WideShapes Go.ChangeAt Go.RowKit
theorem own:ownKnob Tryz.prog.godebug=none:=by kernel_rfl
theorem el_:laidOutB Tryz.prog=true:=by kernel_rfl
theorem cH_:(Tryz.prog.mayEnter&&(Rows.ropePullsAsSpecifiedRow.lifted==Tryz.prog.liftsFinal)&&(Tryz.prog.make==some Rows.ropePullsAsSpecifiedRow.make)&&Tryz.prog.stopsHeard&&(Rows.ropePullsAsSpecifiedRow.plainKeys==Tryz.prog.plainKeys)&&mapsRowed Tryz.prog)=true:=by kernel_rfl
theorem eU_:Tryz.prog.mayEnter=true∧(Rows.ropePullsAsSpecifiedRow.lifted==Tryz.prog.liftsFinal)=true∧(Tryz.prog.make==some Rows.ropePullsAsSpecifiedRow.make)=true∧Tryz.prog.stopsHeard=true∧(Rows.ropePullsAsSpecifiedRow.plainKeys==Tryz.prog.plainKeys)=true∧mapsRowed Tryz.prog=true:=by
 have h:=cH_;simp only [Bool.and_eq_true] at h;obtain ⟨⟨⟨⟨⟨a,b⟩,c⟩,d⟩,e⟩,f⟩:=h;exact ⟨a,b,c,d,e,f⟩
theorem eW_ : Tryz.prog.mainIs = some (true, "879c469cb3889b55bc4815716d36c3d07d60e8caae4b02f49b842c0ef3e5c4dc".toList) := by kernel_rfl
theorem eE_:false=Tryz.prog.looks []:=by kernel_rfl
end Go.Proofs.YtkjjponijamaoaaGreatDoor
