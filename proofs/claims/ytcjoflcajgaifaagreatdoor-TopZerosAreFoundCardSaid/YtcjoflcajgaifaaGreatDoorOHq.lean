/- Lemmas: what they ask stands in their statements. -/
import Derived.Test.YtcjoflcajgaifaaGreatDoorRows
import Derived.Test.YtcjoflcajgaifaaGreatDoorTie
import Derived.Test.YtcjoflcajgaifaaGreatDoorCards
import Derived.SevenTiedAt
import Derived.LaidMore
import Derived.LaidLaws
import Derived.Test.YtcjoflcajgaifaaGreatDoorOGD
set_option linter.unusedSimpArgs false
set_option linter.unusedVariables false
namespace Go.Proofs.YtcjoflcajgaifaaGreatDoor
open Go.Kn Go.Num Go.ChangeShapes Go.WideShapes Go.ChangeAt Go.RowKit
theorem own:ownKnob Tryz.prog.godebug=none:=by kernel_rfl
theorem gn_:laidOutB Tryz.prog=true:=by kernel_rfl
theorem eN_:(Tryz.prog.mayEnter&&(Rows.topBoundsHoldRow.lifted==Tryz.prog.liftsFinal)&&(Tryz.prog.make==some Rows.topBoundsHoldRow.make)&&Tryz.prog.stopsHeard&&(Rows.topBoundsHoldRow.plainKeys==Tryz.prog.plainKeys)&&mapsRowed Tryz.prog)=true:=by kernel_rfl
theorem g1_:Tryz.prog.mayEnter=true∧(Rows.topBoundsHoldRow.lifted==Tryz.prog.liftsFinal)=true∧(Tryz.prog.make==some Rows.topBoundsHoldRow.make)=true∧Tryz.prog.stopsHeard=true∧(Rows.topBoundsHoldRow.plainKeys==Tryz.prog.plainKeys)=true∧mapsRowed Tryz.prog=true:=by
 have h:=eN_;simp only [Bool.and_eq_true] at h;obtain ⟨⟨⟨⟨⟨a,b⟩,c⟩,d⟩,e⟩,f⟩:=h;exact ⟨a,b,c,d,e,f⟩
theorem g4_ : Tryz.prog.mainIs = some (true, "692fe83d3300bb4fb542bf196ad89efad5f7b68adaa3b00508caee40a669d5ce".toList) := by kernel_rfl
theorem gK_:false=Tryz.prog.looks []:=by kernel_rfl
end Go.Proofs.YtcjoflcajgaifaaGreatDoor
