/- Lemmas: what they ask stands in their statements. -/
import Derived.Test.YtbjlhfochebmiaaGreatDoorRows
import Derived.Test.YtbjlhfochebmiaaGreatDoorTie
import Derived.Test.YtbjlhfochebmiaaGreatDoorCards
import Derived.SevenTiedAt
import Derived.LaidMore
import Derived.LaidLaws
import Derived.Test.YtbjlhfochebmiaaGreatDoorMGD
set_option linter.unusedSimpArgs false
set_option linter.unusedVariables false
namespace Go.Proofs.YtbjlhfochebmiaaGreatDoor
open Go.Kn Go.Num Go.ChangeShapes Go.WideShapes Go.ChangeAt Go.RowKit
theorem own:ownKnob Tryz.prog.godebug=none:=by kernel_rfl
theorem fW_:laidOutB Tryz.prog=true:=by kernel_rfl
theorem em_:(Tryz.prog.mayEnter&&(Rows.poseEndsRow.lifted==Tryz.prog.liftsFinal)&&(Tryz.prog.make==some Rows.poseEndsRow.make)&&Tryz.prog.stopsHeard&&(Rows.poseEndsRow.plainKeys==Tryz.prog.plainKeys)&&mapsRowed Tryz.prog)=true:=by kernel_rfl
theorem gB_:Tryz.prog.mayEnter=true∧(Rows.poseEndsRow.lifted==Tryz.prog.liftsFinal)=true∧(Tryz.prog.make==some Rows.poseEndsRow.make)=true∧Tryz.prog.stopsHeard=true∧(Rows.poseEndsRow.plainKeys==Tryz.prog.plainKeys)=true∧mapsRowed Tryz.prog=true:=by
 have h:=em_;simp only [Bool.and_eq_true] at h;obtain ⟨⟨⟨⟨⟨a,b⟩,c⟩,d⟩,e⟩,f⟩:=h;exact ⟨a,b,c,d,e,f⟩
theorem gD_ : Tryz.prog.mainIs = some (true, "91f3d83de141079e5f04c79cdc66b804f5c34474148b6dff211b814160ce89f9".toList) := by kernel_rfl
theorem gj_:false=Tryz.prog.looks []:=by kernel_rfl
end Go.Proofs.YtbjlhfochebmiaaGreatDoor
