/-
  NARROWER THAN 'FOR EVERY INPUT', by the rows' own cells (each row's printed sentence says how): PoseEnds: laid · PosePlacesAsSpecified: laid · PoseIsRigid: laid · PoseTightIsTight: laid.
  DERIVED. THE GIVEN ROWS OF THIS SEAT. 4 by the template 'for every input the law returns true; each argument reads behind the call as it read before'; 0 by the template 'total and deterministic' (their statements: YtbjlhfochebmiaaGreatDoorTotals.lean).
  GIVEN WITH THE SEED: the statements are not yours to turn. If you find one false, say at which input.
  Laid BY PROGRAM, IN A SANDBOX (cutbox-rows.mjs): the forced cells as the released guide's own fill.sh prints them over the translation b60987eb11b5a8f5… (all of the seat's roots in one cut). By AI agents, Wed Nov 11 2026. No macro, syntax, notation, axiom, sorry.
-/
import Derived.Test.YtbjlhfochebmiaaGreatDoorChecked
import GoSem.Claim
import GoSem.ClaimJoined
import GoSem.ClaimMapViews
import Derived.JoinedTies
import Derived.KernelRfl
namespace Go.Proofs.YtbjlhfochebmiaaGreatDoor
/- THE CELL 'sum', in the pinned program and in every row, IS THE sha256 OF THE DUMP (.gsa) THAT YtbjlhfochebmiaaGreatDoorProg.lean LOADS. Nothing in Lean hashes anything: it is a label: what it is worth is what the hold of that sum in a sandbox is worth. -/
noncomputable def Tryz.pinned : Pinned := { name := "ytbjlhfochebmiaagreatdoor", sum := "b60987eb11b5a8f56e364523e49ab2f10d5c41f95d392dcc4ccb3461cea304f7", checked := Tryz.checked }
namespace Rows
def none {H : Type} : Left H := { results := [], args := [] }

/- WHAT THE LISTED PACKAGE-LEVEL VARIABLES READ AS WHEN THE CALL BEGINS. Each datum BY PROGRAM (the guide's laid-datum.mjs) off the statement by which the dump's own 'gosem.cut.vars' lays the variable. In a bare row this is a premise. The card (YtbjlhfochebmiaaGreatDoorCards.lean) ties it to the program's text. -/
def laid_math_bits_deBruijn32tab {H : Type} : DataW H := .agg [.lit (.int .u8 0), .lit (.int .u8 1), .lit (.int .u8 28), .lit (.int .u8 2), .lit (.int .u8 29), .lit (.int .u8 14), .lit (.int .u8 24), .lit (.int .u8 3), .lit (.int .u8 30), .lit (.int .u8 22), .lit (.int .u8 20), .lit (.int .u8 15), .lit (.int .u8 25), .lit (.int .u8 17), .lit (.int .u8 4), .lit (.int .u8 8), .lit (.int .u8 31), .lit (.int .u8 27), .lit (.int .u8 13), .lit (.int .u8 23), .lit (.int .u8 21), .lit (.int .u8 19), .lit (.int .u8 16), .lit (.int .u8 7), .lit (.int .u8 26), .lit (.int .u8 12), .lit (.int .u8 18), .lit (.int .u8 6), .lit (.int .u8 11), .lit (.int .u8 5), .lit (.int .u8 10), .lit (.int .u8 9)]

/-- 'skewbacklaw14.PoseEnds': WHATEVER THE INPUT: true; the input reads as it did. -/
def poseEndsSpec : ChangeSpec := { name := "poseEnds", fn := fun _ => fun
  | [d1, d2, d3] => { results := [.lit (.bool true)], args := [d1, d2, d3] }
  | _ => none }
def poseEndsRow : OpenClaim := { program := "ytbjlhfochebmiaagreatdoor", sum := "b60987eb11b5a8f56e364523e49ab2f10d5c41f95d392dcc4ccb3461cea304f7", func := "skewback/skewbacklaw14.PoseEnds", spec := "poseEnds", unfollowed := true, recurses := true, named := ["math/bits.deBruijn32tab"], apart := false, laid := [("math/bits.deBruijn32tab", laid_math_bits_deBruijn32tab)] }
def PoseEndsSaid : Prop := poseEndsRow.holds Tryz.pinned (OpenSpec.ofChange poseEndsSpec)

/-- ITS FALSE NEIGHBOUR: 'it returns false'. Refute it at one input. -/
def poseEndsWrong : ChangeSpec := { name := "poseEnds", fn := fun _ => fun
  | [d1, d2, d3] => { results := [.lit (.bool false)], args := [d1, d2, d3] }
  | _ => none }
def PoseEndsWrongFalsely : Prop := poseEndsRow.holds Tryz.pinned (OpenSpec.ofChange poseEndsWrong)

/-- 'skewbacklaw14.PosePlacesAsSpecified': WHATEVER THE INPUT: true; the input reads as it did. -/
def posePlacesAsSpecifiedSpec : ChangeSpec := { name := "posePlacesAsSpecified", fn := fun _ => fun
  | [d1, d2, d3, d4] => { results := [.lit (.bool true)], args := [d1, d2, d3, d4] }
  | _ => none }
def posePlacesAsSpecifiedRow : OpenClaim := { program := "ytbjlhfochebmiaagreatdoor", sum := "b60987eb11b5a8f56e364523e49ab2f10d5c41f95d392dcc4ccb3461cea304f7", func := "skewback/skewbacklaw14.PosePlacesAsSpecified", spec := "posePlacesAsSpecified", unfollowed := true, recurses := true, named := ["math/bits.deBruijn32tab"], apart := false, laid := [("math/bits.deBruijn32tab", laid_math_bits_deBruijn32tab)] }
def PosePlacesAsSpecifiedSaid : Prop := posePlacesAsSpecifiedRow.holds Tryz.pinned (OpenSpec.ofChange posePlacesAsSpecifiedSpec)

/-- ITS FALSE NEIGHBOUR: 'it returns false'. Refute it at one input. -/
def posePlacesAsSpecifiedWrong : ChangeSpec := { name := "posePlacesAsSpecified", fn := fun _ => fun
  | [d1, d2, d3, d4] => { results := [.lit (.bool false)], args := [d1, d2, d3, d4] }
  | _ => none }
def PosePlacesAsSpecifiedWrongFalsely : Prop := posePlacesAsSpecifiedRow.holds Tryz.pinned (OpenSpec.ofChange posePlacesAsSpecifiedWrong)

/-- 'skewbacklaw14.PoseIsRigid': WHATEVER THE INPUT: true; the input reads as it did. -/
def poseIsRigidSpec : ChangeSpec := { name := "poseIsRigid", fn := fun _ => fun
  | [d1, d2, d3, d4, d5] => { results := [.lit (.bool true)], args := [d1, d2, d3, d4, d5] }
  | _ => none }
def poseIsRigidRow : OpenClaim := { program := "ytbjlhfochebmiaagreatdoor", sum := "b60987eb11b5a8f56e364523e49ab2f10d5c41f95d392dcc4ccb3461cea304f7", func := "skewback/skewbacklaw14.PoseIsRigid", spec := "poseIsRigid", unfollowed := true, recurses := true, named := ["math/bits.deBruijn32tab"], apart := false, laid := [("math/bits.deBruijn32tab", laid_math_bits_deBruijn32tab)] }
def PoseIsRigidSaid : Prop := poseIsRigidRow.holds Tryz.pinned (OpenSpec.ofChange poseIsRigidSpec)

/-- ITS FALSE NEIGHBOUR: 'it returns false'. Refute it at one input. -/
def poseIsRigidWrong : ChangeSpec := { name := "poseIsRigid", fn := fun _ => fun
  | [d1, d2, d3, d4, d5] => { results := [.lit (.bool false)], args := [d1, d2, d3, d4, d5] }
  | _ => none }
def PoseIsRigidWrongFalsely : Prop := poseIsRigidRow.holds Tryz.pinned (OpenSpec.ofChange poseIsRigidWrong)

/-- 'skewbacklaw14.PoseTightIsTight': WHATEVER THE INPUT: true; the input reads as it did. -/
def poseTightIsTightSpec : ChangeSpec := { name := "poseTightIsTight", fn := fun _ => fun
  | [d1, d2] => { results := [.lit (.bool true)], args := [d1, d2] }
  | _ => none }
def poseTightIsTightRow : OpenClaim := { program := "ytbjlhfochebmiaagreatdoor", sum := "b60987eb11b5a8f56e364523e49ab2f10d5c41f95d392dcc4ccb3461cea304f7", func := "skewback/skewbacklaw14.PoseTightIsTight", spec := "poseTightIsTight", unfollowed := true, recurses := true, named := ["math/bits.deBruijn32tab"], apart := false, laid := [("math/bits.deBruijn32tab", laid_math_bits_deBruijn32tab)] }
def PoseTightIsTightSaid : Prop := poseTightIsTightRow.holds Tryz.pinned (OpenSpec.ofChange poseTightIsTightSpec)

/-- ITS FALSE NEIGHBOUR: 'it returns false'. Refute it at one input. -/
def poseTightIsTightWrong : ChangeSpec := { name := "poseTightIsTight", fn := fun _ => fun
  | [d1, d2] => { results := [.lit (.bool false)], args := [d1, d2] }
  | _ => none }
def PoseTightIsTightWrongFalsely : Prop := poseTightIsTightRow.holds Tryz.pinned (OpenSpec.ofChange poseTightIsTightWrong)

/- THE SECOND FORM. 'bulk': how many values and letters a reading holds, each counted each time it is reached (what is shared counts as often as it is met; a slice's spare places count too). A statement '..UptoSaid' is the law's where the arguments, and the package variables that the reading takes, are together of bulk at most 1048576: NARROWER than '..Said'. Prove '..Said' where nothing that the law and all that it calls make is longer than what came in: it says more and counts as full. Else prove '..UptoSaid'. A law counts once. -/
mutual
def uptoBulk {H : Type} : DataW H → Nat
  | .lit (.string bytes) => bytes.length + 1
  | .lit _ => 1
  | .nil => 1
  | .ptr d => uptoBulk d + 1
  | .slice elems spare => uptoBulkAll elems + uptoBulkAll spare + 1
  | .agg parts => uptoBulkAll parts + 1
  | .iface _ d => uptoBulk d + 1
  | .map entries => uptoBulkEntries entries + 1
  | .held _ => 1
def uptoBulkAll {H : Type} : List (DataW H) → Nat
  | [] => 0
  | d :: r => uptoBulk d + uptoBulkAll r
def uptoBulkEntries {H : Type} : List (Lit × DataW H) → Nat
  | [] => 0
  | x :: r => uptoBulkEntry x + uptoBulkEntries r
def uptoBulkEntry {H : Type} : Lit × DataW H → Nat
  | (.string bytes, d) => bytes.length + uptoBulk d + 1
  | (_, d) => uptoBulk d + 1
 end
def uptoSmall : (H : Type) → List (DataW H) → Bool := fun _ ds => decide (uptoBulkAll ds ≤ 1048576)
def OpenSpec.upto (s : _root_.Go.ChangeSpec) : _root_.Go.OpenSpec := { _root_.Go.OpenSpec.ofChange s with cond := some uptoSmall }

/-- 'skewbacklaw14.PoseEnds', WHERE WHAT IT READS IS OF BULK AT MOST 1048576: true; the input reads as it did. -/
def poseEndsUptoRow : OpenClaim := { program := "ytbjlhfochebmiaagreatdoor", sum := "b60987eb11b5a8f56e364523e49ab2f10d5c41f95d392dcc4ccb3461cea304f7", func := "skewback/skewbacklaw14.PoseEnds", spec := "poseEnds", unfollowed := true, recurses := true, named := ["math/bits.deBruijn32tab"], apart := false, laid := [("math/bits.deBruijn32tab", laid_math_bits_deBruijn32tab)], narrowed := true }
def PoseEndsUptoSaid : Prop := poseEndsUptoRow.holds Tryz.pinned (OpenSpec.upto poseEndsSpec)

/-- 'skewbacklaw14.PosePlacesAsSpecified', WHERE WHAT IT READS IS OF BULK AT MOST 1048576: true; the input reads as it did. -/
def posePlacesAsSpecifiedUptoRow : OpenClaim := { program := "ytbjlhfochebmiaagreatdoor", sum := "b60987eb11b5a8f56e364523e49ab2f10d5c41f95d392dcc4ccb3461cea304f7", func := "skewback/skewbacklaw14.PosePlacesAsSpecified", spec := "posePlacesAsSpecified", unfollowed := true, recurses := true, named := ["math/bits.deBruijn32tab"], apart := false, laid := [("math/bits.deBruijn32tab", laid_math_bits_deBruijn32tab)], narrowed := true }
def PosePlacesAsSpecifiedUptoSaid : Prop := posePlacesAsSpecifiedUptoRow.holds Tryz.pinned (OpenSpec.upto posePlacesAsSpecifiedSpec)

/-- 'skewbacklaw14.PoseIsRigid', WHERE WHAT IT READS IS OF BULK AT MOST 1048576: true; the input reads as it did. -/
def poseIsRigidUptoRow : OpenClaim := { program := "ytbjlhfochebmiaagreatdoor", sum := "b60987eb11b5a8f56e364523e49ab2f10d5c41f95d392dcc4ccb3461cea304f7", func := "skewback/skewbacklaw14.PoseIsRigid", spec := "poseIsRigid", unfollowed := true, recurses := true, named := ["math/bits.deBruijn32tab"], apart := false, laid := [("math/bits.deBruijn32tab", laid_math_bits_deBruijn32tab)], narrowed := true }
def PoseIsRigidUptoSaid : Prop := poseIsRigidUptoRow.holds Tryz.pinned (OpenSpec.upto poseIsRigidSpec)

/-- 'skewbacklaw14.PoseTightIsTight', WHERE WHAT IT READS IS OF BULK AT MOST 1048576: true; the input reads as it did. -/
def poseTightIsTightUptoRow : OpenClaim := { program := "ytbjlhfochebmiaagreatdoor", sum := "b60987eb11b5a8f56e364523e49ab2f10d5c41f95d392dcc4ccb3461cea304f7", func := "skewback/skewbacklaw14.PoseTightIsTight", spec := "poseTightIsTight", unfollowed := true, recurses := true, named := ["math/bits.deBruijn32tab"], apart := false, laid := [("math/bits.deBruijn32tab", laid_math_bits_deBruijn32tab)], narrowed := true }
def PoseTightIsTightUptoSaid : Prop := poseTightIsTightUptoRow.holds Tryz.pinned (OpenSpec.upto poseTightIsTightSpec)

end Rows
end Go.Proofs.YtbjlhfochebmiaaGreatDoor
