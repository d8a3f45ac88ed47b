/-
  No cell of these rows narrows 'for every input' (looked for: loops, veiled, ifaces, maps, wideKeys, modest, calm, conditions, laid).
  DERIVED. THE GIVEN ROWS OF THIS SEAT. 11 by the template 'for every input the law returns true; each argument reads behind the call as it read before'; 0 by the template 'total and deterministic' (their statements: YtjdfogfmeibkgaaGreatTotals.lean).
  GIVEN WITH THE SEED: the statements are not yours to turn. If you find one false, say at which input.
  Laid BY PROGRAM, IN A SANDBOX (cutbox-rows.mjs): the forced cells as the released guide's own fill.sh prints them over the translation cb0497c29b171599… (all of the seat's roots in one cut). By AI agents, Wed Nov 11 2026. No macro, syntax, notation, axiom, sorry.
-/
import Derived.Test.YtjdfogfmeibkgaaGreatChecked
import GoSem.Claim
import GoSem.ClaimJoined
import GoSem.ClaimMapViews
import Derived.JoinedTies
import Derived.KernelRfl
namespace Go.Proofs.YtjdfogfmeibkgaaGreat
/- THE CELL 'sum', in the pinned program and in every row, IS THE sha256 OF THE DUMP (.gsa) THAT YtjdfogfmeibkgaaGreatProg.lean LOADS. Nothing in Lean hashes anything: it is a label: what it is worth is what the hold of that sum in a sandbox is worth. -/
noncomputable def Tryz.pinned : Pinned := { name := "ytjdfogfmeibkgaagreat", sum := "cb0497c29b17159923158a85cae2ebde225372a6ccf9d970ad08dd156b697a82", checked := Tryz.checked }
namespace Rows
def none {H : Type} : Left H := { results := [], args := [] }

/-- 'skewbacklaw08.PolyMakesAsSpecified': WHATEVER THE INPUT: true; the input reads as it did. -/
def polyMakesAsSpecifiedSpec : ChangeSpec := { name := "polyMakesAsSpecified", fn := fun _ => fun
  | [d] => { results := [.lit (.bool true)], args := [d] }
  | _ => none }
def polyMakesAsSpecifiedRow : OpenClaim := { program := "ytjdfogfmeibkgaagreat", sum := "cb0497c29b17159923158a85cae2ebde225372a6ccf9d970ad08dd156b697a82", func := "skewback/skewbacklaw08.PolyMakesAsSpecified", spec := "polyMakesAsSpecified", unfollowed := true, recurses := true, apart := false }
def PolyMakesAsSpecifiedSaid : Prop := polyMakesAsSpecifiedRow.holds Tryz.pinned (OpenSpec.ofChange polyMakesAsSpecifiedSpec)

/-- ITS FALSE NEIGHBOUR: 'it returns false'. Refute it at one input. -/
def polyMakesAsSpecifiedWrong : ChangeSpec := { name := "polyMakesAsSpecified", fn := fun _ => fun
  | [d] => { results := [.lit (.bool false)], args := [d] }
  | _ => none }
def PolyMakesAsSpecifiedWrongFalsely : Prop := polyMakesAsSpecifiedRow.holds Tryz.pinned (OpenSpec.ofChange polyMakesAsSpecifiedWrong)

/-- 'skewbacklaw08.PolyDividesAsSpecified': WHATEVER THE INPUT: true; the input reads as it did. -/
def polyDividesAsSpecifiedSpec : ChangeSpec := { name := "polyDividesAsSpecified", fn := fun _ => fun
  | [d1, d2] => { results := [.lit (.bool true)], args := [d1, d2] }
  | _ => none }
def polyDividesAsSpecifiedRow : OpenClaim := { program := "ytjdfogfmeibkgaagreat", sum := "cb0497c29b17159923158a85cae2ebde225372a6ccf9d970ad08dd156b697a82", func := "skewback/skewbacklaw08.PolyDividesAsSpecified", spec := "polyDividesAsSpecified", unfollowed := true, recurses := true, apart := false }
def PolyDividesAsSpecifiedSaid : Prop := polyDividesAsSpecifiedRow.holds Tryz.pinned (OpenSpec.ofChange polyDividesAsSpecifiedSpec)

/-- ITS FALSE NEIGHBOUR: 'it returns false'. Refute it at one input. -/
def polyDividesAsSpecifiedWrong : ChangeSpec := { name := "polyDividesAsSpecified", fn := fun _ => fun
  | [d1, d2] => { results := [.lit (.bool false)], args := [d1, d2] }
  | _ => none }
def PolyDividesAsSpecifiedWrongFalsely : Prop := polyDividesAsSpecifiedRow.holds Tryz.pinned (OpenSpec.ofChange polyDividesAsSpecifiedWrong)

/-- 'skewbacklaw08.PolyFindsCommonFactors': WHATEVER THE INPUT: true; the input reads as it did. -/
def polyFindsCommonFactorsSpec : ChangeSpec := { name := "polyFindsCommonFactors", fn := fun _ => fun
  | [d1, d2, d3] => { results := [.lit (.bool true)], args := [d1, d2, d3] }
  | _ => none }
def polyFindsCommonFactorsRow : OpenClaim := { program := "ytjdfogfmeibkgaagreat", sum := "cb0497c29b17159923158a85cae2ebde225372a6ccf9d970ad08dd156b697a82", func := "skewback/skewbacklaw08.PolyFindsCommonFactors", spec := "polyFindsCommonFactors", unfollowed := true, recurses := true, apart := false }
def PolyFindsCommonFactorsSaid : Prop := polyFindsCommonFactorsRow.holds Tryz.pinned (OpenSpec.ofChange polyFindsCommonFactorsSpec)

/-- ITS FALSE NEIGHBOUR: 'it returns false'. Refute it at one input. -/
def polyFindsCommonFactorsWrong : ChangeSpec := { name := "polyFindsCommonFactors", fn := fun _ => fun
  | [d1, d2, d3] => { results := [.lit (.bool false)], args := [d1, d2, d3] }
  | _ => none }
def PolyFindsCommonFactorsWrongFalsely : Prop := polyFindsCommonFactorsRow.holds Tryz.pinned (OpenSpec.ofChange polyFindsCommonFactorsWrong)

/-- 'skewbacklaw08.PolyFreesSquares': WHATEVER THE INPUT: true; the input reads as it did. -/
def polyFreesSquaresSpec : ChangeSpec := { name := "polyFreesSquares", fn := fun _ => fun
  | [d1, d2] => { results := [.lit (.bool true)], args := [d1, d2] }
  | _ => none }
def polyFreesSquaresRow : OpenClaim := { program := "ytjdfogfmeibkgaagreat", sum := "cb0497c29b17159923158a85cae2ebde225372a6ccf9d970ad08dd156b697a82", func := "skewback/skewbacklaw08.PolyFreesSquares", spec := "polyFreesSquares", unfollowed := true, recurses := true, apart := false }
def PolyFreesSquaresSaid : Prop := polyFreesSquaresRow.holds Tryz.pinned (OpenSpec.ofChange polyFreesSquaresSpec)

/-- ITS FALSE NEIGHBOUR: 'it returns false'. Refute it at one input. -/
def polyFreesSquaresWrong : ChangeSpec := { name := "polyFreesSquares", fn := fun _ => fun
  | [d1, d2] => { results := [.lit (.bool false)], args := [d1, d2] }
  | _ => none }
def PolyFreesSquaresWrongFalsely : Prop := polyFreesSquaresRow.holds Tryz.pinned (OpenSpec.ofChange polyFreesSquaresWrong)

/-- 'skewbacklaw08.PolyCountsVariations': WHATEVER THE INPUT: true; the input reads as it did. -/
def polyCountsVariationsSpec : ChangeSpec := { name := "polyCountsVariations", fn := fun _ => fun
  | [d1, d2] => { results := [.lit (.bool true)], args := [d1, d2] }
  | _ => none }
def polyCountsVariationsRow : OpenClaim := { program := "ytjdfogfmeibkgaagreat", sum := "cb0497c29b17159923158a85cae2ebde225372a6ccf9d970ad08dd156b697a82", func := "skewback/skewbacklaw08.PolyCountsVariations", spec := "polyCountsVariations", unfollowed := true, recurses := true, apart := false }
def PolyCountsVariationsSaid : Prop := polyCountsVariationsRow.holds Tryz.pinned (OpenSpec.ofChange polyCountsVariationsSpec)

/-- ITS FALSE NEIGHBOUR: 'it returns false'. Refute it at one input. -/
def polyCountsVariationsWrong : ChangeSpec := { name := "polyCountsVariations", fn := fun _ => fun
  | [d1, d2] => { results := [.lit (.bool false)], args := [d1, d2] }
  | _ => none }
def PolyCountsVariationsWrongFalsely : Prop := polyCountsVariationsRow.holds Tryz.pinned (OpenSpec.ofChange polyCountsVariationsWrong)

/-- 'skewbacklaw08.PolyValuesMatchSpec': WHATEVER THE INPUT: true; the input reads as it did. -/
def polyValuesMatchSpecSpec : ChangeSpec := { name := "polyValuesMatchSpec", fn := fun _ => fun
  | [d1, d2] => { results := [.lit (.bool true)], args := [d1, d2] }
  | _ => none }
def polyValuesMatchSpecRow : OpenClaim := { program := "ytjdfogfmeibkgaagreat", sum := "cb0497c29b17159923158a85cae2ebde225372a6ccf9d970ad08dd156b697a82", func := "skewback/skewbacklaw08.PolyValuesMatchSpec", spec := "polyValuesMatchSpec", unfollowed := true, recurses := true, apart := false }
def PolyValuesMatchSpecSaid : Prop := polyValuesMatchSpecRow.holds Tryz.pinned (OpenSpec.ofChange polyValuesMatchSpecSpec)

/-- ITS FALSE NEIGHBOUR: 'it returns false'. Refute it at one input. -/
def polyValuesMatchSpecWrong : ChangeSpec := { name := "polyValuesMatchSpec", fn := fun _ => fun
  | [d1, d2] => { results := [.lit (.bool false)], args := [d1, d2] }
  | _ => none }
def PolyValuesMatchSpecWrongFalsely : Prop := polyValuesMatchSpecRow.holds Tryz.pinned (OpenSpec.ofChange polyValuesMatchSpecWrong)

/-- 'skewbacklaw08.PolyRemains': WHATEVER THE INPUT: true; the input reads as it did. -/
def polyRemainsSpec : ChangeSpec := { name := "polyRemains", fn := fun _ => fun
  | [d1, d2, d3] => { results := [.lit (.bool true)], args := [d1, d2, d3] }
  | _ => none }
def polyRemainsRow : OpenClaim := { program := "ytjdfogfmeibkgaagreat", sum := "cb0497c29b17159923158a85cae2ebde225372a6ccf9d970ad08dd156b697a82", func := "skewback/skewbacklaw08.PolyRemains", spec := "polyRemains", unfollowed := true, recurses := true, apart := false }
def PolyRemainsSaid : Prop := polyRemainsRow.holds Tryz.pinned (OpenSpec.ofChange polyRemainsSpec)

/-- ITS FALSE NEIGHBOUR: 'it returns false'. Refute it at one input. -/
def polyRemainsWrong : ChangeSpec := { name := "polyRemains", fn := fun _ => fun
  | [d1, d2, d3] => { results := [.lit (.bool false)], args := [d1, d2, d3] }
  | _ => none }
def PolyRemainsWrongFalsely : Prop := polyRemainsRow.holds Tryz.pinned (OpenSpec.ofChange polyRemainsWrong)

/-- 'skewbacklaw08.PolySumsMatchSpec': WHATEVER THE INPUT: true; the input reads as it did. -/
def polySumsMatchSpecSpec : ChangeSpec := { name := "polySumsMatchSpec", fn := fun _ => fun
  | [d1, d2, d3] => { results := [.lit (.bool true)], args := [d1, d2, d3] }
  | _ => none }
def polySumsMatchSpecRow : OpenClaim := { program := "ytjdfogfmeibkgaagreat", sum := "cb0497c29b17159923158a85cae2ebde225372a6ccf9d970ad08dd156b697a82", func := "skewback/skewbacklaw08.PolySumsMatchSpec", spec := "polySumsMatchSpec", unfollowed := true, recurses := true, apart := false }
def PolySumsMatchSpecSaid : Prop := polySumsMatchSpecRow.holds Tryz.pinned (OpenSpec.ofChange polySumsMatchSpecSpec)

/-- ITS FALSE NEIGHBOUR: 'it returns false'. Refute it at one input. -/
def polySumsMatchSpecWrong : ChangeSpec := { name := "polySumsMatchSpec", fn := fun _ => fun
  | [d1, d2, d3] => { results := [.lit (.bool false)], args := [d1, d2, d3] }
  | _ => none }
def PolySumsMatchSpecWrongFalsely : Prop := polySumsMatchSpecRow.holds Tryz.pinned (OpenSpec.ofChange polySumsMatchSpecWrong)

/-- 'skewbacklaw08.PolyIsARing': WHATEVER THE INPUT: true; the input reads as it did. -/
def polyIsARingSpec : ChangeSpec := { name := "polyIsARing", fn := fun _ => fun
  | [d1, d2, d3, d4] => { results := [.lit (.bool true)], args := [d1, d2, d3, d4] }
  | _ => none }
def polyIsARingRow : OpenClaim := { program := "ytjdfogfmeibkgaagreat", sum := "cb0497c29b17159923158a85cae2ebde225372a6ccf9d970ad08dd156b697a82", func := "skewback/skewbacklaw08.PolyIsARing", spec := "polyIsARing", unfollowed := true, recurses := true, apart := false }
def PolyIsARingSaid : Prop := polyIsARingRow.holds Tryz.pinned (OpenSpec.ofChange polyIsARingSpec)

/-- ITS FALSE NEIGHBOUR: 'it returns false'. Refute it at one input. -/
def polyIsARingWrong : ChangeSpec := { name := "polyIsARing", fn := fun _ => fun
  | [d1, d2, d3, d4] => { results := [.lit (.bool false)], args := [d1, d2, d3, d4] }
  | _ => none }
def PolyIsARingWrongFalsely : Prop := polyIsARingRow.holds Tryz.pinned (OpenSpec.ofChange polyIsARingWrong)

/-- 'skewbacklaw08.PolyComposes': WHATEVER THE INPUT: true; the input reads as it did. -/
def polyComposesSpec : ChangeSpec := { name := "polyComposes", fn := fun _ => fun
  | [d1, d2, d3, d4] => { results := [.lit (.bool true)], args := [d1, d2, d3, d4] }
  | _ => none }
def polyComposesRow : OpenClaim := { program := "ytjdfogfmeibkgaagreat", sum := "cb0497c29b17159923158a85cae2ebde225372a6ccf9d970ad08dd156b697a82", func := "skewback/skewbacklaw08.PolyComposes", spec := "polyComposes", unfollowed := true, recurses := true, apart := false }
def PolyComposesSaid : Prop := polyComposesRow.holds Tryz.pinned (OpenSpec.ofChange polyComposesSpec)

/-- ITS FALSE NEIGHBOUR: 'it returns false'. Refute it at one input. -/
def polyComposesWrong : ChangeSpec := { name := "polyComposes", fn := fun _ => fun
  | [d1, d2, d3, d4] => { results := [.lit (.bool false)], args := [d1, d2, d3, d4] }
  | _ => none }
def PolyComposesWrongFalsely : Prop := polyComposesRow.holds Tryz.pinned (OpenSpec.ofChange polyComposesWrong)

/-- 'skewbacklaw08.PolyIsBounded': WHATEVER THE INPUT: true; the input reads as it did. -/
def polyIsBoundedSpec : ChangeSpec := { name := "polyIsBounded", fn := fun _ => fun
  | [d1, d2, d3, d4] => { results := [.lit (.bool true)], args := [d1, d2, d3, d4] }
  | _ => none }
def polyIsBoundedRow : OpenClaim := { program := "ytjdfogfmeibkgaagreat", sum := "cb0497c29b17159923158a85cae2ebde225372a6ccf9d970ad08dd156b697a82", func := "skewback/skewbacklaw08.PolyIsBounded", spec := "polyIsBounded", unfollowed := true, recurses := true, apart := false }
def PolyIsBoundedSaid : Prop := polyIsBoundedRow.holds Tryz.pinned (OpenSpec.ofChange polyIsBoundedSpec)

/-- ITS FALSE NEIGHBOUR: 'it returns false'. Refute it at one input. -/
def polyIsBoundedWrong : ChangeSpec := { name := "polyIsBounded", fn := fun _ => fun
  | [d1, d2, d3, d4] => { results := [.lit (.bool false)], args := [d1, d2, d3, d4] }
  | _ => none }
def PolyIsBoundedWrongFalsely : Prop := polyIsBoundedRow.holds Tryz.pinned (OpenSpec.ofChange polyIsBoundedWrong)

/- THE SECOND FORM. 'bulk': how many values and letters a reading holds, each counted each time it is reached (what is shared counts as often as it is met; a slice's spare places count too). A statement '..UptoSaid' is the law's where the arguments, and the package variables that the reading takes, are together of bulk at most 1048576: NARROWER than '..Said'. Prove '..Said' where nothing that the law and all that it calls make is longer than what came in: it says more and counts as full. Else prove '..UptoSaid'. A law counts once. -/
mutual
def uptoBulk {H : Type} : DataW H → Nat
  | .lit (.string bytes) => bytes.length + 1
  | .lit _ => 1
  | .nil => 1
  | .ptr d => uptoBulk d + 1
  | .slice elems spare => uptoBulkAll elems + uptoBulkAll spare + 1
  | .agg parts => uptoBulkAll parts + 1
  | .iface _ d => uptoBulk d + 1
  | .map entries => uptoBulkEntries entries + 1
  | .held _ => 1
def uptoBulkAll {H : Type} : List (DataW H) → Nat
  | [] => 0
  | d :: r => uptoBulk d + uptoBulkAll r
def uptoBulkEntries {H : Type} : List (Lit × DataW H) → Nat
  | [] => 0
  | x :: r => uptoBulkEntry x + uptoBulkEntries r
def uptoBulkEntry {H : Type} : Lit × DataW H → Nat
  | (.string bytes, d) => bytes.length + uptoBulk d + 1
  | (_, d) => uptoBulk d + 1
 end
def uptoSmall : (H : Type) → List (DataW H) → Bool := fun _ ds => decide (uptoBulkAll ds ≤ 1048576)
def OpenSpec.upto (s : _root_.Go.ChangeSpec) : _root_.Go.OpenSpec := { _root_.Go.OpenSpec.ofChange s with cond := some uptoSmall }

/-- 'skewbacklaw08.PolyMakesAsSpecified', WHERE WHAT IT READS IS OF BULK AT MOST 1048576: true; the input reads as it did. -/
def polyMakesAsSpecifiedUptoRow : OpenClaim := { program := "ytjdfogfmeibkgaagreat", sum := "cb0497c29b17159923158a85cae2ebde225372a6ccf9d970ad08dd156b697a82", func := "skewback/skewbacklaw08.PolyMakesAsSpecified", spec := "polyMakesAsSpecified", unfollowed := true, recurses := true, apart := false, narrowed := true }
def PolyMakesAsSpecifiedUptoSaid : Prop := polyMakesAsSpecifiedUptoRow.holds Tryz.pinned (OpenSpec.upto polyMakesAsSpecifiedSpec)

/-- 'skewbacklaw08.PolyDividesAsSpecified', WHERE WHAT IT READS IS OF BULK AT MOST 1048576: true; the input reads as it did. -/
def polyDividesAsSpecifiedUptoRow : OpenClaim := { program := "ytjdfogfmeibkgaagreat", sum := "cb0497c29b17159923158a85cae2ebde225372a6ccf9d970ad08dd156b697a82", func := "skewback/skewbacklaw08.PolyDividesAsSpecified", spec := "polyDividesAsSpecified", unfollowed := true, recurses := true, apart := false, narrowed := true }
def PolyDividesAsSpecifiedUptoSaid : Prop := polyDividesAsSpecifiedUptoRow.holds Tryz.pinned (OpenSpec.upto polyDividesAsSpecifiedSpec)

/-- 'skewbacklaw08.PolyFindsCommonFactors', WHERE WHAT IT READS IS OF BULK AT MOST 1048576: true; the input reads as it did. -/
def polyFindsCommonFactorsUptoRow : OpenClaim := { program := "ytjdfogfmeibkgaagreat", sum := "cb0497c29b17159923158a85cae2ebde225372a6ccf9d970ad08dd156b697a82", func := "skewback/skewbacklaw08.PolyFindsCommonFactors", spec := "polyFindsCommonFactors", unfollowed := true, recurses := true, apart := false, narrowed := true }
def PolyFindsCommonFactorsUptoSaid : Prop := polyFindsCommonFactorsUptoRow.holds Tryz.pinned (OpenSpec.upto polyFindsCommonFactorsSpec)

/-- 'skewbacklaw08.PolyFreesSquares', WHERE WHAT IT READS IS OF BULK AT MOST 1048576: true; the input reads as it did. -/
def polyFreesSquaresUptoRow : OpenClaim := { program := "ytjdfogfmeibkgaagreat", sum := "cb0497c29b17159923158a85cae2ebde225372a6ccf9d970ad08dd156b697a82", func := "skewback/skewbacklaw08.PolyFreesSquares", spec := "polyFreesSquares", unfollowed := true, recurses := true, apart := false, narrowed := true }
def PolyFreesSquaresUptoSaid : Prop := polyFreesSquaresUptoRow.holds Tryz.pinned (OpenSpec.upto polyFreesSquaresSpec)

/-- 'skewbacklaw08.PolyCountsVariations', WHERE WHAT IT READS IS OF BULK AT MOST 1048576: true; the input reads as it did. -/
def polyCountsVariationsUptoRow : OpenClaim := { program := "ytjdfogfmeibkgaagreat", sum := "cb0497c29b17159923158a85cae2ebde225372a6ccf9d970ad08dd156b697a82", func := "skewback/skewbacklaw08.PolyCountsVariations", spec := "polyCountsVariations", unfollowed := true, recurses := true, apart := false, narrowed := true }
def PolyCountsVariationsUptoSaid : Prop := polyCountsVariationsUptoRow.holds Tryz.pinned (OpenSpec.upto polyCountsVariationsSpec)

/-- 'skewbacklaw08.PolyValuesMatchSpec', WHERE WHAT IT READS IS OF BULK AT MOST 1048576: true; the input reads as it did. -/
def polyValuesMatchSpecUptoRow : OpenClaim := { program := "ytjdfogfmeibkgaagreat", sum := "cb0497c29b17159923158a85cae2ebde225372a6ccf9d970ad08dd156b697a82", func := "skewback/skewbacklaw08.PolyValuesMatchSpec", spec := "polyValuesMatchSpec", unfollowed := true, recurses := true, apart := false, narrowed := true }
def PolyValuesMatchSpecUptoSaid : Prop := polyValuesMatchSpecUptoRow.holds Tryz.pinned (OpenSpec.upto polyValuesMatchSpecSpec)

/-- 'skewbacklaw08.PolyRemains', WHERE WHAT IT READS IS OF BULK AT MOST 1048576: true; the input reads as it did. -/
def polyRemainsUptoRow : OpenClaim := { program := "ytjdfogfmeibkgaagreat", sum := "cb0497c29b17159923158a85cae2ebde225372a6ccf9d970ad08dd156b697a82", func := "skewback/skewbacklaw08.PolyRemains", spec := "polyRemains", unfollowed := true, recurses := true, apart := false, narrowed := true }
def PolyRemainsUptoSaid : Prop := polyRemainsUptoRow.holds Tryz.pinned (OpenSpec.upto polyRemainsSpec)

/-- 'skewbacklaw08.PolySumsMatchSpec', WHERE WHAT IT READS IS OF BULK AT MOST 1048576: true; the input reads as it did. -/
def polySumsMatchSpecUptoRow : OpenClaim := { program := "ytjdfogfmeibkgaagreat", sum := "cb0497c29b17159923158a85cae2ebde225372a6ccf9d970ad08dd156b697a82", func := "skewback/skewbacklaw08.PolySumsMatchSpec", spec := "polySumsMatchSpec", unfollowed := true, recurses := true, apart := false, narrowed := true }
def PolySumsMatchSpecUptoSaid : Prop := polySumsMatchSpecUptoRow.holds Tryz.pinned (OpenSpec.upto polySumsMatchSpecSpec)

/-- 'skewbacklaw08.PolyIsARing', WHERE WHAT IT READS IS OF BULK AT MOST 1048576: true; the input reads as it did. -/
def polyIsARingUptoRow : OpenClaim := { program := "ytjdfogfmeibkgaagreat", sum := "cb0497c29b17159923158a85cae2ebde225372a6ccf9d970ad08dd156b697a82", func := "skewback/skewbacklaw08.PolyIsARing", spec := "polyIsARing", unfollowed := true, recurses := true, apart := false, narrowed := true }
def PolyIsARingUptoSaid : Prop := polyIsARingUptoRow.holds Tryz.pinned (OpenSpec.upto polyIsARingSpec)

/-- 'skewbacklaw08.PolyComposes', WHERE WHAT IT READS IS OF BULK AT MOST 1048576: true; the input reads as it did. -/
def polyComposesUptoRow : OpenClaim := { program := "ytjdfogfmeibkgaagreat", sum := "cb0497c29b17159923158a85cae2ebde225372a6ccf9d970ad08dd156b697a82", func := "skewback/skewbacklaw08.PolyComposes", spec := "polyComposes", unfollowed := true, recurses := true, apart := false, narrowed := true }
def PolyComposesUptoSaid : Prop := polyComposesUptoRow.holds Tryz.pinned (OpenSpec.upto polyComposesSpec)

/-- 'skewbacklaw08.PolyIsBounded', WHERE WHAT IT READS IS OF BULK AT MOST 1048576: true; the input reads as it did. -/
def polyIsBoundedUptoRow : OpenClaim := { program := "ytjdfogfmeibkgaagreat", sum := "cb0497c29b17159923158a85cae2ebde225372a6ccf9d970ad08dd156b697a82", func := "skewback/skewbacklaw08.PolyIsBounded", spec := "polyIsBounded", unfollowed := true, recurses := true, apart := false, narrowed := true }
def PolyIsBoundedUptoSaid : Prop := polyIsBoundedUptoRow.holds Tryz.pinned (OpenSpec.upto polyIsBoundedSpec)

end Rows
end Go.Proofs.YtjdfogfmeibkgaaGreat
