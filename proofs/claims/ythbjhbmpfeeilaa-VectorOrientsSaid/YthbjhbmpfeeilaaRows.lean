/-
  No cell of these rows narrows 'for every input' (looked for: loops, veiled, ifaces, maps, wideKeys, modest, calm, conditions, laid).
  DERIVED. THE GIVEN ROWS OF THIS SEAT. 6 by the template 'for every input the law returns true; each argument reads behind the call as it read before'; 0 by the template 'total and deterministic' (their statements: YthbjhbmpfeeilaaTotals.lean).
  GIVEN WITH THE SEED: the statements are not yours to turn. If you find one false, say at which input.
  Laid BY PROGRAM, IN A SANDBOX (cutbox-rows.mjs): the forced cells as the released guide's own fill.sh prints them over the translation 9dc353da7ab9abd0… (all of the seat's roots in one cut). By AI agents, Wed Nov 11 2026. No macro, syntax, notation, axiom, sorry.
-/
import Derived.Test.YthbjhbmpfeeilaaChecked
import GoSem.Claim
import GoSem.ClaimJoined
import GoSem.ClaimMapViews
import Derived.JoinedTies
import Derived.KernelRfl
namespace Go.Proofs.Ythbjhbmpfeeilaa
/- THE CELL 'sum', in the pinned program and in every row, IS THE sha256 OF THE DUMP (.gsa) THAT YthbjhbmpfeeilaaProg.lean LOADS. Nothing in Lean hashes anything: it is a label: what it is worth is what the hold of that sum in a sandbox is worth. -/
noncomputable def Try.pinned : Pinned := { name := "ythbjhbmpfeeilaa", sum := "9dc353da7ab9abd0381153c7266f69d6f61f763d094efd4119cdee7a204c9072", checked := Try.checked }
namespace Rows
def none {H : Type} : Left H := { results := [], args := [] }

/-- 'skewbacklaw06.VectorProductsMatchSpec': WHATEVER THE INPUT: true; the input reads as it did. -/
def vectorProductsMatchSpecSpec : ChangeSpec := { name := "vectorProductsMatchSpec", fn := fun _ => fun
  | [d1, d2] => { results := [.lit (.bool true)], args := [d1, d2] }
  | _ => none }
def vectorProductsMatchSpecRow : OpenClaim := { program := "ythbjhbmpfeeilaa", sum := "9dc353da7ab9abd0381153c7266f69d6f61f763d094efd4119cdee7a204c9072", func := "skewback/skewbacklaw06.VectorProductsMatchSpec", spec := "vectorProductsMatchSpec", unfollowed := true, recurses := true, apart := false }
def VectorProductsMatchSpecSaid : Prop := vectorProductsMatchSpecRow.holds Try.pinned (OpenSpec.ofChange vectorProductsMatchSpecSpec)

/-- ITS FALSE NEIGHBOUR: 'it returns false'. Refute it at one input. -/
def vectorProductsMatchSpecWrong : ChangeSpec := { name := "vectorProductsMatchSpec", fn := fun _ => fun
  | [d1, d2] => { results := [.lit (.bool false)], args := [d1, d2] }
  | _ => none }
def VectorProductsMatchSpecWrongFalsely : Prop := vectorProductsMatchSpecRow.holds Try.pinned (OpenSpec.ofChange vectorProductsMatchSpecWrong)

/-- 'skewbacklaw06.VectorPrimitivesMatchSpec': WHATEVER THE INPUT: true; the input reads as it did. -/
def vectorPrimitivesMatchSpecSpec : ChangeSpec := { name := "vectorPrimitivesMatchSpec", fn := fun _ => fun
  | [d] => { results := [.lit (.bool true)], args := [d] }
  | _ => none }
def vectorPrimitivesMatchSpecRow : OpenClaim := { program := "ythbjhbmpfeeilaa", sum := "9dc353da7ab9abd0381153c7266f69d6f61f763d094efd4119cdee7a204c9072", func := "skewback/skewbacklaw06.VectorPrimitivesMatchSpec", spec := "vectorPrimitivesMatchSpec", unfollowed := true, recurses := true, apart := false }
def VectorPrimitivesMatchSpecSaid : Prop := vectorPrimitivesMatchSpecRow.holds Try.pinned (OpenSpec.ofChange vectorPrimitivesMatchSpecSpec)

/-- ITS FALSE NEIGHBOUR: 'it returns false'. Refute it at one input. -/
def vectorPrimitivesMatchSpecWrong : ChangeSpec := { name := "vectorPrimitivesMatchSpec", fn := fun _ => fun
  | [d] => { results := [.lit (.bool false)], args := [d] }
  | _ => none }
def VectorPrimitivesMatchSpecWrongFalsely : Prop := vectorPrimitivesMatchSpecRow.holds Try.pinned (OpenSpec.ofChange vectorPrimitivesMatchSpecWrong)

/-- 'skewbacklaw06.VectorTangentsMatchSpec': WHATEVER THE INPUT: true; the input reads as it did. -/
def vectorTangentsMatchSpecSpec : ChangeSpec := { name := "vectorTangentsMatchSpec", fn := fun _ => fun
  | [d] => { results := [.lit (.bool true)], args := [d] }
  | _ => none }
def vectorTangentsMatchSpecRow : OpenClaim := { program := "ythbjhbmpfeeilaa", sum := "9dc353da7ab9abd0381153c7266f69d6f61f763d094efd4119cdee7a204c9072", func := "skewback/skewbacklaw06.VectorTangentsMatchSpec", spec := "vectorTangentsMatchSpec", unfollowed := true, recurses := true, apart := false }
def VectorTangentsMatchSpecSaid : Prop := vectorTangentsMatchSpecRow.holds Try.pinned (OpenSpec.ofChange vectorTangentsMatchSpecSpec)

/-- ITS FALSE NEIGHBOUR: 'it returns false'. Refute it at one input. -/
def vectorTangentsMatchSpecWrong : ChangeSpec := { name := "vectorTangentsMatchSpec", fn := fun _ => fun
  | [d] => { results := [.lit (.bool false)], args := [d] }
  | _ => none }
def VectorTangentsMatchSpecWrongFalsely : Prop := vectorTangentsMatchSpecRow.holds Try.pinned (OpenSpec.ofChange vectorTangentsMatchSpecWrong)

/-- 'skewbacklaw06.VectorOrients': WHATEVER THE INPUT: true; the input reads as it did. -/
def vectorOrientsSpec : ChangeSpec := { name := "vectorOrients", fn := fun _ => fun
  | [d1, d2, d3, d4, d5] => { results := [.lit (.bool true)], args := [d1, d2, d3, d4, d5] }
  | _ => none }
def vectorOrientsRow : OpenClaim := { program := "ythbjhbmpfeeilaa", sum := "9dc353da7ab9abd0381153c7266f69d6f61f763d094efd4119cdee7a204c9072", func := "skewback/skewbacklaw06.VectorOrients", spec := "vectorOrients", unfollowed := true, recurses := true, apart := false }
def VectorOrientsSaid : Prop := vectorOrientsRow.holds Try.pinned (OpenSpec.ofChange vectorOrientsSpec)

/-- ITS FALSE NEIGHBOUR: 'it returns false'. Refute it at one input. -/
def vectorOrientsWrong : ChangeSpec := { name := "vectorOrients", fn := fun _ => fun
  | [d1, d2, d3, d4, d5] => { results := [.lit (.bool false)], args := [d1, d2, d3, d4, d5] }
  | _ => none }
def VectorOrientsWrongFalsely : Prop := vectorOrientsRow.holds Try.pinned (OpenSpec.ofChange vectorOrientsWrong)

/-- 'skewbacklaw06.VectorSumsMatchSpec': WHATEVER THE INPUT: true; the input reads as it did. -/
def vectorSumsMatchSpecSpec : ChangeSpec := { name := "vectorSumsMatchSpec", fn := fun _ => fun
  | [d1, d2] => { results := [.lit (.bool true)], args := [d1, d2] }
  | _ => none }
def vectorSumsMatchSpecRow : OpenClaim := { program := "ythbjhbmpfeeilaa", sum := "9dc353da7ab9abd0381153c7266f69d6f61f763d094efd4119cdee7a204c9072", func := "skewback/skewbacklaw06.VectorSumsMatchSpec", spec := "vectorSumsMatchSpec", unfollowed := true, recurses := true, apart := false }
def VectorSumsMatchSpecSaid : Prop := vectorSumsMatchSpecRow.holds Try.pinned (OpenSpec.ofChange vectorSumsMatchSpecSpec)

/-- ITS FALSE NEIGHBOUR: 'it returns false'. Refute it at one input. -/
def vectorSumsMatchSpecWrong : ChangeSpec := { name := "vectorSumsMatchSpec", fn := fun _ => fun
  | [d1, d2] => { results := [.lit (.bool false)], args := [d1, d2] }
  | _ => none }
def VectorSumsMatchSpecWrongFalsely : Prop := vectorSumsMatchSpecRow.holds Try.pinned (OpenSpec.ofChange vectorSumsMatchSpecWrong)

/-- 'skewbacklaw06.VectorLagrange': WHATEVER THE INPUT: true; the input reads as it did. -/
def vectorLagrangeSpec : ChangeSpec := { name := "vectorLagrange", fn := fun _ => fun
  | [d1, d2] => { results := [.lit (.bool true)], args := [d1, d2] }
  | _ => none }
def vectorLagrangeRow : OpenClaim := { program := "ythbjhbmpfeeilaa", sum := "9dc353da7ab9abd0381153c7266f69d6f61f763d094efd4119cdee7a204c9072", func := "skewback/skewbacklaw06.VectorLagrange", spec := "vectorLagrange", unfollowed := true, recurses := true, apart := false }
def VectorLagrangeSaid : Prop := vectorLagrangeRow.holds Try.pinned (OpenSpec.ofChange vectorLagrangeSpec)

/-- ITS FALSE NEIGHBOUR: 'it returns false'. Refute it at one input. -/
def vectorLagrangeWrong : ChangeSpec := { name := "vectorLagrange", fn := fun _ => fun
  | [d1, d2] => { results := [.lit (.bool false)], args := [d1, d2] }
  | _ => none }
def VectorLagrangeWrongFalsely : Prop := vectorLagrangeRow.holds Try.pinned (OpenSpec.ofChange vectorLagrangeWrong)

/- THE SECOND FORM. 'bulk': how many values and letters a reading holds, each counted each time it is reached (what is shared counts as often as it is met; a slice's spare places count too). A statement '..UptoSaid' is the law's where the arguments, and the package variables that the reading takes, are together of bulk at most 1048576: NARROWER than '..Said'. Prove '..Said' where nothing that the law and all that it calls make is longer than what came in: it says more and counts as full. Else prove '..UptoSaid'. A law counts once. -/
mutual
def uptoBulk {H : Type} : DataW H → Nat
  | .lit (.string bytes) => bytes.length + 1
  | .lit _ => 1
  | .nil => 1
  | .ptr d => uptoBulk d + 1
  | .slice elems spare => uptoBulkAll elems + uptoBulkAll spare + 1
  | .agg parts => uptoBulkAll parts + 1
  | .iface _ d => uptoBulk d + 1
  | .map entries => uptoBulkEntries entries + 1
  | .held _ => 1
def uptoBulkAll {H : Type} : List (DataW H) → Nat
  | [] => 0
  | d :: r => uptoBulk d + uptoBulkAll r
def uptoBulkEntries {H : Type} : List (Lit × DataW H) → Nat
  | [] => 0
  | x :: r => uptoBulkEntry x + uptoBulkEntries r
def uptoBulkEntry {H : Type} : Lit × DataW H → Nat
  | (.string bytes, d) => bytes.length + uptoBulk d + 1
  | (_, d) => uptoBulk d + 1
 end
def uptoSmall : (H : Type) → List (DataW H) → Bool := fun _ ds => decide (uptoBulkAll ds ≤ 1048576)
def OpenSpec.upto (s : _root_.Go.ChangeSpec) : _root_.Go.OpenSpec := { _root_.Go.OpenSpec.ofChange s with cond := some uptoSmall }

/-- 'skewbacklaw06.VectorProductsMatchSpec', WHERE WHAT IT READS IS OF BULK AT MOST 1048576: true; the input reads as it did. -/
def vectorProductsMatchSpecUptoRow : OpenClaim := { program := "ythbjhbmpfeeilaa", sum := "9dc353da7ab9abd0381153c7266f69d6f61f763d094efd4119cdee7a204c9072", func := "skewback/skewbacklaw06.VectorProductsMatchSpec", spec := "vectorProductsMatchSpec", unfollowed := true, recurses := true, apart := false, narrowed := true }
def VectorProductsMatchSpecUptoSaid : Prop := vectorProductsMatchSpecUptoRow.holds Try.pinned (OpenSpec.upto vectorProductsMatchSpecSpec)

/-- 'skewbacklaw06.VectorPrimitivesMatchSpec', WHERE WHAT IT READS IS OF BULK AT MOST 1048576: true; the input reads as it did. -/
def vectorPrimitivesMatchSpecUptoRow : OpenClaim := { program := "ythbjhbmpfeeilaa", sum := "9dc353da7ab9abd0381153c7266f69d6f61f763d094efd4119cdee7a204c9072", func := "skewback/skewbacklaw06.VectorPrimitivesMatchSpec", spec := "vectorPrimitivesMatchSpec", unfollowed := true, recurses := true, apart := false, narrowed := true }
def VectorPrimitivesMatchSpecUptoSaid : Prop := vectorPrimitivesMatchSpecUptoRow.holds Try.pinned (OpenSpec.upto vectorPrimitivesMatchSpecSpec)

/-- 'skewbacklaw06.VectorTangentsMatchSpec', WHERE WHAT IT READS IS OF BULK AT MOST 1048576: true; the input reads as it did. -/
def vectorTangentsMatchSpecUptoRow : OpenClaim := { program := "ythbjhbmpfeeilaa", sum := "9dc353da7ab9abd0381153c7266f69d6f61f763d094efd4119cdee7a204c9072", func := "skewback/skewbacklaw06.VectorTangentsMatchSpec", spec := "vectorTangentsMatchSpec", unfollowed := true, recurses := true, apart := false, narrowed := true }
def VectorTangentsMatchSpecUptoSaid : Prop := vectorTangentsMatchSpecUptoRow.holds Try.pinned (OpenSpec.upto vectorTangentsMatchSpecSpec)

/-- 'skewbacklaw06.VectorOrients', WHERE WHAT IT READS IS OF BULK AT MOST 1048576: true; the input reads as it did. -/
def vectorOrientsUptoRow : OpenClaim := { program := "ythbjhbmpfeeilaa", sum := "9dc353da7ab9abd0381153c7266f69d6f61f763d094efd4119cdee7a204c9072", func := "skewback/skewbacklaw06.VectorOrients", spec := "vectorOrients", unfollowed := true, recurses := true, apart := false, narrowed := true }
def VectorOrientsUptoSaid : Prop := vectorOrientsUptoRow.holds Try.pinned (OpenSpec.upto vectorOrientsSpec)

/-- 'skewbacklaw06.VectorSumsMatchSpec', WHERE WHAT IT READS IS OF BULK AT MOST 1048576: true; the input reads as it did. -/
def vectorSumsMatchSpecUptoRow : OpenClaim := { program := "ythbjhbmpfeeilaa", sum := "9dc353da7ab9abd0381153c7266f69d6f61f763d094efd4119cdee7a204c9072", func := "skewback/skewbacklaw06.VectorSumsMatchSpec", spec := "vectorSumsMatchSpec", unfollowed := true, recurses := true, apart := false, narrowed := true }
def VectorSumsMatchSpecUptoSaid : Prop := vectorSumsMatchSpecUptoRow.holds Try.pinned (OpenSpec.upto vectorSumsMatchSpecSpec)

/-- 'skewbacklaw06.VectorLagrange', WHERE WHAT IT READS IS OF BULK AT MOST 1048576: true; the input reads as it did. -/
def vectorLagrangeUptoRow : OpenClaim := { program := "ythbjhbmpfeeilaa", sum := "9dc353da7ab9abd0381153c7266f69d6f61f763d094efd4119cdee7a204c9072", func := "skewback/skewbacklaw06.VectorLagrange", spec := "vectorLagrange", unfollowed := true, recurses := true, apart := false, narrowed := true }
def VectorLagrangeUptoSaid : Prop := vectorLagrangeUptoRow.holds Try.pinned (OpenSpec.upto vectorLagrangeSpec)

end Rows
end Go.Proofs.Ythbjhbmpfeeilaa
