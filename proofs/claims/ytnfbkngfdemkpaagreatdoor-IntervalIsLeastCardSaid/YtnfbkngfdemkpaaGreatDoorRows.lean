/-
  NARROWER THAN 'FOR EVERY INPUT', by the rows' own cells (each row's printed sentence says how): IntervalSetsAsSpecified: laid · IntervalIsMonotone: laid · IntervalSetsAgree: laid · IntervalIsLeast: laid · IntervalComputesAsSpecified: laid · IntervalIncludes: laid · IntervalWidens: laid.
  DERIVED. THE GIVEN ROWS OF THIS SEAT. 7 by the template 'for every input the law returns true; each argument reads behind the call as it read before'; 0 by the template 'total and deterministic' (their statements: YtnfbkngfdemkpaaGreatDoorTotals.lean).
  GIVEN WITH THE SEED: the statements are not yours to turn. If you find one false, say at which input.
  Laid BY PROGRAM, IN A SANDBOX (cutbox-rows.mjs): the forced cells as the released guide's own fill.sh prints them over the translation 6e676ade8a15813d… (all of the seat's roots in one cut). By AI agents, Wed Nov 11 2026. No macro, syntax, notation, axiom, sorry.
-/
import Derived.Test.YtnfbkngfdemkpaaGreatDoorChecked
import GoSem.Claim
import GoSem.ClaimJoined
import GoSem.ClaimMapViews
import Derived.JoinedTies
import Derived.KernelRfl
namespace Go.Proofs.YtnfbkngfdemkpaaGreatDoor
/- THE CELL 'sum', in the pinned program and in every row, IS THE sha256 OF THE DUMP (.gsa) THAT YtnfbkngfdemkpaaGreatDoorProg.lean LOADS. Nothing in Lean hashes anything: it is a label: what it is worth is what the hold of that sum in a sandbox is worth. -/
noncomputable def Tryz.pinned : Pinned := { name := "ytnfbkngfdemkpaagreatdoor", sum := "6e676ade8a15813de5cb4845792e705bb45a01643ea028abb00c7d6efbaa00b7", checked := Tryz.checked }
namespace Rows
def none {H : Type} : Left H := { results := [], args := [] }

/- WHAT THE LISTED PACKAGE-LEVEL VARIABLES READ AS WHEN THE CALL BEGINS. Each datum BY PROGRAM (the guide's laid-datum.mjs) off the statement by which the dump's own 'gosem.cut.vars' lays the variable. In a bare row this is a premise. The card (YtnfbkngfdemkpaaGreatDoorCards.lean) ties it to the program's text. -/
def laid_math_bits_deBruijn32tab {H : Type} : DataW H := .agg [.lit (.int .u8 0), .lit (.int .u8 1), .lit (.int .u8 28), .lit (.int .u8 2), .lit (.int .u8 29), .lit (.int .u8 14), .lit (.int .u8 24), .lit (.int .u8 3), .lit (.int .u8 30), .lit (.int .u8 22), .lit (.int .u8 20), .lit (.int .u8 15), .lit (.int .u8 25), .lit (.int .u8 17), .lit (.int .u8 4), .lit (.int .u8 8), .lit (.int .u8 31), .lit (.int .u8 27), .lit (.int .u8 13), .lit (.int .u8 23), .lit (.int .u8 21), .lit (.int .u8 19), .lit (.int .u8 16), .lit (.int .u8 7), .lit (.int .u8 26), .lit (.int .u8 12), .lit (.int .u8 18), .lit (.int .u8 6), .lit (.int .u8 11), .lit (.int .u8 5), .lit (.int .u8 10), .lit (.int .u8 9)]

/-- 'skewbacklaw05.IntervalSetsAsSpecified': WHATEVER THE INPUT: true; the input reads as it did. -/
def intervalSetsAsSpecifiedSpec : ChangeSpec := { name := "intervalSetsAsSpecified", fn := fun _ => fun
  | [d1, d2, d3] => { results := [.lit (.bool true)], args := [d1, d2, d3] }
  | _ => none }
def intervalSetsAsSpecifiedRow : OpenClaim := { program := "ytnfbkngfdemkpaagreatdoor", sum := "6e676ade8a15813de5cb4845792e705bb45a01643ea028abb00c7d6efbaa00b7", func := "skewback/skewbacklaw05.IntervalSetsAsSpecified", spec := "intervalSetsAsSpecified", unfollowed := true, recurses := true, named := ["math/bits.deBruijn32tab"], apart := false, laid := [("math/bits.deBruijn32tab", laid_math_bits_deBruijn32tab)] }
def IntervalSetsAsSpecifiedSaid : Prop := intervalSetsAsSpecifiedRow.holds Tryz.pinned (OpenSpec.ofChange intervalSetsAsSpecifiedSpec)

/-- ITS FALSE NEIGHBOUR: 'it returns false'. Refute it at one input. -/
def intervalSetsAsSpecifiedWrong : ChangeSpec := { name := "intervalSetsAsSpecified", fn := fun _ => fun
  | [d1, d2, d3] => { results := [.lit (.bool false)], args := [d1, d2, d3] }
  | _ => none }
def IntervalSetsAsSpecifiedWrongFalsely : Prop := intervalSetsAsSpecifiedRow.holds Tryz.pinned (OpenSpec.ofChange intervalSetsAsSpecifiedWrong)

/-- 'skewbacklaw05.IntervalIsMonotone': WHATEVER THE INPUT: true; the input reads as it did. -/
def intervalIsMonotoneSpec : ChangeSpec := { name := "intervalIsMonotone", fn := fun _ => fun
  | [d1, d2, d3, d4, d5] => { results := [.lit (.bool true)], args := [d1, d2, d3, d4, d5] }
  | _ => none }
def intervalIsMonotoneRow : OpenClaim := { program := "ytnfbkngfdemkpaagreatdoor", sum := "6e676ade8a15813de5cb4845792e705bb45a01643ea028abb00c7d6efbaa00b7", func := "skewback/skewbacklaw05.IntervalIsMonotone", spec := "intervalIsMonotone", unfollowed := true, recurses := true, named := ["math/bits.deBruijn32tab"], apart := false, laid := [("math/bits.deBruijn32tab", laid_math_bits_deBruijn32tab)] }
def IntervalIsMonotoneSaid : Prop := intervalIsMonotoneRow.holds Tryz.pinned (OpenSpec.ofChange intervalIsMonotoneSpec)

/-- ITS FALSE NEIGHBOUR: 'it returns false'. Refute it at one input. -/
def intervalIsMonotoneWrong : ChangeSpec := { name := "intervalIsMonotone", fn := fun _ => fun
  | [d1, d2, d3, d4, d5] => { results := [.lit (.bool false)], args := [d1, d2, d3, d4, d5] }
  | _ => none }
def IntervalIsMonotoneWrongFalsely : Prop := intervalIsMonotoneRow.holds Tryz.pinned (OpenSpec.ofChange intervalIsMonotoneWrong)

/-- 'skewbacklaw05.IntervalSetsAgree': WHATEVER THE INPUT: true; the input reads as it did. -/
def intervalSetsAgreeSpec : ChangeSpec := { name := "intervalSetsAgree", fn := fun _ => fun
  | [d1, d2, d3] => { results := [.lit (.bool true)], args := [d1, d2, d3] }
  | _ => none }
def intervalSetsAgreeRow : OpenClaim := { program := "ytnfbkngfdemkpaagreatdoor", sum := "6e676ade8a15813de5cb4845792e705bb45a01643ea028abb00c7d6efbaa00b7", func := "skewback/skewbacklaw05.IntervalSetsAgree", spec := "intervalSetsAgree", unfollowed := true, recurses := true, named := ["math/bits.deBruijn32tab"], apart := false, laid := [("math/bits.deBruijn32tab", laid_math_bits_deBruijn32tab)] }
def IntervalSetsAgreeSaid : Prop := intervalSetsAgreeRow.holds Tryz.pinned (OpenSpec.ofChange intervalSetsAgreeSpec)

/-- ITS FALSE NEIGHBOUR: 'it returns false'. Refute it at one input. -/
def intervalSetsAgreeWrong : ChangeSpec := { name := "intervalSetsAgree", fn := fun _ => fun
  | [d1, d2, d3] => { results := [.lit (.bool false)], args := [d1, d2, d3] }
  | _ => none }
def IntervalSetsAgreeWrongFalsely : Prop := intervalSetsAgreeRow.holds Tryz.pinned (OpenSpec.ofChange intervalSetsAgreeWrong)

/-- 'skewbacklaw05.IntervalIsLeast': WHATEVER THE INPUT: true; the input reads as it did. -/
def intervalIsLeastSpec : ChangeSpec := { name := "intervalIsLeast", fn := fun _ => fun
  | [d1, d2] => { results := [.lit (.bool true)], args := [d1, d2] }
  | _ => none }
def intervalIsLeastRow : OpenClaim := { program := "ytnfbkngfdemkpaagreatdoor", sum := "6e676ade8a15813de5cb4845792e705bb45a01643ea028abb00c7d6efbaa00b7", func := "skewback/skewbacklaw05.IntervalIsLeast", spec := "intervalIsLeast", unfollowed := true, recurses := true, named := ["math/bits.deBruijn32tab"], apart := false, laid := [("math/bits.deBruijn32tab", laid_math_bits_deBruijn32tab)] }
def IntervalIsLeastSaid : Prop := intervalIsLeastRow.holds Tryz.pinned (OpenSpec.ofChange intervalIsLeastSpec)

/-- ITS FALSE NEIGHBOUR: 'it returns false'. Refute it at one input. -/
def intervalIsLeastWrong : ChangeSpec := { name := "intervalIsLeast", fn := fun _ => fun
  | [d1, d2] => { results := [.lit (.bool false)], args := [d1, d2] }
  | _ => none }
def IntervalIsLeastWrongFalsely : Prop := intervalIsLeastRow.holds Tryz.pinned (OpenSpec.ofChange intervalIsLeastWrong)

/-- 'skewbacklaw05.IntervalComputesAsSpecified': WHATEVER THE INPUT: true; the input reads as it did. -/
def intervalComputesAsSpecifiedSpec : ChangeSpec := { name := "intervalComputesAsSpecified", fn := fun _ => fun
  | [d1, d2, d3] => { results := [.lit (.bool true)], args := [d1, d2, d3] }
  | _ => none }
def intervalComputesAsSpecifiedRow : OpenClaim := { program := "ytnfbkngfdemkpaagreatdoor", sum := "6e676ade8a15813de5cb4845792e705bb45a01643ea028abb00c7d6efbaa00b7", func := "skewback/skewbacklaw05.IntervalComputesAsSpecified", spec := "intervalComputesAsSpecified", unfollowed := true, recurses := true, named := ["math/bits.deBruijn32tab"], apart := false, laid := [("math/bits.deBruijn32tab", laid_math_bits_deBruijn32tab)] }
def IntervalComputesAsSpecifiedSaid : Prop := intervalComputesAsSpecifiedRow.holds Tryz.pinned (OpenSpec.ofChange intervalComputesAsSpecifiedSpec)

/-- ITS FALSE NEIGHBOUR: 'it returns false'. Refute it at one input. -/
def intervalComputesAsSpecifiedWrong : ChangeSpec := { name := "intervalComputesAsSpecified", fn := fun _ => fun
  | [d1, d2, d3] => { results := [.lit (.bool false)], args := [d1, d2, d3] }
  | _ => none }
def IntervalComputesAsSpecifiedWrongFalsely : Prop := intervalComputesAsSpecifiedRow.holds Tryz.pinned (OpenSpec.ofChange intervalComputesAsSpecifiedWrong)

/-- 'skewbacklaw05.IntervalIncludes': WHATEVER THE INPUT: true; the input reads as it did. -/
def intervalIncludesSpec : ChangeSpec := { name := "intervalIncludes", fn := fun _ => fun
  | [d1, d2, d3, d4, d5] => { results := [.lit (.bool true)], args := [d1, d2, d3, d4, d5] }
  | _ => none }
def intervalIncludesRow : OpenClaim := { program := "ytnfbkngfdemkpaagreatdoor", sum := "6e676ade8a15813de5cb4845792e705bb45a01643ea028abb00c7d6efbaa00b7", func := "skewback/skewbacklaw05.IntervalIncludes", spec := "intervalIncludes", unfollowed := true, recurses := true, named := ["math/bits.deBruijn32tab"], apart := false, laid := [("math/bits.deBruijn32tab", laid_math_bits_deBruijn32tab)] }
def IntervalIncludesSaid : Prop := intervalIncludesRow.holds Tryz.pinned (OpenSpec.ofChange intervalIncludesSpec)

/-- ITS FALSE NEIGHBOUR: 'it returns false'. Refute it at one input. -/
def intervalIncludesWrong : ChangeSpec := { name := "intervalIncludes", fn := fun _ => fun
  | [d1, d2, d3, d4, d5] => { results := [.lit (.bool false)], args := [d1, d2, d3, d4, d5] }
  | _ => none }
def IntervalIncludesWrongFalsely : Prop := intervalIncludesRow.holds Tryz.pinned (OpenSpec.ofChange intervalIncludesWrong)

/-- 'skewbacklaw05.IntervalWidens': WHATEVER THE INPUT: true; the input reads as it did. -/
def intervalWidensSpec : ChangeSpec := { name := "intervalWidens", fn := fun _ => fun
  | [d1, d2] => { results := [.lit (.bool true)], args := [d1, d2] }
  | _ => none }
def intervalWidensRow : OpenClaim := { program := "ytnfbkngfdemkpaagreatdoor", sum := "6e676ade8a15813de5cb4845792e705bb45a01643ea028abb00c7d6efbaa00b7", func := "skewback/skewbacklaw05.IntervalWidens", spec := "intervalWidens", unfollowed := true, recurses := true, named := ["math/bits.deBruijn32tab"], apart := false, laid := [("math/bits.deBruijn32tab", laid_math_bits_deBruijn32tab)] }
def IntervalWidensSaid : Prop := intervalWidensRow.holds Tryz.pinned (OpenSpec.ofChange intervalWidensSpec)

/-- ITS FALSE NEIGHBOUR: 'it returns false'. Refute it at one input. -/
def intervalWidensWrong : ChangeSpec := { name := "intervalWidens", fn := fun _ => fun
  | [d1, d2] => { results := [.lit (.bool false)], args := [d1, d2] }
  | _ => none }
def IntervalWidensWrongFalsely : Prop := intervalWidensRow.holds Tryz.pinned (OpenSpec.ofChange intervalWidensWrong)

/- THE SECOND FORM. 'bulk': how many values and letters a reading holds, each counted each time it is reached (what is shared counts as often as it is met; a slice's spare places count too). A statement '..UptoSaid' is the law's where the arguments, and the package variables that the reading takes, are together of bulk at most 1048576: NARROWER than '..Said'. Prove '..Said' where nothing that the law and all that it calls make is longer than what came in: it says more and counts as full. Else prove '..UptoSaid'. A law counts once. -/
mutual
def uptoBulk {H : Type} : DataW H → Nat
  | .lit (.string bytes) => bytes.length + 1
  | .lit _ => 1
  | .nil => 1
  | .ptr d => uptoBulk d + 1
  | .slice elems spare => uptoBulkAll elems + uptoBulkAll spare + 1
  | .agg parts => uptoBulkAll parts + 1
  | .iface _ d => uptoBulk d + 1
  | .map entries => uptoBulkEntries entries + 1
  | .held _ => 1
def uptoBulkAll {H : Type} : List (DataW H) → Nat
  | [] => 0
  | d :: r => uptoBulk d + uptoBulkAll r
def uptoBulkEntries {H : Type} : List (Lit × DataW H) → Nat
  | [] => 0
  | x :: r => uptoBulkEntry x + uptoBulkEntries r
def uptoBulkEntry {H : Type} : Lit × DataW H → Nat
  | (.string bytes, d) => bytes.length + uptoBulk d + 1
  | (_, d) => uptoBulk d + 1
 end
def uptoSmall : (H : Type) → List (DataW H) → Bool := fun _ ds => decide (uptoBulkAll ds ≤ 1048576)
def OpenSpec.upto (s : _root_.Go.ChangeSpec) : _root_.Go.OpenSpec := { _root_.Go.OpenSpec.ofChange s with cond := some uptoSmall }

/-- 'skewbacklaw05.IntervalSetsAsSpecified', WHERE WHAT IT READS IS OF BULK AT MOST 1048576: true; the input reads as it did. -/
def intervalSetsAsSpecifiedUptoRow : OpenClaim := { program := "ytnfbkngfdemkpaagreatdoor", sum := "6e676ade8a15813de5cb4845792e705bb45a01643ea028abb00c7d6efbaa00b7", func := "skewback/skewbacklaw05.IntervalSetsAsSpecified", spec := "intervalSetsAsSpecified", unfollowed := true, recurses := true, named := ["math/bits.deBruijn32tab"], apart := false, laid := [("math/bits.deBruijn32tab", laid_math_bits_deBruijn32tab)], narrowed := true }
def IntervalSetsAsSpecifiedUptoSaid : Prop := intervalSetsAsSpecifiedUptoRow.holds Tryz.pinned (OpenSpec.upto intervalSetsAsSpecifiedSpec)

/-- 'skewbacklaw05.IntervalIsMonotone', WHERE WHAT IT READS IS OF BULK AT MOST 1048576: true; the input reads as it did. -/
def intervalIsMonotoneUptoRow : OpenClaim := { program := "ytnfbkngfdemkpaagreatdoor", sum := "6e676ade8a15813de5cb4845792e705bb45a01643ea028abb00c7d6efbaa00b7", func := "skewback/skewbacklaw05.IntervalIsMonotone", spec := "intervalIsMonotone", unfollowed := true, recurses := true, named := ["math/bits.deBruijn32tab"], apart := false, laid := [("math/bits.deBruijn32tab", laid_math_bits_deBruijn32tab)], narrowed := true }
def IntervalIsMonotoneUptoSaid : Prop := intervalIsMonotoneUptoRow.holds Tryz.pinned (OpenSpec.upto intervalIsMonotoneSpec)

/-- 'skewbacklaw05.IntervalSetsAgree', WHERE WHAT IT READS IS OF BULK AT MOST 1048576: true; the input reads as it did. -/
def intervalSetsAgreeUptoRow : OpenClaim := { program := "ytnfbkngfdemkpaagreatdoor", sum := "6e676ade8a15813de5cb4845792e705bb45a01643ea028abb00c7d6efbaa00b7", func := "skewback/skewbacklaw05.IntervalSetsAgree", spec := "intervalSetsAgree", unfollowed := true, recurses := true, named := ["math/bits.deBruijn32tab"], apart := false, laid := [("math/bits.deBruijn32tab", laid_math_bits_deBruijn32tab)], narrowed := true }
def IntervalSetsAgreeUptoSaid : Prop := intervalSetsAgreeUptoRow.holds Tryz.pinned (OpenSpec.upto intervalSetsAgreeSpec)

/-- 'skewbacklaw05.IntervalIsLeast', WHERE WHAT IT READS IS OF BULK AT MOST 1048576: true; the input reads as it did. -/
def intervalIsLeastUptoRow : OpenClaim := { program := "ytnfbkngfdemkpaagreatdoor", sum := "6e676ade8a15813de5cb4845792e705bb45a01643ea028abb00c7d6efbaa00b7", func := "skewback/skewbacklaw05.IntervalIsLeast", spec := "intervalIsLeast", unfollowed := true, recurses := true, named := ["math/bits.deBruijn32tab"], apart := false, laid := [("math/bits.deBruijn32tab", laid_math_bits_deBruijn32tab)], narrowed := true }
def IntervalIsLeastUptoSaid : Prop := intervalIsLeastUptoRow.holds Tryz.pinned (OpenSpec.upto intervalIsLeastSpec)

/-- 'skewbacklaw05.IntervalComputesAsSpecified', WHERE WHAT IT READS IS OF BULK AT MOST 1048576: true; the input reads as it did. -/
def intervalComputesAsSpecifiedUptoRow : OpenClaim := { program := "ytnfbkngfdemkpaagreatdoor", sum := "6e676ade8a15813de5cb4845792e705bb45a01643ea028abb00c7d6efbaa00b7", func := "skewback/skewbacklaw05.IntervalComputesAsSpecified", spec := "intervalComputesAsSpecified", unfollowed := true, recurses := true, named := ["math/bits.deBruijn32tab"], apart := false, laid := [("math/bits.deBruijn32tab", laid_math_bits_deBruijn32tab)], narrowed := true }
def IntervalComputesAsSpecifiedUptoSaid : Prop := intervalComputesAsSpecifiedUptoRow.holds Tryz.pinned (OpenSpec.upto intervalComputesAsSpecifiedSpec)

/-- 'skewbacklaw05.IntervalIncludes', WHERE WHAT IT READS IS OF BULK AT MOST 1048576: true; the input reads as it did. -/
def intervalIncludesUptoRow : OpenClaim := { program := "ytnfbkngfdemkpaagreatdoor", sum := "6e676ade8a15813de5cb4845792e705bb45a01643ea028abb00c7d6efbaa00b7", func := "skewback/skewbacklaw05.IntervalIncludes", spec := "intervalIncludes", unfollowed := true, recurses := true, named := ["math/bits.deBruijn32tab"], apart := false, laid := [("math/bits.deBruijn32tab", laid_math_bits_deBruijn32tab)], narrowed := true }
def IntervalIncludesUptoSaid : Prop := intervalIncludesUptoRow.holds Tryz.pinned (OpenSpec.upto intervalIncludesSpec)

/-- 'skewbacklaw05.IntervalWidens', WHERE WHAT IT READS IS OF BULK AT MOST 1048576: true; the input reads as it did. -/
def intervalWidensUptoRow : OpenClaim := { program := "ytnfbkngfdemkpaagreatdoor", sum := "6e676ade8a15813de5cb4845792e705bb45a01643ea028abb00c7d6efbaa00b7", func := "skewback/skewbacklaw05.IntervalWidens", spec := "intervalWidens", unfollowed := true, recurses := true, named := ["math/bits.deBruijn32tab"], apart := false, laid := [("math/bits.deBruijn32tab", laid_math_bits_deBruijn32tab)], narrowed := true }
def IntervalWidensUptoSaid : Prop := intervalWidensUptoRow.holds Tryz.pinned (OpenSpec.upto intervalWidensSpec)

end Rows
end Go.Proofs.YtnfbkngfdemkpaaGreatDoor
