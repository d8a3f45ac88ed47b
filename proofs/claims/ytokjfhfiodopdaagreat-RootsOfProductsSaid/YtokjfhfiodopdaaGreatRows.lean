/-
  No cell of these rows narrows 'for every input' (looked for: loops, veiled, ifaces, maps, wideKeys, modest, calm, conditions, laid).
  DERIVED. THE GIVEN ROWS OF THIS SEAT. 7 by the template 'for every input the law returns true; each argument reads behind the call as it read before'; 0 by the template 'total and deterministic' (their statements: YtokjfhfiodopdaaGreatTotals.lean).
  GIVEN WITH THE SEED: the statements are not yours to turn. If you find one false, say at which input.
  Laid BY PROGRAM, IN A SANDBOX (cutbox-rows.mjs): the forced cells as the released guide's own fill.sh prints them over the translation 431f45680ffb06ed… (all of the seat's roots in one cut). By AI agents, Wed Nov 11 2026. No macro, syntax, notation, axiom, sorry.
-/
import Derived.Test.YtokjfhfiodopdaaGreatChecked
import GoSem.Claim
import GoSem.ClaimJoined
import GoSem.ClaimMapViews
import Derived.JoinedTies
import Derived.KernelRfl
namespace Go.Proofs.YtokjfhfiodopdaaGreat
/- THE CELL 'sum', in the pinned program and in every row, IS THE sha256 OF THE DUMP (.gsa) THAT YtokjfhfiodopdaaGreatProg.lean LOADS. Nothing in Lean hashes anything: it is a label: what it is worth is what the hold of that sum in a sandbox is worth. -/
noncomputable def Tryz.pinned : Pinned := { name := "ytokjfhfiodopdaagreat", sum := "431f45680ffb06ed7be8348fa34c1c5334a0996cf6b7b5e4ea809dc6f1614dab", checked := Tryz.checked }
namespace Rows
def none {H : Type} : Left H := { results := [], args := [] }

/-- 'skewbacklaw09.RootsCountsMatchSpec': WHATEVER THE INPUT: true; the input reads as it did. -/
def rootsCountsMatchSpecSpec : ChangeSpec := { name := "rootsCountsMatchSpec", fn := fun _ => fun
  | [d1, d2, d3] => { results := [.lit (.bool true)], args := [d1, d2, d3] }
  | _ => none }
def rootsCountsMatchSpecRow : OpenClaim := { program := "ytokjfhfiodopdaagreat", sum := "431f45680ffb06ed7be8348fa34c1c5334a0996cf6b7b5e4ea809dc6f1614dab", func := "skewback/skewbacklaw09.RootsCountsMatchSpec", spec := "rootsCountsMatchSpec", unfollowed := true, recurses := true, apart := false }
def RootsCountsMatchSpecSaid : Prop := rootsCountsMatchSpecRow.holds Tryz.pinned (OpenSpec.ofChange rootsCountsMatchSpecSpec)

/-- ITS FALSE NEIGHBOUR: 'it returns false'. Refute it at one input. -/
def rootsCountsMatchSpecWrong : ChangeSpec := { name := "rootsCountsMatchSpec", fn := fun _ => fun
  | [d1, d2, d3] => { results := [.lit (.bool false)], args := [d1, d2, d3] }
  | _ => none }
def RootsCountsMatchSpecWrongFalsely : Prop := rootsCountsMatchSpecRow.holds Tryz.pinned (OpenSpec.ofChange rootsCountsMatchSpecWrong)

/-- 'skewbacklaw09.RootsRefinesMatchSpec': WHATEVER THE INPUT: true; the input reads as it did. -/
def rootsRefinesMatchSpecSpec : ChangeSpec := { name := "rootsRefinesMatchSpec", fn := fun _ => fun
  | [d1, d2, d3, d4] => { results := [.lit (.bool true)], args := [d1, d2, d3, d4] }
  | _ => none }
def rootsRefinesMatchSpecRow : OpenClaim := { program := "ytokjfhfiodopdaagreat", sum := "431f45680ffb06ed7be8348fa34c1c5334a0996cf6b7b5e4ea809dc6f1614dab", func := "skewback/skewbacklaw09.RootsRefinesMatchSpec", spec := "rootsRefinesMatchSpec", unfollowed := true, recurses := true, apart := false }
def RootsRefinesMatchSpecSaid : Prop := rootsRefinesMatchSpecRow.holds Tryz.pinned (OpenSpec.ofChange rootsRefinesMatchSpecSpec)

/-- ITS FALSE NEIGHBOUR: 'it returns false'. Refute it at one input. -/
def rootsRefinesMatchSpecWrong : ChangeSpec := { name := "rootsRefinesMatchSpec", fn := fun _ => fun
  | [d1, d2, d3, d4] => { results := [.lit (.bool false)], args := [d1, d2, d3, d4] }
  | _ => none }
def RootsRefinesMatchSpecWrongFalsely : Prop := rootsRefinesMatchSpecRow.holds Tryz.pinned (OpenSpec.ofChange rootsRefinesMatchSpecWrong)

/-- 'skewbacklaw09.RootsNonNegativesMatchSpec': WHATEVER THE INPUT: true; the input reads as it did. -/
def rootsNonNegativesMatchSpecSpec : ChangeSpec := { name := "rootsNonNegativesMatchSpec", fn := fun _ => fun
  | [d1, d2, d3, d4] => { results := [.lit (.bool true)], args := [d1, d2, d3, d4] }
  | _ => none }
def rootsNonNegativesMatchSpecRow : OpenClaim := { program := "ytokjfhfiodopdaagreat", sum := "431f45680ffb06ed7be8348fa34c1c5334a0996cf6b7b5e4ea809dc6f1614dab", func := "skewback/skewbacklaw09.RootsNonNegativesMatchSpec", spec := "rootsNonNegativesMatchSpec", unfollowed := true, recurses := true, apart := false }
def RootsNonNegativesMatchSpecSaid : Prop := rootsNonNegativesMatchSpecRow.holds Tryz.pinned (OpenSpec.ofChange rootsNonNegativesMatchSpecSpec)

/-- ITS FALSE NEIGHBOUR: 'it returns false'. Refute it at one input. -/
def rootsNonNegativesMatchSpecWrong : ChangeSpec := { name := "rootsNonNegativesMatchSpec", fn := fun _ => fun
  | [d1, d2, d3, d4] => { results := [.lit (.bool false)], args := [d1, d2, d3, d4] }
  | _ => none }
def RootsNonNegativesMatchSpecWrongFalsely : Prop := rootsNonNegativesMatchSpecRow.holds Tryz.pinned (OpenSpec.ofChange rootsNonNegativesMatchSpecWrong)

/-- 'skewbacklaw09.RootsCountsAdd': WHATEVER THE INPUT: true; the input reads as it did. -/
def rootsCountsAddSpec : ChangeSpec := { name := "rootsCountsAdd", fn := fun _ => fun
  | [d1, d2, d3, d4] => { results := [.lit (.bool true)], args := [d1, d2, d3, d4] }
  | _ => none }
def rootsCountsAddRow : OpenClaim := { program := "ytokjfhfiodopdaagreat", sum := "431f45680ffb06ed7be8348fa34c1c5334a0996cf6b7b5e4ea809dc6f1614dab", func := "skewback/skewbacklaw09.RootsCountsAdd", spec := "rootsCountsAdd", unfollowed := true, recurses := true, apart := false }
def RootsCountsAddSaid : Prop := rootsCountsAddRow.holds Tryz.pinned (OpenSpec.ofChange rootsCountsAddSpec)

/-- ITS FALSE NEIGHBOUR: 'it returns false'. Refute it at one input. -/
def rootsCountsAddWrong : ChangeSpec := { name := "rootsCountsAdd", fn := fun _ => fun
  | [d1, d2, d3, d4] => { results := [.lit (.bool false)], args := [d1, d2, d3, d4] }
  | _ => none }
def RootsCountsAddWrongFalsely : Prop := rootsCountsAddRow.holds Tryz.pinned (OpenSpec.ofChange rootsCountsAddWrong)

/-- 'skewbacklaw09.RootsOfProducts': WHATEVER THE INPUT: true; the input reads as it did. -/
def rootsOfProductsSpec : ChangeSpec := { name := "rootsOfProducts", fn := fun _ => fun
  | [d1, d2, d3, d4, d5] => { results := [.lit (.bool true)], args := [d1, d2, d3, d4, d5] }
  | _ => none }
def rootsOfProductsRow : OpenClaim := { program := "ytokjfhfiodopdaagreat", sum := "431f45680ffb06ed7be8348fa34c1c5334a0996cf6b7b5e4ea809dc6f1614dab", func := "skewback/skewbacklaw09.RootsOfProducts", spec := "rootsOfProducts", unfollowed := true, recurses := true, apart := false }
def RootsOfProductsSaid : Prop := rootsOfProductsRow.holds Tryz.pinned (OpenSpec.ofChange rootsOfProductsSpec)

/-- ITS FALSE NEIGHBOUR: 'it returns false'. Refute it at one input. -/
def rootsOfProductsWrong : ChangeSpec := { name := "rootsOfProducts", fn := fun _ => fun
  | [d1, d2, d3, d4, d5] => { results := [.lit (.bool false)], args := [d1, d2, d3, d4, d5] }
  | _ => none }
def RootsOfProductsWrongFalsely : Prop := rootsOfProductsRow.holds Tryz.pinned (OpenSpec.ofChange rootsOfProductsWrong)

/-- 'skewbacklaw09.RootsSquaresAreNonNegative': WHATEVER THE INPUT: true; the input reads as it did. -/
def rootsSquaresAreNonNegativeSpec : ChangeSpec := { name := "rootsSquaresAreNonNegative", fn := fun _ => fun
  | [d1, d2, d3, d4] => { results := [.lit (.bool true)], args := [d1, d2, d3, d4] }
  | _ => none }
def rootsSquaresAreNonNegativeRow : OpenClaim := { program := "ytokjfhfiodopdaagreat", sum := "431f45680ffb06ed7be8348fa34c1c5334a0996cf6b7b5e4ea809dc6f1614dab", func := "skewback/skewbacklaw09.RootsSquaresAreNonNegative", spec := "rootsSquaresAreNonNegative", unfollowed := true, recurses := true, apart := false }
def RootsSquaresAreNonNegativeSaid : Prop := rootsSquaresAreNonNegativeRow.holds Tryz.pinned (OpenSpec.ofChange rootsSquaresAreNonNegativeSpec)

/-- ITS FALSE NEIGHBOUR: 'it returns false'. Refute it at one input. -/
def rootsSquaresAreNonNegativeWrong : ChangeSpec := { name := "rootsSquaresAreNonNegative", fn := fun _ => fun
  | [d1, d2, d3, d4] => { results := [.lit (.bool false)], args := [d1, d2, d3, d4] }
  | _ => none }
def RootsSquaresAreNonNegativeWrongFalsely : Prop := rootsSquaresAreNonNegativeRow.holds Tryz.pinned (OpenSpec.ofChange rootsSquaresAreNonNegativeWrong)

/-- 'skewbacklaw09.RootsNonNegativeHolds': WHATEVER THE INPUT: true; the input reads as it did. -/
def rootsNonNegativeHoldsSpec : ChangeSpec := { name := "rootsNonNegativeHolds", fn := fun _ => fun
  | [d1, d2, d3, d4, d5] => { results := [.lit (.bool true)], args := [d1, d2, d3, d4, d5] }
  | _ => none }
def rootsNonNegativeHoldsRow : OpenClaim := { program := "ytokjfhfiodopdaagreat", sum := "431f45680ffb06ed7be8348fa34c1c5334a0996cf6b7b5e4ea809dc6f1614dab", func := "skewback/skewbacklaw09.RootsNonNegativeHolds", spec := "rootsNonNegativeHolds", unfollowed := true, recurses := true, apart := false }
def RootsNonNegativeHoldsSaid : Prop := rootsNonNegativeHoldsRow.holds Tryz.pinned (OpenSpec.ofChange rootsNonNegativeHoldsSpec)

/-- ITS FALSE NEIGHBOUR: 'it returns false'. Refute it at one input. -/
def rootsNonNegativeHoldsWrong : ChangeSpec := { name := "rootsNonNegativeHolds", fn := fun _ => fun
  | [d1, d2, d3, d4, d5] => { results := [.lit (.bool false)], args := [d1, d2, d3, d4, d5] }
  | _ => none }
def RootsNonNegativeHoldsWrongFalsely : Prop := rootsNonNegativeHoldsRow.holds Tryz.pinned (OpenSpec.ofChange rootsNonNegativeHoldsWrong)

/- THE SECOND FORM. 'bulk': how many values and letters a reading holds, each counted each time it is reached (what is shared counts as often as it is met; a slice's spare places count too). A statement '..UptoSaid' is the law's where the arguments, and the package variables that the reading takes, are together of bulk at most 1048576: NARROWER than '..Said'. Prove '..Said' where nothing that the law and all that it calls make is longer than what came in: it says more and counts as full. Else prove '..UptoSaid'. A law counts once. -/
mutual
def uptoBulk {H : Type} : DataW H → Nat
  | .lit (.string bytes) => bytes.length + 1
  | .lit _ => 1
  | .nil => 1
  | .ptr d => uptoBulk d + 1
  | .slice elems spare => uptoBulkAll elems + uptoBulkAll spare + 1
  | .agg parts => uptoBulkAll parts + 1
  | .iface _ d => uptoBulk d + 1
  | .map entries => uptoBulkEntries entries + 1
  | .held _ => 1
def uptoBulkAll {H : Type} : List (DataW H) → Nat
  | [] => 0
  | d :: r => uptoBulk d + uptoBulkAll r
def uptoBulkEntries {H : Type} : List (Lit × DataW H) → Nat
  | [] => 0
  | x :: r => uptoBulkEntry x + uptoBulkEntries r
def uptoBulkEntry {H : Type} : Lit × DataW H → Nat
  | (.string bytes, d) => bytes.length + uptoBulk d + 1
  | (_, d) => uptoBulk d + 1
 end
def uptoSmall : (H : Type) → List (DataW H) → Bool := fun _ ds => decide (uptoBulkAll ds ≤ 1048576)
def OpenSpec.upto (s : _root_.Go.ChangeSpec) : _root_.Go.OpenSpec := { _root_.Go.OpenSpec.ofChange s with cond := some uptoSmall }

/-- 'skewbacklaw09.RootsCountsMatchSpec', WHERE WHAT IT READS IS OF BULK AT MOST 1048576: true; the input reads as it did. -/
def rootsCountsMatchSpecUptoRow : OpenClaim := { program := "ytokjfhfiodopdaagreat", sum := "431f45680ffb06ed7be8348fa34c1c5334a0996cf6b7b5e4ea809dc6f1614dab", func := "skewback/skewbacklaw09.RootsCountsMatchSpec", spec := "rootsCountsMatchSpec", unfollowed := true, recurses := true, apart := false, narrowed := true }
def RootsCountsMatchSpecUptoSaid : Prop := rootsCountsMatchSpecUptoRow.holds Tryz.pinned (OpenSpec.upto rootsCountsMatchSpecSpec)

/-- 'skewbacklaw09.RootsRefinesMatchSpec', WHERE WHAT IT READS IS OF BULK AT MOST 1048576: true; the input reads as it did. -/
def rootsRefinesMatchSpecUptoRow : OpenClaim := { program := "ytokjfhfiodopdaagreat", sum := "431f45680ffb06ed7be8348fa34c1c5334a0996cf6b7b5e4ea809dc6f1614dab", func := "skewback/skewbacklaw09.RootsRefinesMatchSpec", spec := "rootsRefinesMatchSpec", unfollowed := true, recurses := true, apart := false, narrowed := true }
def RootsRefinesMatchSpecUptoSaid : Prop := rootsRefinesMatchSpecUptoRow.holds Tryz.pinned (OpenSpec.upto rootsRefinesMatchSpecSpec)

/-- 'skewbacklaw09.RootsNonNegativesMatchSpec', WHERE WHAT IT READS IS OF BULK AT MOST 1048576: true; the input reads as it did. -/
def rootsNonNegativesMatchSpecUptoRow : OpenClaim := { program := "ytokjfhfiodopdaagreat", sum := "431f45680ffb06ed7be8348fa34c1c5334a0996cf6b7b5e4ea809dc6f1614dab", func := "skewback/skewbacklaw09.RootsNonNegativesMatchSpec", spec := "rootsNonNegativesMatchSpec", unfollowed := true, recurses := true, apart := false, narrowed := true }
def RootsNonNegativesMatchSpecUptoSaid : Prop := rootsNonNegativesMatchSpecUptoRow.holds Tryz.pinned (OpenSpec.upto rootsNonNegativesMatchSpecSpec)

/-- 'skewbacklaw09.RootsCountsAdd', WHERE WHAT IT READS IS OF BULK AT MOST 1048576: true; the input reads as it did. -/
def rootsCountsAddUptoRow : OpenClaim := { program := "ytokjfhfiodopdaagreat", sum := "431f45680ffb06ed7be8348fa34c1c5334a0996cf6b7b5e4ea809dc6f1614dab", func := "skewback/skewbacklaw09.RootsCountsAdd", spec := "rootsCountsAdd", unfollowed := true, recurses := true, apart := false, narrowed := true }
def RootsCountsAddUptoSaid : Prop := rootsCountsAddUptoRow.holds Tryz.pinned (OpenSpec.upto rootsCountsAddSpec)

/-- 'skewbacklaw09.RootsOfProducts', WHERE WHAT IT READS IS OF BULK AT MOST 1048576: true; the input reads as it did. -/
def rootsOfProductsUptoRow : OpenClaim := { program := "ytokjfhfiodopdaagreat", sum := "431f45680ffb06ed7be8348fa34c1c5334a0996cf6b7b5e4ea809dc6f1614dab", func := "skewback/skewbacklaw09.RootsOfProducts", spec := "rootsOfProducts", unfollowed := true, recurses := true, apart := false, narrowed := true }
def RootsOfProductsUptoSaid : Prop := rootsOfProductsUptoRow.holds Tryz.pinned (OpenSpec.upto rootsOfProductsSpec)

/-- 'skewbacklaw09.RootsSquaresAreNonNegative', WHERE WHAT IT READS IS OF BULK AT MOST 1048576: true; the input reads as it did. -/
def rootsSquaresAreNonNegativeUptoRow : OpenClaim := { program := "ytokjfhfiodopdaagreat", sum := "431f45680ffb06ed7be8348fa34c1c5334a0996cf6b7b5e4ea809dc6f1614dab", func := "skewback/skewbacklaw09.RootsSquaresAreNonNegative", spec := "rootsSquaresAreNonNegative", unfollowed := true, recurses := true, apart := false, narrowed := true }
def RootsSquaresAreNonNegativeUptoSaid : Prop := rootsSquaresAreNonNegativeUptoRow.holds Tryz.pinned (OpenSpec.upto rootsSquaresAreNonNegativeSpec)

/-- 'skewbacklaw09.RootsNonNegativeHolds', WHERE WHAT IT READS IS OF BULK AT MOST 1048576: true; the input reads as it did. -/
def rootsNonNegativeHoldsUptoRow : OpenClaim := { program := "ytokjfhfiodopdaagreat", sum := "431f45680ffb06ed7be8348fa34c1c5334a0996cf6b7b5e4ea809dc6f1614dab", func := "skewback/skewbacklaw09.RootsNonNegativeHolds", spec := "rootsNonNegativeHolds", unfollowed := true, recurses := true, apart := false, narrowed := true }
def RootsNonNegativeHoldsUptoSaid : Prop := rootsNonNegativeHoldsUptoRow.holds Tryz.pinned (OpenSpec.upto rootsNonNegativeHoldsSpec)

end Rows
end Go.Proofs.YtokjfhfiodopdaaGreat
