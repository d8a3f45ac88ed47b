/-
  NARROWER THAN 'FOR EVERY INPUT', by the rows' own cells (each row's printed sentence says how): ConePyramidsMatchSpec: laid · ConeSidesMatchSpec: laid · ConeCombinesMatchSpec: laid · ConeIsInside: laid · ConeEdges: laid · ConeGrows: laid · ConeSlopes: laid.
  DERIVED. THE GIVEN ROWS OF THIS SEAT. 7 by the template 'for every input the law returns true; each argument reads behind the call as it read before'; 0 by the template 'total and deterministic' (their statements: YtapbefpeopaecaaGreatDoorTotals.lean).
  GIVEN WITH THE SEED: the statements are not yours to turn. If you find one false, say at which input.
  Laid BY PROGRAM, IN A SANDBOX (cutbox-rows.mjs): the forced cells as the released guide's own fill.sh prints them over the translation c42cf907f3d05b2c… (all of the seat's roots in one cut). By AI agents, Wed Nov 11 2026. No macro, syntax, notation, axiom, sorry.
-/
import Derived.Test.YtapbefpeopaecaaGreatDoorChecked
import GoSem.Claim
import GoSem.ClaimJoined
import GoSem.ClaimMapViews
import Derived.JoinedTies
import Derived.KernelRfl
namespace Go.Proofs.YtapbefpeopaecaaGreatDoor
/- THE CELL 'sum', in the pinned program and in every row, IS THE sha256 OF THE DUMP (.gsa) THAT YtapbefpeopaecaaGreatDoorProg.lean LOADS. Nothing in Lean hashes anything: it is a label: what it is worth is what the hold of that sum in a sandbox is worth. -/
noncomputable def Tryz.pinned : Pinned := { name := "ytapbefpeopaecaagreatdoor", sum := "c42cf907f3d05b2cabeafc8a2342ae9180ea388d3090dc76993a33094064872b", checked := Tryz.checked }
namespace Rows
def none {H : Type} : Left H := { results := [], args := [] }

/- WHAT THE LISTED PACKAGE-LEVEL VARIABLES READ AS WHEN THE CALL BEGINS. Each datum BY PROGRAM (the guide's laid-datum.mjs) off the statement by which the dump's own 'gosem.cut.vars' lays the variable. In a bare row this is a premise. The card (YtapbefpeopaecaaGreatDoorCards.lean) ties it to the program's text. -/
def laid_math_bits_deBruijn32tab {H : Type} : DataW H := .agg [.lit (.int .u8 0), .lit (.int .u8 1), .lit (.int .u8 28), .lit (.int .u8 2), .lit (.int .u8 29), .lit (.int .u8 14), .lit (.int .u8 24), .lit (.int .u8 3), .lit (.int .u8 30), .lit (.int .u8 22), .lit (.int .u8 20), .lit (.int .u8 15), .lit (.int .u8 25), .lit (.int .u8 17), .lit (.int .u8 4), .lit (.int .u8 8), .lit (.int .u8 31), .lit (.int .u8 27), .lit (.int .u8 13), .lit (.int .u8 23), .lit (.int .u8 21), .lit (.int .u8 19), .lit (.int .u8 16), .lit (.int .u8 7), .lit (.int .u8 26), .lit (.int .u8 12), .lit (.int .u8 18), .lit (.int .u8 6), .lit (.int .u8 11), .lit (.int .u8 5), .lit (.int .u8 10), .lit (.int .u8 9)]

/-- 'skewbacklaw21.ConePyramidsMatchSpec': WHATEVER THE INPUT: true; the input reads as it did. -/
def conePyramidsMatchSpecSpec : ChangeSpec := { name := "conePyramidsMatchSpec", fn := fun _ => fun
  | [d1, d2] => { results := [.lit (.bool true)], args := [d1, d2] }
  | _ => none }
def conePyramidsMatchSpecRow : OpenClaim := { program := "ytapbefpeopaecaagreatdoor", sum := "c42cf907f3d05b2cabeafc8a2342ae9180ea388d3090dc76993a33094064872b", func := "skewback/skewbacklaw21.ConePyramidsMatchSpec", spec := "conePyramidsMatchSpec", unfollowed := true, recurses := true, named := ["math/bits.deBruijn32tab"], apart := false, laid := [("math/bits.deBruijn32tab", laid_math_bits_deBruijn32tab)] }
def ConePyramidsMatchSpecSaid : Prop := conePyramidsMatchSpecRow.holds Tryz.pinned (OpenSpec.ofChange conePyramidsMatchSpecSpec)

/-- ITS FALSE NEIGHBOUR: 'it returns false'. Refute it at one input. -/
def conePyramidsMatchSpecWrong : ChangeSpec := { name := "conePyramidsMatchSpec", fn := fun _ => fun
  | [d1, d2] => { results := [.lit (.bool false)], args := [d1, d2] }
  | _ => none }
def ConePyramidsMatchSpecWrongFalsely : Prop := conePyramidsMatchSpecRow.holds Tryz.pinned (OpenSpec.ofChange conePyramidsMatchSpecWrong)

/-- 'skewbacklaw21.ConeSidesMatchSpec': WHATEVER THE INPUT: true; the input reads as it did. -/
def coneSidesMatchSpecSpec : ChangeSpec := { name := "coneSidesMatchSpec", fn := fun _ => fun
  | [d1, d2, d3] => { results := [.lit (.bool true)], args := [d1, d2, d3] }
  | _ => none }
def coneSidesMatchSpecRow : OpenClaim := { program := "ytapbefpeopaecaagreatdoor", sum := "c42cf907f3d05b2cabeafc8a2342ae9180ea388d3090dc76993a33094064872b", func := "skewback/skewbacklaw21.ConeSidesMatchSpec", spec := "coneSidesMatchSpec", unfollowed := true, recurses := true, named := ["math/bits.deBruijn32tab"], apart := false, laid := [("math/bits.deBruijn32tab", laid_math_bits_deBruijn32tab)] }
def ConeSidesMatchSpecSaid : Prop := coneSidesMatchSpecRow.holds Tryz.pinned (OpenSpec.ofChange coneSidesMatchSpecSpec)

/-- ITS FALSE NEIGHBOUR: 'it returns false'. Refute it at one input. -/
def coneSidesMatchSpecWrong : ChangeSpec := { name := "coneSidesMatchSpec", fn := fun _ => fun
  | [d1, d2, d3] => { results := [.lit (.bool false)], args := [d1, d2, d3] }
  | _ => none }
def ConeSidesMatchSpecWrongFalsely : Prop := coneSidesMatchSpecRow.holds Tryz.pinned (OpenSpec.ofChange coneSidesMatchSpecWrong)

/-- 'skewbacklaw21.ConeCombinesMatchSpec': WHATEVER THE INPUT: true; the input reads as it did. -/
def coneCombinesMatchSpecSpec : ChangeSpec := { name := "coneCombinesMatchSpec", fn := fun _ => fun
  | [d1, d2] => { results := [.lit (.bool true)], args := [d1, d2] }
  | _ => none }
def coneCombinesMatchSpecRow : OpenClaim := { program := "ytapbefpeopaecaagreatdoor", sum := "c42cf907f3d05b2cabeafc8a2342ae9180ea388d3090dc76993a33094064872b", func := "skewback/skewbacklaw21.ConeCombinesMatchSpec", spec := "coneCombinesMatchSpec", unfollowed := true, recurses := true, named := ["math/bits.deBruijn32tab"], apart := false, laid := [("math/bits.deBruijn32tab", laid_math_bits_deBruijn32tab)] }
def ConeCombinesMatchSpecSaid : Prop := coneCombinesMatchSpecRow.holds Tryz.pinned (OpenSpec.ofChange coneCombinesMatchSpecSpec)

/-- ITS FALSE NEIGHBOUR: 'it returns false'. Refute it at one input. -/
def coneCombinesMatchSpecWrong : ChangeSpec := { name := "coneCombinesMatchSpec", fn := fun _ => fun
  | [d1, d2] => { results := [.lit (.bool false)], args := [d1, d2] }
  | _ => none }
def ConeCombinesMatchSpecWrongFalsely : Prop := coneCombinesMatchSpecRow.holds Tryz.pinned (OpenSpec.ofChange coneCombinesMatchSpecWrong)

/-- 'skewbacklaw21.ConeIsInside': WHATEVER THE INPUT: true; the input reads as it did. -/
def coneIsInsideSpec : ChangeSpec := { name := "coneIsInside", fn := fun _ => fun
  | [d1, d2, d3] => { results := [.lit (.bool true)], args := [d1, d2, d3] }
  | _ => none }
def coneIsInsideRow : OpenClaim := { program := "ytapbefpeopaecaagreatdoor", sum := "c42cf907f3d05b2cabeafc8a2342ae9180ea388d3090dc76993a33094064872b", func := "skewback/skewbacklaw21.ConeIsInside", spec := "coneIsInside", unfollowed := true, recurses := true, named := ["math/bits.deBruijn32tab"], apart := false, laid := [("math/bits.deBruijn32tab", laid_math_bits_deBruijn32tab)] }
def ConeIsInsideSaid : Prop := coneIsInsideRow.holds Tryz.pinned (OpenSpec.ofChange coneIsInsideSpec)

/-- ITS FALSE NEIGHBOUR: 'it returns false'. Refute it at one input. -/
def coneIsInsideWrong : ChangeSpec := { name := "coneIsInside", fn := fun _ => fun
  | [d1, d2, d3] => { results := [.lit (.bool false)], args := [d1, d2, d3] }
  | _ => none }
def ConeIsInsideWrongFalsely : Prop := coneIsInsideRow.holds Tryz.pinned (OpenSpec.ofChange coneIsInsideWrong)

/-- 'skewbacklaw21.ConeEdges': WHATEVER THE INPUT: true; the input reads as it did. -/
def coneEdgesSpec : ChangeSpec := { name := "coneEdges", fn := fun _ => fun
  | [d1, d2, d3] => { results := [.lit (.bool true)], args := [d1, d2, d3] }
  | _ => none }
def coneEdgesRow : OpenClaim := { program := "ytapbefpeopaecaagreatdoor", sum := "c42cf907f3d05b2cabeafc8a2342ae9180ea388d3090dc76993a33094064872b", func := "skewback/skewbacklaw21.ConeEdges", spec := "coneEdges", unfollowed := true, recurses := true, named := ["math/bits.deBruijn32tab"], apart := false, laid := [("math/bits.deBruijn32tab", laid_math_bits_deBruijn32tab)] }
def ConeEdgesSaid : Prop := coneEdgesRow.holds Tryz.pinned (OpenSpec.ofChange coneEdgesSpec)

/-- ITS FALSE NEIGHBOUR: 'it returns false'. Refute it at one input. -/
def coneEdgesWrong : ChangeSpec := { name := "coneEdges", fn := fun _ => fun
  | [d1, d2, d3] => { results := [.lit (.bool false)], args := [d1, d2, d3] }
  | _ => none }
def ConeEdgesWrongFalsely : Prop := coneEdgesRow.holds Tryz.pinned (OpenSpec.ofChange coneEdgesWrong)

/-- 'skewbacklaw21.ConeGrows': WHATEVER THE INPUT: true; the input reads as it did. -/
def coneGrowsSpec : ChangeSpec := { name := "coneGrows", fn := fun _ => fun
  | [d1, d2, d3, d4] => { results := [.lit (.bool true)], args := [d1, d2, d3, d4] }
  | _ => none }
def coneGrowsRow : OpenClaim := { program := "ytapbefpeopaecaagreatdoor", sum := "c42cf907f3d05b2cabeafc8a2342ae9180ea388d3090dc76993a33094064872b", func := "skewback/skewbacklaw21.ConeGrows", spec := "coneGrows", unfollowed := true, recurses := true, named := ["math/bits.deBruijn32tab"], apart := false, laid := [("math/bits.deBruijn32tab", laid_math_bits_deBruijn32tab)] }
def ConeGrowsSaid : Prop := coneGrowsRow.holds Tryz.pinned (OpenSpec.ofChange coneGrowsSpec)

/-- ITS FALSE NEIGHBOUR: 'it returns false'. Refute it at one input. -/
def coneGrowsWrong : ChangeSpec := { name := "coneGrows", fn := fun _ => fun
  | [d1, d2, d3, d4] => { results := [.lit (.bool false)], args := [d1, d2, d3, d4] }
  | _ => none }
def ConeGrowsWrongFalsely : Prop := coneGrowsRow.holds Tryz.pinned (OpenSpec.ofChange coneGrowsWrong)

/-- 'skewbacklaw21.ConeSlopes': WHATEVER THE INPUT: true; the input reads as it did. -/
def coneSlopesSpec : ChangeSpec := { name := "coneSlopes", fn := fun _ => fun
  | [d1, d2] => { results := [.lit (.bool true)], args := [d1, d2] }
  | _ => none }
def coneSlopesRow : OpenClaim := { program := "ytapbefpeopaecaagreatdoor", sum := "c42cf907f3d05b2cabeafc8a2342ae9180ea388d3090dc76993a33094064872b", func := "skewback/skewbacklaw21.ConeSlopes", spec := "coneSlopes", unfollowed := true, recurses := true, named := ["math/bits.deBruijn32tab"], apart := false, laid := [("math/bits.deBruijn32tab", laid_math_bits_deBruijn32tab)] }
def ConeSlopesSaid : Prop := coneSlopesRow.holds Tryz.pinned (OpenSpec.ofChange coneSlopesSpec)

/-- ITS FALSE NEIGHBOUR: 'it returns false'. Refute it at one input. -/
def coneSlopesWrong : ChangeSpec := { name := "coneSlopes", fn := fun _ => fun
  | [d1, d2] => { results := [.lit (.bool false)], args := [d1, d2] }
  | _ => none }
def ConeSlopesWrongFalsely : Prop := coneSlopesRow.holds Tryz.pinned (OpenSpec.ofChange coneSlopesWrong)

/- THE SECOND FORM. 'bulk': how many values and letters a reading holds, each counted each time it is reached (what is shared counts as often as it is met; a slice's spare places count too). A statement '..UptoSaid' is the law's where the arguments, and the package variables that the reading takes, are together of bulk at most 1048576: NARROWER than '..Said'. Prove '..Said' where nothing that the law and all that it calls make is longer than what came in: it says more and counts as full. Else prove '..UptoSaid'. A law counts once. -/
mutual
def uptoBulk {H : Type} : DataW H → Nat
  | .lit (.string bytes) => bytes.length + 1
  | .lit _ => 1
  | .nil => 1
  | .ptr d => uptoBulk d + 1
  | .slice elems spare => uptoBulkAll elems + uptoBulkAll spare + 1
  | .agg parts => uptoBulkAll parts + 1
  | .iface _ d => uptoBulk d + 1
  | .map entries => uptoBulkEntries entries + 1
  | .held _ => 1
def uptoBulkAll {H : Type} : List (DataW H) → Nat
  | [] => 0
  | d :: r => uptoBulk d + uptoBulkAll r
def uptoBulkEntries {H : Type} : List (Lit × DataW H) → Nat
  | [] => 0
  | x :: r => uptoBulkEntry x + uptoBulkEntries r
def uptoBulkEntry {H : Type} : Lit × DataW H → Nat
  | (.string bytes, d) => bytes.length + uptoBulk d + 1
  | (_, d) => uptoBulk d + 1
 end
def uptoSmall : (H : Type) → List (DataW H) → Bool := fun _ ds => decide (uptoBulkAll ds ≤ 1048576)
def OpenSpec.upto (s : _root_.Go.ChangeSpec) : _root_.Go.OpenSpec := { _root_.Go.OpenSpec.ofChange s with cond := some uptoSmall }

/-- 'skewbacklaw21.ConePyramidsMatchSpec', WHERE WHAT IT READS IS OF BULK AT MOST 1048576: true; the input reads as it did. -/
def conePyramidsMatchSpecUptoRow : OpenClaim := { program := "ytapbefpeopaecaagreatdoor", sum := "c42cf907f3d05b2cabeafc8a2342ae9180ea388d3090dc76993a33094064872b", func := "skewback/skewbacklaw21.ConePyramidsMatchSpec", spec := "conePyramidsMatchSpec", unfollowed := true, recurses := true, named := ["math/bits.deBruijn32tab"], apart := false, laid := [("math/bits.deBruijn32tab", laid_math_bits_deBruijn32tab)], narrowed := true }
def ConePyramidsMatchSpecUptoSaid : Prop := conePyramidsMatchSpecUptoRow.holds Tryz.pinned (OpenSpec.upto conePyramidsMatchSpecSpec)

/-- 'skewbacklaw21.ConeSidesMatchSpec', WHERE WHAT IT READS IS OF BULK AT MOST 1048576: true; the input reads as it did. -/
def coneSidesMatchSpecUptoRow : OpenClaim := { program := "ytapbefpeopaecaagreatdoor", sum := "c42cf907f3d05b2cabeafc8a2342ae9180ea388d3090dc76993a33094064872b", func := "skewback/skewbacklaw21.ConeSidesMatchSpec", spec := "coneSidesMatchSpec", unfollowed := true, recurses := true, named := ["math/bits.deBruijn32tab"], apart := false, laid := [("math/bits.deBruijn32tab", laid_math_bits_deBruijn32tab)], narrowed := true }
def ConeSidesMatchSpecUptoSaid : Prop := coneSidesMatchSpecUptoRow.holds Tryz.pinned (OpenSpec.upto coneSidesMatchSpecSpec)

/-- 'skewbacklaw21.ConeCombinesMatchSpec', WHERE WHAT IT READS IS OF BULK AT MOST 1048576: true; the input reads as it did. -/
def coneCombinesMatchSpecUptoRow : OpenClaim := { program := "ytapbefpeopaecaagreatdoor", sum := "c42cf907f3d05b2cabeafc8a2342ae9180ea388d3090dc76993a33094064872b", func := "skewback/skewbacklaw21.ConeCombinesMatchSpec", spec := "coneCombinesMatchSpec", unfollowed := true, recurses := true, named := ["math/bits.deBruijn32tab"], apart := false, laid := [("math/bits.deBruijn32tab", laid_math_bits_deBruijn32tab)], narrowed := true }
def ConeCombinesMatchSpecUptoSaid : Prop := coneCombinesMatchSpecUptoRow.holds Tryz.pinned (OpenSpec.upto coneCombinesMatchSpecSpec)

/-- 'skewbacklaw21.ConeIsInside', WHERE WHAT IT READS IS OF BULK AT MOST 1048576: true; the input reads as it did. -/
def coneIsInsideUptoRow : OpenClaim := { program := "ytapbefpeopaecaagreatdoor", sum := "c42cf907f3d05b2cabeafc8a2342ae9180ea388d3090dc76993a33094064872b", func := "skewback/skewbacklaw21.ConeIsInside", spec := "coneIsInside", unfollowed := true, recurses := true, named := ["math/bits.deBruijn32tab"], apart := false, laid := [("math/bits.deBruijn32tab", laid_math_bits_deBruijn32tab)], narrowed := true }
def ConeIsInsideUptoSaid : Prop := coneIsInsideUptoRow.holds Tryz.pinned (OpenSpec.upto coneIsInsideSpec)

/-- 'skewbacklaw21.ConeEdges', WHERE WHAT IT READS IS OF BULK AT MOST 1048576: true; the input reads as it did. -/
def coneEdgesUptoRow : OpenClaim := { program := "ytapbefpeopaecaagreatdoor", sum := "c42cf907f3d05b2cabeafc8a2342ae9180ea388d3090dc76993a33094064872b", func := "skewback/skewbacklaw21.ConeEdges", spec := "coneEdges", unfollowed := true, recurses := true, named := ["math/bits.deBruijn32tab"], apart := false, laid := [("math/bits.deBruijn32tab", laid_math_bits_deBruijn32tab)], narrowed := true }
def ConeEdgesUptoSaid : Prop := coneEdgesUptoRow.holds Tryz.pinned (OpenSpec.upto coneEdgesSpec)

/-- 'skewbacklaw21.ConeGrows', WHERE WHAT IT READS IS OF BULK AT MOST 1048576: true; the input reads as it did. -/
def coneGrowsUptoRow : OpenClaim := { program := "ytapbefpeopaecaagreatdoor", sum := "c42cf907f3d05b2cabeafc8a2342ae9180ea388d3090dc76993a33094064872b", func := "skewback/skewbacklaw21.ConeGrows", spec := "coneGrows", unfollowed := true, recurses := true, named := ["math/bits.deBruijn32tab"], apart := false, laid := [("math/bits.deBruijn32tab", laid_math_bits_deBruijn32tab)], narrowed := true }
def ConeGrowsUptoSaid : Prop := coneGrowsUptoRow.holds Tryz.pinned (OpenSpec.upto coneGrowsSpec)

/-- 'skewbacklaw21.ConeSlopes', WHERE WHAT IT READS IS OF BULK AT MOST 1048576: true; the input reads as it did. -/
def coneSlopesUptoRow : OpenClaim := { program := "ytapbefpeopaecaagreatdoor", sum := "c42cf907f3d05b2cabeafc8a2342ae9180ea388d3090dc76993a33094064872b", func := "skewback/skewbacklaw21.ConeSlopes", spec := "coneSlopes", unfollowed := true, recurses := true, named := ["math/bits.deBruijn32tab"], apart := false, laid := [("math/bits.deBruijn32tab", laid_math_bits_deBruijn32tab)], narrowed := true }
def ConeSlopesUptoSaid : Prop := coneSlopesUptoRow.holds Tryz.pinned (OpenSpec.upto coneSlopesSpec)

end Rows
end Go.Proofs.YtapbefpeopaecaaGreatDoor
