/-
  NARROWER THAN 'FOR EVERY INPUT', by the rows' own cells (each row's printed sentence says how): RopePullsAsSpecified: laid · RopeColumnsMatchSpec: laid · RopeSlackMatchesSpec: laid · RopeWorkAddsUp: laid · RopeBalances: laid · RopeLiftsAsSpecified: laid · RopeLengthIsBounded: laid · RopeStaysAsSpecified: laid · RopeStaysIsSound: laid · RopeHolds: laid.
  DERIVED. THE GIVEN ROWS OF THIS SEAT. 10 by the template 'for every input the law returns true; each argument reads behind the call as it read before'; 0 by the template 'total and deterministic' (their statements: YtkjjponijamaoaaGreatDoorTotals.lean).
  GIVEN WITH THE SEED: the statements are not yours to turn. If you find one false, say at which input.
  Laid BY PROGRAM, IN A SANDBOX (cutbox-rows.mjs): the forced cells as the released guide's own fill.sh prints them over the translation f50f437e9fb322a3… (all of the seat's roots in one cut). By AI agents, Wed Nov 11 2026. No macro, syntax, notation, axiom, sorry.
-/
import Derived.Test.YtkjjponijamaoaaGreatDoorChecked
import GoSem.Claim
import GoSem.ClaimJoined
import GoSem.ClaimMapViews
import Derived.JoinedTies
import Derived.KernelRfl
namespace Go.Proofs.YtkjjponijamaoaaGreatDoor
/- THE CELL 'sum', in the pinned program and in every row, IS THE sha256 OF THE DUMP (.gsa) THAT YtkjjponijamaoaaGreatDoorProg.lean LOADS. Nothing in Lean hashes anything: it is a label: what it is worth is what the hold of that sum in a sandbox is worth. -/
noncomputable def Tryz.pinned : Pinned := { name := "ytkjjponijamaoaagreatdoor", sum := "f50f437e9fb322a35b6cd572211f7b1cd84b67f869be4da5b1525aa4310b50fc", checked := Tryz.checked }
namespace Rows
def none {H : Type} : Left H := { results := [], args := [] }

/- WHAT THE LISTED PACKAGE-LEVEL VARIABLES READ AS WHEN THE CALL BEGINS. Each datum BY PROGRAM (the guide's laid-datum.mjs) off the statement by which the dump's own 'gosem.cut.vars' lays the variable. In a bare row this is a premise. The card (YtkjjponijamaoaaGreatDoorCards.lean) ties it to the program's text. -/
def laid_math_bits_deBruijn32tab {H : Type} : DataW H := .agg [.lit (.int .u8 0), .lit (.int .u8 1), .lit (.int .u8 28), .lit (.int .u8 2), .lit (.int .u8 29), .lit (.int .u8 14), .lit (.int .u8 24), .lit (.int .u8 3), .lit (.int .u8 30), .lit (.int .u8 22), .lit (.int .u8 20), .lit (.int .u8 15), .lit (.int .u8 25), .lit (.int .u8 17), .lit (.int .u8 4), .lit (.int .u8 8), .lit (.int .u8 31), .lit (.int .u8 27), .lit (.int .u8 13), .lit (.int .u8 23), .lit (.int .u8 21), .lit (.int .u8 19), .lit (.int .u8 16), .lit (.int .u8 7), .lit (.int .u8 26), .lit (.int .u8 12), .lit (.int .u8 18), .lit (.int .u8 6), .lit (.int .u8 11), .lit (.int .u8 5), .lit (.int .u8 10), .lit (.int .u8 9)]

/-- 'skewbacklaw26.RopePullsAsSpecified': WHATEVER THE INPUT: true; the input reads as it did. -/
def ropePullsAsSpecifiedSpec : ChangeSpec := { name := "ropePullsAsSpecified", fn := fun _ => fun
  | [d1, d2] => { results := [.lit (.bool true)], args := [d1, d2] }
  | _ => none }
def ropePullsAsSpecifiedRow : OpenClaim := { program := "ytkjjponijamaoaagreatdoor", sum := "f50f437e9fb322a35b6cd572211f7b1cd84b67f869be4da5b1525aa4310b50fc", func := "skewback/skewbacklaw26.RopePullsAsSpecified", spec := "ropePullsAsSpecified", unfollowed := true, recurses := true, named := ["math/bits.deBruijn32tab"], apart := false, laid := [("math/bits.deBruijn32tab", laid_math_bits_deBruijn32tab)] }
def RopePullsAsSpecifiedSaid : Prop := ropePullsAsSpecifiedRow.holds Tryz.pinned (OpenSpec.ofChange ropePullsAsSpecifiedSpec)

/-- ITS FALSE NEIGHBOUR: 'it returns false'. Refute it at one input. -/
def ropePullsAsSpecifiedWrong : ChangeSpec := { name := "ropePullsAsSpecified", fn := fun _ => fun
  | [d1, d2] => { results := [.lit (.bool false)], args := [d1, d2] }
  | _ => none }
def RopePullsAsSpecifiedWrongFalsely : Prop := ropePullsAsSpecifiedRow.holds Tryz.pinned (OpenSpec.ofChange ropePullsAsSpecifiedWrong)

/-- 'skewbacklaw26.RopeColumnsMatchSpec': WHATEVER THE INPUT: true; the input reads as it did. -/
def ropeColumnsMatchSpecSpec : ChangeSpec := { name := "ropeColumnsMatchSpec", fn := fun _ => fun
  | [d1, d2] => { results := [.lit (.bool true)], args := [d1, d2] }
  | _ => none }
def ropeColumnsMatchSpecRow : OpenClaim := { program := "ytkjjponijamaoaagreatdoor", sum := "f50f437e9fb322a35b6cd572211f7b1cd84b67f869be4da5b1525aa4310b50fc", func := "skewback/skewbacklaw26.RopeColumnsMatchSpec", spec := "ropeColumnsMatchSpec", unfollowed := true, recurses := true, named := ["math/bits.deBruijn32tab"], apart := false, laid := [("math/bits.deBruijn32tab", laid_math_bits_deBruijn32tab)] }
def RopeColumnsMatchSpecSaid : Prop := ropeColumnsMatchSpecRow.holds Tryz.pinned (OpenSpec.ofChange ropeColumnsMatchSpecSpec)

/-- ITS FALSE NEIGHBOUR: 'it returns false'. Refute it at one input. -/
def ropeColumnsMatchSpecWrong : ChangeSpec := { name := "ropeColumnsMatchSpec", fn := fun _ => fun
  | [d1, d2] => { results := [.lit (.bool false)], args := [d1, d2] }
  | _ => none }
def RopeColumnsMatchSpecWrongFalsely : Prop := ropeColumnsMatchSpecRow.holds Tryz.pinned (OpenSpec.ofChange ropeColumnsMatchSpecWrong)

/-- 'skewbacklaw26.RopeSlackMatchesSpec': WHATEVER THE INPUT: true; the input reads as it did. -/
def ropeSlackMatchesSpecSpec : ChangeSpec := { name := "ropeSlackMatchesSpec", fn := fun _ => fun
  | [d1, d2, d3, d4] => { results := [.lit (.bool true)], args := [d1, d2, d3, d4] }
  | _ => none }
def ropeSlackMatchesSpecRow : OpenClaim := { program := "ytkjjponijamaoaagreatdoor", sum := "f50f437e9fb322a35b6cd572211f7b1cd84b67f869be4da5b1525aa4310b50fc", func := "skewback/skewbacklaw26.RopeSlackMatchesSpec", spec := "ropeSlackMatchesSpec", unfollowed := true, recurses := true, named := ["math/bits.deBruijn32tab"], apart := false, laid := [("math/bits.deBruijn32tab", laid_math_bits_deBruijn32tab)] }
def RopeSlackMatchesSpecSaid : Prop := ropeSlackMatchesSpecRow.holds Tryz.pinned (OpenSpec.ofChange ropeSlackMatchesSpecSpec)

/-- ITS FALSE NEIGHBOUR: 'it returns false'. Refute it at one input. -/
def ropeSlackMatchesSpecWrong : ChangeSpec := { name := "ropeSlackMatchesSpec", fn := fun _ => fun
  | [d1, d2, d3, d4] => { results := [.lit (.bool false)], args := [d1, d2, d3, d4] }
  | _ => none }
def RopeSlackMatchesSpecWrongFalsely : Prop := ropeSlackMatchesSpecRow.holds Tryz.pinned (OpenSpec.ofChange ropeSlackMatchesSpecWrong)

/-- 'skewbacklaw26.RopeWorkAddsUp': WHATEVER THE INPUT: true; the input reads as it did. -/
def ropeWorkAddsUpSpec : ChangeSpec := { name := "ropeWorkAddsUp", fn := fun _ => fun
  | [d1, d2, d3, d4] => { results := [.lit (.bool true)], args := [d1, d2, d3, d4] }
  | _ => none }
def ropeWorkAddsUpRow : OpenClaim := { program := "ytkjjponijamaoaagreatdoor", sum := "f50f437e9fb322a35b6cd572211f7b1cd84b67f869be4da5b1525aa4310b50fc", func := "skewback/skewbacklaw26.RopeWorkAddsUp", spec := "ropeWorkAddsUp", unfollowed := true, recurses := true, named := ["math/bits.deBruijn32tab"], apart := false, laid := [("math/bits.deBruijn32tab", laid_math_bits_deBruijn32tab)] }
def RopeWorkAddsUpSaid : Prop := ropeWorkAddsUpRow.holds Tryz.pinned (OpenSpec.ofChange ropeWorkAddsUpSpec)

/-- ITS FALSE NEIGHBOUR: 'it returns false'. Refute it at one input. -/
def ropeWorkAddsUpWrong : ChangeSpec := { name := "ropeWorkAddsUp", fn := fun _ => fun
  | [d1, d2, d3, d4] => { results := [.lit (.bool false)], args := [d1, d2, d3, d4] }
  | _ => none }
def RopeWorkAddsUpWrongFalsely : Prop := ropeWorkAddsUpRow.holds Tryz.pinned (OpenSpec.ofChange ropeWorkAddsUpWrong)

/-- 'skewbacklaw26.RopeBalances': WHATEVER THE INPUT: true; the input reads as it did. -/
def ropeBalancesSpec : ChangeSpec := { name := "ropeBalances", fn := fun _ => fun
  | [d1, d2] => { results := [.lit (.bool true)], args := [d1, d2] }
  | _ => none }
def ropeBalancesRow : OpenClaim := { program := "ytkjjponijamaoaagreatdoor", sum := "f50f437e9fb322a35b6cd572211f7b1cd84b67f869be4da5b1525aa4310b50fc", func := "skewback/skewbacklaw26.RopeBalances", spec := "ropeBalances", unfollowed := true, recurses := true, named := ["math/bits.deBruijn32tab"], apart := false, laid := [("math/bits.deBruijn32tab", laid_math_bits_deBruijn32tab)] }
def RopeBalancesSaid : Prop := ropeBalancesRow.holds Tryz.pinned (OpenSpec.ofChange ropeBalancesSpec)

/-- ITS FALSE NEIGHBOUR: 'it returns false'. Refute it at one input. -/
def ropeBalancesWrong : ChangeSpec := { name := "ropeBalances", fn := fun _ => fun
  | [d1, d2] => { results := [.lit (.bool false)], args := [d1, d2] }
  | _ => none }
def RopeBalancesWrongFalsely : Prop := ropeBalancesRow.holds Tryz.pinned (OpenSpec.ofChange ropeBalancesWrong)

/-- 'skewbacklaw26.RopeLiftsAsSpecified': WHATEVER THE INPUT: true; the input reads as it did. -/
def ropeLiftsAsSpecifiedSpec : ChangeSpec := { name := "ropeLiftsAsSpecified", fn := fun _ => fun
  | [d1, d2, d3, d4, d5] => { results := [.lit (.bool true)], args := [d1, d2, d3, d4, d5] }
  | _ => none }
def ropeLiftsAsSpecifiedRow : OpenClaim := { program := "ytkjjponijamaoaagreatdoor", sum := "f50f437e9fb322a35b6cd572211f7b1cd84b67f869be4da5b1525aa4310b50fc", func := "skewback/skewbacklaw26.RopeLiftsAsSpecified", spec := "ropeLiftsAsSpecified", unfollowed := true, recurses := true, named := ["math/bits.deBruijn32tab"], apart := false, laid := [("math/bits.deBruijn32tab", laid_math_bits_deBruijn32tab)] }
def RopeLiftsAsSpecifiedSaid : Prop := ropeLiftsAsSpecifiedRow.holds Tryz.pinned (OpenSpec.ofChange ropeLiftsAsSpecifiedSpec)

/-- ITS FALSE NEIGHBOUR: 'it returns false'. Refute it at one input. -/
def ropeLiftsAsSpecifiedWrong : ChangeSpec := { name := "ropeLiftsAsSpecified", fn := fun _ => fun
  | [d1, d2, d3, d4, d5] => { results := [.lit (.bool false)], args := [d1, d2, d3, d4, d5] }
  | _ => none }
def RopeLiftsAsSpecifiedWrongFalsely : Prop := ropeLiftsAsSpecifiedRow.holds Tryz.pinned (OpenSpec.ofChange ropeLiftsAsSpecifiedWrong)

/-- 'skewbacklaw26.RopeLengthIsBounded': WHATEVER THE INPUT: true; the input reads as it did. -/
def ropeLengthIsBoundedSpec : ChangeSpec := { name := "ropeLengthIsBounded", fn := fun _ => fun
  | [d] => { results := [.lit (.bool true)], args := [d] }
  | _ => none }
def ropeLengthIsBoundedRow : OpenClaim := { program := "ytkjjponijamaoaagreatdoor", sum := "f50f437e9fb322a35b6cd572211f7b1cd84b67f869be4da5b1525aa4310b50fc", func := "skewback/skewbacklaw26.RopeLengthIsBounded", spec := "ropeLengthIsBounded", unfollowed := true, recurses := true, named := ["math/bits.deBruijn32tab"], apart := false, laid := [("math/bits.deBruijn32tab", laid_math_bits_deBruijn32tab)] }
def RopeLengthIsBoundedSaid : Prop := ropeLengthIsBoundedRow.holds Tryz.pinned (OpenSpec.ofChange ropeLengthIsBoundedSpec)

/-- ITS FALSE NEIGHBOUR: 'it returns false'. Refute it at one input. -/
def ropeLengthIsBoundedWrong : ChangeSpec := { name := "ropeLengthIsBounded", fn := fun _ => fun
  | [d] => { results := [.lit (.bool false)], args := [d] }
  | _ => none }
def RopeLengthIsBoundedWrongFalsely : Prop := ropeLengthIsBoundedRow.holds Tryz.pinned (OpenSpec.ofChange ropeLengthIsBoundedWrong)

/-- 'skewbacklaw26.RopeStaysAsSpecified': WHATEVER THE INPUT: true; the input reads as it did. -/
def ropeStaysAsSpecifiedSpec : ChangeSpec := { name := "ropeStaysAsSpecified", fn := fun _ => fun
  | [d1, d2, d3, d4, d5, d6] => { results := [.lit (.bool true)], args := [d1, d2, d3, d4, d5, d6] }
  | _ => none }
def ropeStaysAsSpecifiedRow : OpenClaim := { program := "ytkjjponijamaoaagreatdoor", sum := "f50f437e9fb322a35b6cd572211f7b1cd84b67f869be4da5b1525aa4310b50fc", func := "skewback/skewbacklaw26.RopeStaysAsSpecified", spec := "ropeStaysAsSpecified", unfollowed := true, recurses := true, named := ["math/bits.deBruijn32tab"], apart := false, laid := [("math/bits.deBruijn32tab", laid_math_bits_deBruijn32tab)] }
def RopeStaysAsSpecifiedSaid : Prop := ropeStaysAsSpecifiedRow.holds Tryz.pinned (OpenSpec.ofChange ropeStaysAsSpecifiedSpec)

/-- ITS FALSE NEIGHBOUR: 'it returns false'. Refute it at one input. -/
def ropeStaysAsSpecifiedWrong : ChangeSpec := { name := "ropeStaysAsSpecified", fn := fun _ => fun
  | [d1, d2, d3, d4, d5, d6] => { results := [.lit (.bool false)], args := [d1, d2, d3, d4, d5, d6] }
  | _ => none }
def RopeStaysAsSpecifiedWrongFalsely : Prop := ropeStaysAsSpecifiedRow.holds Tryz.pinned (OpenSpec.ofChange ropeStaysAsSpecifiedWrong)

/-- 'skewbacklaw26.RopeStaysIsSound': WHATEVER THE INPUT: true; the input reads as it did. -/
def ropeStaysIsSoundSpec : ChangeSpec := { name := "ropeStaysIsSound", fn := fun _ => fun
  | [d1, d2, d3, d4, d5] => { results := [.lit (.bool true)], args := [d1, d2, d3, d4, d5] }
  | _ => none }
def ropeStaysIsSoundRow : OpenClaim := { program := "ytkjjponijamaoaagreatdoor", sum := "f50f437e9fb322a35b6cd572211f7b1cd84b67f869be4da5b1525aa4310b50fc", func := "skewback/skewbacklaw26.RopeStaysIsSound", spec := "ropeStaysIsSound", unfollowed := true, recurses := true, named := ["math/bits.deBruijn32tab"], apart := false, laid := [("math/bits.deBruijn32tab", laid_math_bits_deBruijn32tab)] }
def RopeStaysIsSoundSaid : Prop := ropeStaysIsSoundRow.holds Tryz.pinned (OpenSpec.ofChange ropeStaysIsSoundSpec)

/-- ITS FALSE NEIGHBOUR: 'it returns false'. Refute it at one input. -/
def ropeStaysIsSoundWrong : ChangeSpec := { name := "ropeStaysIsSound", fn := fun _ => fun
  | [d1, d2, d3, d4, d5] => { results := [.lit (.bool false)], args := [d1, d2, d3, d4, d5] }
  | _ => none }
def RopeStaysIsSoundWrongFalsely : Prop := ropeStaysIsSoundRow.holds Tryz.pinned (OpenSpec.ofChange ropeStaysIsSoundWrong)

/-- 'skewbacklaw26.RopeHolds': WHATEVER THE INPUT: true; the input reads as it did. -/
def ropeHoldsSpec : ChangeSpec := { name := "ropeHolds", fn := fun _ => fun
  | [d1, d2, d3, d4, d5, d6] => { results := [.lit (.bool true)], args := [d1, d2, d3, d4, d5, d6] }
  | _ => none }
def ropeHoldsRow : OpenClaim := { program := "ytkjjponijamaoaagreatdoor", sum := "f50f437e9fb322a35b6cd572211f7b1cd84b67f869be4da5b1525aa4310b50fc", func := "skewback/skewbacklaw26.RopeHolds", spec := "ropeHolds", unfollowed := true, recurses := true, named := ["math/bits.deBruijn32tab"], apart := false, laid := [("math/bits.deBruijn32tab", laid_math_bits_deBruijn32tab)] }
def RopeHoldsSaid : Prop := ropeHoldsRow.holds Tryz.pinned (OpenSpec.ofChange ropeHoldsSpec)

/-- ITS FALSE NEIGHBOUR: 'it returns false'. Refute it at one input. -/
def ropeHoldsWrong : ChangeSpec := { name := "ropeHolds", fn := fun _ => fun
  | [d1, d2, d3, d4, d5, d6] => { results := [.lit (.bool false)], args := [d1, d2, d3, d4, d5, d6] }
  | _ => none }
def RopeHoldsWrongFalsely : Prop := ropeHoldsRow.holds Tryz.pinned (OpenSpec.ofChange ropeHoldsWrong)

/- THE SECOND FORM. 'bulk': how many values and letters a reading holds, each counted each time it is reached (what is shared counts as often as it is met; a slice's spare places count too). A statement '..UptoSaid' is the law's where the arguments, and the package variables that the reading takes, are together of bulk at most 1048576: NARROWER than '..Said'. Prove '..Said' where nothing that the law and all that it calls make is longer than what came in: it says more and counts as full. Else prove '..UptoSaid'. A law counts once. -/
mutual
def uptoBulk {H : Type} : DataW H → Nat
  | .lit (.string bytes) => bytes.length + 1
  | .lit _ => 1
  | .nil => 1
  | .ptr d => uptoBulk d + 1
  | .slice elems spare => uptoBulkAll elems + uptoBulkAll spare + 1
  | .agg parts => uptoBulkAll parts + 1
  | .iface _ d => uptoBulk d + 1
  | .map entries => uptoBulkEntries entries + 1
  | .held _ => 1
def uptoBulkAll {H : Type} : List (DataW H) → Nat
  | [] => 0
  | d :: r => uptoBulk d + uptoBulkAll r
def uptoBulkEntries {H : Type} : List (Lit × DataW H) → Nat
  | [] => 0
  | x :: r => uptoBulkEntry x + uptoBulkEntries r
def uptoBulkEntry {H : Type} : Lit × DataW H → Nat
  | (.string bytes, d) => bytes.length + uptoBulk d + 1
  | (_, d) => uptoBulk d + 1
 end
def uptoSmall : (H : Type) → List (DataW H) → Bool := fun _ ds => decide (uptoBulkAll ds ≤ 1048576)
def OpenSpec.upto (s : _root_.Go.ChangeSpec) : _root_.Go.OpenSpec := { _root_.Go.OpenSpec.ofChange s with cond := some uptoSmall }

/-- 'skewbacklaw26.RopePullsAsSpecified', WHERE WHAT IT READS IS OF BULK AT MOST 1048576: true; the input reads as it did. -/
def ropePullsAsSpecifiedUptoRow : OpenClaim := { program := "ytkjjponijamaoaagreatdoor", sum := "f50f437e9fb322a35b6cd572211f7b1cd84b67f869be4da5b1525aa4310b50fc", func := "skewback/skewbacklaw26.RopePullsAsSpecified", spec := "ropePullsAsSpecified", unfollowed := true, recurses := true, named := ["math/bits.deBruijn32tab"], apart := false, laid := [("math/bits.deBruijn32tab", laid_math_bits_deBruijn32tab)], narrowed := true }
def RopePullsAsSpecifiedUptoSaid : Prop := ropePullsAsSpecifiedUptoRow.holds Tryz.pinned (OpenSpec.upto ropePullsAsSpecifiedSpec)

/-- 'skewbacklaw26.RopeColumnsMatchSpec', WHERE WHAT IT READS IS OF BULK AT MOST 1048576: true; the input reads as it did. -/
def ropeColumnsMatchSpecUptoRow : OpenClaim := { program := "ytkjjponijamaoaagreatdoor", sum := "f50f437e9fb322a35b6cd572211f7b1cd84b67f869be4da5b1525aa4310b50fc", func := "skewback/skewbacklaw26.RopeColumnsMatchSpec", spec := "ropeColumnsMatchSpec", unfollowed := true, recurses := true, named := ["math/bits.deBruijn32tab"], apart := false, laid := [("math/bits.deBruijn32tab", laid_math_bits_deBruijn32tab)], narrowed := true }
def RopeColumnsMatchSpecUptoSaid : Prop := ropeColumnsMatchSpecUptoRow.holds Tryz.pinned (OpenSpec.upto ropeColumnsMatchSpecSpec)

/-- 'skewbacklaw26.RopeSlackMatchesSpec', WHERE WHAT IT READS IS OF BULK AT MOST 1048576: true; the input reads as it did. -/
def ropeSlackMatchesSpecUptoRow : OpenClaim := { program := "ytkjjponijamaoaagreatdoor", sum := "f50f437e9fb322a35b6cd572211f7b1cd84b67f869be4da5b1525aa4310b50fc", func := "skewback/skewbacklaw26.RopeSlackMatchesSpec", spec := "ropeSlackMatchesSpec", unfollowed := true, recurses := true, named := ["math/bits.deBruijn32tab"], apart := false, laid := [("math/bits.deBruijn32tab", laid_math_bits_deBruijn32tab)], narrowed := true }
def RopeSlackMatchesSpecUptoSaid : Prop := ropeSlackMatchesSpecUptoRow.holds Tryz.pinned (OpenSpec.upto ropeSlackMatchesSpecSpec)

/-- 'skewbacklaw26.RopeWorkAddsUp', WHERE WHAT IT READS IS OF BULK AT MOST 1048576: true; the input reads as it did. -/
def ropeWorkAddsUpUptoRow : OpenClaim := { program := "ytkjjponijamaoaagreatdoor", sum := "f50f437e9fb322a35b6cd572211f7b1cd84b67f869be4da5b1525aa4310b50fc", func := "skewback/skewbacklaw26.RopeWorkAddsUp", spec := "ropeWorkAddsUp", unfollowed := true, recurses := true, named := ["math/bits.deBruijn32tab"], apart := false, laid := [("math/bits.deBruijn32tab", laid_math_bits_deBruijn32tab)], narrowed := true }
def RopeWorkAddsUpUptoSaid : Prop := ropeWorkAddsUpUptoRow.holds Tryz.pinned (OpenSpec.upto ropeWorkAddsUpSpec)

/-- 'skewbacklaw26.RopeBalances', WHERE WHAT IT READS IS OF BULK AT MOST 1048576: true; the input reads as it did. -/
def ropeBalancesUptoRow : OpenClaim := { program := "ytkjjponijamaoaagreatdoor", sum := "f50f437e9fb322a35b6cd572211f7b1cd84b67f869be4da5b1525aa4310b50fc", func := "skewback/skewbacklaw26.RopeBalances", spec := "ropeBalances", unfollowed := true, recurses := true, named := ["math/bits.deBruijn32tab"], apart := false, laid := [("math/bits.deBruijn32tab", laid_math_bits_deBruijn32tab)], narrowed := true }
def RopeBalancesUptoSaid : Prop := ropeBalancesUptoRow.holds Tryz.pinned (OpenSpec.upto ropeBalancesSpec)

/-- 'skewbacklaw26.RopeLiftsAsSpecified', WHERE WHAT IT READS IS OF BULK AT MOST 1048576: true; the input reads as it did. -/
def ropeLiftsAsSpecifiedUptoRow : OpenClaim := { program := "ytkjjponijamaoaagreatdoor", sum := "f50f437e9fb322a35b6cd572211f7b1cd84b67f869be4da5b1525aa4310b50fc", func := "skewback/skewbacklaw26.RopeLiftsAsSpecified", spec := "ropeLiftsAsSpecified", unfollowed := true, recurses := true, named := ["math/bits.deBruijn32tab"], apart := false, laid := [("math/bits.deBruijn32tab", laid_math_bits_deBruijn32tab)], narrowed := true }
def RopeLiftsAsSpecifiedUptoSaid : Prop := ropeLiftsAsSpecifiedUptoRow.holds Tryz.pinned (OpenSpec.upto ropeLiftsAsSpecifiedSpec)

/-- 'skewbacklaw26.RopeLengthIsBounded', WHERE WHAT IT READS IS OF BULK AT MOST 1048576: true; the input reads as it did. -/
def ropeLengthIsBoundedUptoRow : OpenClaim := { program := "ytkjjponijamaoaagreatdoor", sum := "f50f437e9fb322a35b6cd572211f7b1cd84b67f869be4da5b1525aa4310b50fc", func := "skewback/skewbacklaw26.RopeLengthIsBounded", spec := "ropeLengthIsBounded", unfollowed := true, recurses := true, named := ["math/bits.deBruijn32tab"], apart := false, laid := [("math/bits.deBruijn32tab", laid_math_bits_deBruijn32tab)], narrowed := true }
def RopeLengthIsBoundedUptoSaid : Prop := ropeLengthIsBoundedUptoRow.holds Tryz.pinned (OpenSpec.upto ropeLengthIsBoundedSpec)

/-- 'skewbacklaw26.RopeStaysAsSpecified', WHERE WHAT IT READS IS OF BULK AT MOST 1048576: true; the input reads as it did. -/
def ropeStaysAsSpecifiedUptoRow : OpenClaim := { program := "ytkjjponijamaoaagreatdoor", sum := "f50f437e9fb322a35b6cd572211f7b1cd84b67f869be4da5b1525aa4310b50fc", func := "skewback/skewbacklaw26.RopeStaysAsSpecified", spec := "ropeStaysAsSpecified", unfollowed := true, recurses := true, named := ["math/bits.deBruijn32tab"], apart := false, laid := [("math/bits.deBruijn32tab", laid_math_bits_deBruijn32tab)], narrowed := true }
def RopeStaysAsSpecifiedUptoSaid : Prop := ropeStaysAsSpecifiedUptoRow.holds Tryz.pinned (OpenSpec.upto ropeStaysAsSpecifiedSpec)

/-- 'skewbacklaw26.RopeStaysIsSound', WHERE WHAT IT READS IS OF BULK AT MOST 1048576: true; the input reads as it did. -/
def ropeStaysIsSoundUptoRow : OpenClaim := { program := "ytkjjponijamaoaagreatdoor", sum := "f50f437e9fb322a35b6cd572211f7b1cd84b67f869be4da5b1525aa4310b50fc", func := "skewback/skewbacklaw26.RopeStaysIsSound", spec := "ropeStaysIsSound", unfollowed := true, recurses := true, named := ["math/bits.deBruijn32tab"], apart := false, laid := [("math/bits.deBruijn32tab", laid_math_bits_deBruijn32tab)], narrowed := true }
def RopeStaysIsSoundUptoSaid : Prop := ropeStaysIsSoundUptoRow.holds Tryz.pinned (OpenSpec.upto ropeStaysIsSoundSpec)

/-- 'skewbacklaw26.RopeHolds', WHERE WHAT IT READS IS OF BULK AT MOST 1048576: true; the input reads as it did. -/
def ropeHoldsUptoRow : OpenClaim := { program := "ytkjjponijamaoaagreatdoor", sum := "f50f437e9fb322a35b6cd572211f7b1cd84b67f869be4da5b1525aa4310b50fc", func := "skewback/skewbacklaw26.RopeHolds", spec := "ropeHolds", unfollowed := true, recurses := true, named := ["math/bits.deBruijn32tab"], apart := false, laid := [("math/bits.deBruijn32tab", laid_math_bits_deBruijn32tab)], narrowed := true }
def RopeHoldsUptoSaid : Prop := ropeHoldsUptoRow.holds Tryz.pinned (OpenSpec.upto ropeHoldsSpec)

end Rows
end Go.Proofs.YtkjjponijamaoaaGreatDoor
