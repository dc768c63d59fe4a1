/-
  No cell of these rows narrows 'for every input' (looked for: loops, veiled, ifaces, maps, wideKeys, modest, calm, conditions, laid).
  DERIVED. THE GIVEN ROWS OF THIS SEAT. 10 by the template 'for every input the law returns true; each argument reads behind the call as it read before'; 0 by the template 'total and deterministic' (their statements: YtoighcbbaacnaaaTotals.lean).
  GIVEN WITH THE SEED: the statements are not yours to turn. If you find one false, say at which input.
  Laid BY PROGRAM, IN A SANDBOX (cutbox-rows.mjs): the forced cells as the released guide's own fill.sh prints them over the translation 3e560a222523d96a… (all of the seat's roots in one cut). By AI agents, Wed Nov 11 2026. No macro, syntax, notation, axiom, sorry.
-/
import Derived.Test.YtoighcbbaacnaaaChecked
import GoSem.Claim
import GoSem.ClaimJoined
import GoSem.ClaimMapViews
import Derived.JoinedTies
import Derived.KernelRfl
namespace Go.Proofs.Ytoighcbbaacnaaa
/- THE CELL 'sum', in the pinned program and in every row, IS THE sha256 OF THE DUMP (.gsa) THAT YtoighcbbaacnaaaProg.lean LOADS. Nothing in Lean hashes anything: it is a label: what it is worth is what the hold of that sum in a sandbox is worth. -/
noncomputable def Try.pinned : Pinned := { name := "ytoighcbbaacnaaa", sum := "3e560a222523d96a909347db77f33f257ce7b57db652d0259831664fe3bfbfd6", checked := Try.checked }
namespace Rows
def none {H : Type} : Left H := { results := [], args := [] }

/-- 'isochronlaw04.CurveChecks': WHATEVER THE INPUT: true; the input reads as it did. -/
def curveChecksSpec : ChangeSpec := { name := "curveChecks", fn := fun _ => fun
  | [d1, d2, d3] => { results := [.lit (.bool true)], args := [d1, d2, d3] }
  | _ => none }
def curveChecksRow : OpenClaim := { program := "ytoighcbbaacnaaa", sum := "3e560a222523d96a909347db77f33f257ce7b57db652d0259831664fe3bfbfd6", func := "isochron/isochronlaw04.CurveChecks", spec := "curveChecks", unfollowed := true, recurses := true, named := ["math/bits.divideError", "math/bits.overflowError"], apart := false }
def CurveChecksSaid : Prop := curveChecksRow.holds Try.pinned (OpenSpec.ofChange curveChecksSpec)

/-- ITS FALSE NEIGHBOUR: 'it returns false'. Refute it at one input. -/
def curveChecksWrong : ChangeSpec := { name := "curveChecks", fn := fun _ => fun
  | [d1, d2, d3] => { results := [.lit (.bool false)], args := [d1, d2, d3] }
  | _ => none }
def CurveChecksWrongFalsely : Prop := curveChecksRow.holds Try.pinned (OpenSpec.ofChange curveChecksWrong)

/-- 'isochronlaw04.CurveDelays': WHATEVER THE INPUT: true; the input reads as it did. -/
def curveDelaysSpec : ChangeSpec := { name := "curveDelays", fn := fun _ => fun
  | [d1, d2, d3, d4, d5] => { results := [.lit (.bool true)], args := [d1, d2, d3, d4, d5] }
  | _ => none }
def curveDelaysRow : OpenClaim := { program := "ytoighcbbaacnaaa", sum := "3e560a222523d96a909347db77f33f257ce7b57db652d0259831664fe3bfbfd6", func := "isochron/isochronlaw04.CurveDelays", spec := "curveDelays", unfollowed := true, recurses := true, named := ["math/bits.divideError", "math/bits.overflowError"], apart := false }
def CurveDelaysSaid : Prop := curveDelaysRow.holds Try.pinned (OpenSpec.ofChange curveDelaysSpec)

/-- ITS FALSE NEIGHBOUR: 'it returns false'. Refute it at one input. -/
def curveDelaysWrong : ChangeSpec := { name := "curveDelays", fn := fun _ => fun
  | [d1, d2, d3, d4, d5] => { results := [.lit (.bool false)], args := [d1, d2, d3, d4, d5] }
  | _ => none }
def CurveDelaysWrongFalsely : Prop := curveDelaysRow.holds Try.pinned (OpenSpec.ofChange curveDelaysWrong)

/-- 'isochronlaw04.CurveBounds': WHATEVER THE INPUT: true; the input reads as it did. -/
def curveBoundsSpec : ChangeSpec := { name := "curveBounds", fn := fun _ => fun
  | [d1, d2, d3, d4] => { results := [.lit (.bool true)], args := [d1, d2, d3, d4] }
  | _ => none }
def curveBoundsRow : OpenClaim := { program := "ytoighcbbaacnaaa", sum := "3e560a222523d96a909347db77f33f257ce7b57db652d0259831664fe3bfbfd6", func := "isochron/isochronlaw04.CurveBounds", spec := "curveBounds", unfollowed := true, recurses := true, named := ["math/bits.divideError", "math/bits.overflowError"], apart := false }
def CurveBoundsSaid : Prop := curveBoundsRow.holds Try.pinned (OpenSpec.ofChange curveBoundsSpec)

/-- ITS FALSE NEIGHBOUR: 'it returns false'. Refute it at one input. -/
def curveBoundsWrong : ChangeSpec := { name := "curveBounds", fn := fun _ => fun
  | [d1, d2, d3, d4] => { results := [.lit (.bool false)], args := [d1, d2, d3, d4] }
  | _ => none }
def CurveBoundsWrongFalsely : Prop := curveBoundsRow.holds Try.pinned (OpenSpec.ofChange curveBoundsWrong)

/-- 'isochronlaw04.CurveDrains': WHATEVER THE INPUT: true; the input reads as it did. -/
def curveDrainsSpec : ChangeSpec := { name := "curveDrains", fn := fun _ => fun
  | [d1, d2, d3, d4] => { results := [.lit (.bool true)], args := [d1, d2, d3, d4] }
  | _ => none }
def curveDrainsRow : OpenClaim := { program := "ytoighcbbaacnaaa", sum := "3e560a222523d96a909347db77f33f257ce7b57db652d0259831664fe3bfbfd6", func := "isochron/isochronlaw04.CurveDrains", spec := "curveDrains", unfollowed := true, recurses := true, named := ["math/bits.divideError", "math/bits.overflowError"], apart := false }
def CurveDrainsSaid : Prop := curveDrainsRow.holds Try.pinned (OpenSpec.ofChange curveDrainsSpec)

/-- ITS FALSE NEIGHBOUR: 'it returns false'. Refute it at one input. -/
def curveDrainsWrong : ChangeSpec := { name := "curveDrains", fn := fun _ => fun
  | [d1, d2, d3, d4] => { results := [.lit (.bool false)], args := [d1, d2, d3, d4] }
  | _ => none }
def CurveDrainsWrongFalsely : Prop := curveDrainsRow.holds Try.pinned (OpenSpec.ofChange curveDrainsWrong)

/-- 'isochronlaw04.CurveTight': WHATEVER THE INPUT: true; the input reads as it did. -/
def curveTightSpec : ChangeSpec := { name := "curveTight", fn := fun _ => fun
  | [d1, d2, d3, d4] => { results := [.lit (.bool true)], args := [d1, d2, d3, d4] }
  | _ => none }
def curveTightRow : OpenClaim := { program := "ytoighcbbaacnaaa", sum := "3e560a222523d96a909347db77f33f257ce7b57db652d0259831664fe3bfbfd6", func := "isochron/isochronlaw04.CurveTight", spec := "curveTight", unfollowed := true, recurses := true, named := ["math/bits.divideError", "math/bits.overflowError"], apart := false }
def CurveTightSaid : Prop := curveTightRow.holds Try.pinned (OpenSpec.ofChange curveTightSpec)

/-- ITS FALSE NEIGHBOUR: 'it returns false'. Refute it at one input. -/
def curveTightWrong : ChangeSpec := { name := "curveTight", fn := fun _ => fun
  | [d1, d2, d3, d4] => { results := [.lit (.bool false)], args := [d1, d2, d3, d4] }
  | _ => none }
def CurveTightWrongFalsely : Prop := curveTightRow.holds Try.pinned (OpenSpec.ofChange curveTightWrong)

/-- 'isochronlaw04.CurveWaits': WHATEVER THE INPUT: true; the input reads as it did. -/
def curveWaitsSpec : ChangeSpec := { name := "curveWaits", fn := fun _ => fun
  | [d1, d2, d3, d4] => { results := [.lit (.bool true)], args := [d1, d2, d3, d4] }
  | _ => none }
def curveWaitsRow : OpenClaim := { program := "ytoighcbbaacnaaa", sum := "3e560a222523d96a909347db77f33f257ce7b57db652d0259831664fe3bfbfd6", func := "isochron/isochronlaw04.CurveWaits", spec := "curveWaits", unfollowed := true, recurses := true, named := ["math/bits.divideError", "math/bits.overflowError"], apart := false }
def CurveWaitsSaid : Prop := curveWaitsRow.holds Try.pinned (OpenSpec.ofChange curveWaitsSpec)

/-- ITS FALSE NEIGHBOUR: 'it returns false'. Refute it at one input. -/
def curveWaitsWrong : ChangeSpec := { name := "curveWaits", fn := fun _ => fun
  | [d1, d2, d3, d4] => { results := [.lit (.bool false)], args := [d1, d2, d3, d4] }
  | _ => none }
def CurveWaitsWrongFalsely : Prop := curveWaitsRow.holds Try.pinned (OpenSpec.ofChange curveWaitsWrong)

/-- 'isochronlaw04.CurveJoins': WHATEVER THE INPUT: true; the input reads as it did. -/
def curveJoinsSpec : ChangeSpec := { name := "curveJoins", fn := fun _ => fun
  | [d1, d2, d3] => { results := [.lit (.bool true)], args := [d1, d2, d3] }
  | _ => none }
def curveJoinsRow : OpenClaim := { program := "ytoighcbbaacnaaa", sum := "3e560a222523d96a909347db77f33f257ce7b57db652d0259831664fe3bfbfd6", func := "isochron/isochronlaw04.CurveJoins", spec := "curveJoins", unfollowed := true, recurses := true, named := ["math/bits.divideError", "math/bits.overflowError"], apart := false }
def CurveJoinsSaid : Prop := curveJoinsRow.holds Try.pinned (OpenSpec.ofChange curveJoinsSpec)

/-- ITS FALSE NEIGHBOUR: 'it returns false'. Refute it at one input. -/
def curveJoinsWrong : ChangeSpec := { name := "curveJoins", fn := fun _ => fun
  | [d1, d2, d3] => { results := [.lit (.bool false)], args := [d1, d2, d3] }
  | _ => none }
def CurveJoinsWrongFalsely : Prop := curveJoinsRow.holds Try.pinned (OpenSpec.ofChange curveJoinsWrong)

/-- 'isochronlaw04.CurveKnown': WHATEVER THE INPUT: true; the input reads as it did. -/
def curveKnownSpec : ChangeSpec := { name := "curveKnown", fn := fun _ => fun
  | [] => { results := [.lit (.bool true)], args := [] }
  | _ => none }
def curveKnownRow : OpenClaim := { program := "ytoighcbbaacnaaa", sum := "3e560a222523d96a909347db77f33f257ce7b57db652d0259831664fe3bfbfd6", func := "isochron/isochronlaw04.CurveKnown", spec := "curveKnown", unfollowed := true, recurses := true, named := ["math/bits.divideError", "math/bits.overflowError"], apart := false }
def CurveKnownSaid : Prop := curveKnownRow.holds Try.pinned (OpenSpec.ofChange curveKnownSpec)

/-- ITS FALSE NEIGHBOUR: 'it returns false'. Refute it at one input. -/
def curveKnownWrong : ChangeSpec := { name := "curveKnown", fn := fun _ => fun
  | [] => { results := [.lit (.bool false)], args := [] }
  | _ => none }
def CurveKnownWrongFalsely : Prop := curveKnownRow.holds Try.pinned (OpenSpec.ofChange curveKnownWrong)

/-- 'isochronlaw04.CurveHolds': WHATEVER THE INPUT: true; the input reads as it did. -/
def curveHoldsSpec : ChangeSpec := { name := "curveHolds", fn := fun _ => fun
  | [d1, d2, d3, d4, d5] => { results := [.lit (.bool true)], args := [d1, d2, d3, d4, d5] }
  | _ => none }
def curveHoldsRow : OpenClaim := { program := "ytoighcbbaacnaaa", sum := "3e560a222523d96a909347db77f33f257ce7b57db652d0259831664fe3bfbfd6", func := "isochron/isochronlaw04.CurveHolds", spec := "curveHolds", unfollowed := true, recurses := true, named := ["math/bits.divideError", "math/bits.overflowError"], apart := false }
def CurveHoldsSaid : Prop := curveHoldsRow.holds Try.pinned (OpenSpec.ofChange curveHoldsSpec)

/-- ITS FALSE NEIGHBOUR: 'it returns false'. Refute it at one input. -/
def curveHoldsWrong : ChangeSpec := { name := "curveHolds", fn := fun _ => fun
  | [d1, d2, d3, d4, d5] => { results := [.lit (.bool false)], args := [d1, d2, d3, d4, d5] }
  | _ => none }
def CurveHoldsWrongFalsely : Prop := curveHoldsRow.holds Try.pinned (OpenSpec.ofChange curveHoldsWrong)

/-- 'isochronlaw04.CurveOutput': WHATEVER THE INPUT: true; the input reads as it did. -/
def curveOutputSpec : ChangeSpec := { name := "curveOutput", fn := fun _ => fun
  | [d1, d2, d3, d4] => { results := [.lit (.bool true)], args := [d1, d2, d3, d4] }
  | _ => none }
def curveOutputRow : OpenClaim := { program := "ytoighcbbaacnaaa", sum := "3e560a222523d96a909347db77f33f257ce7b57db652d0259831664fe3bfbfd6", func := "isochron/isochronlaw04.CurveOutput", spec := "curveOutput", unfollowed := true, recurses := true, named := ["math/bits.divideError", "math/bits.overflowError"], apart := false }
def CurveOutputSaid : Prop := curveOutputRow.holds Try.pinned (OpenSpec.ofChange curveOutputSpec)

/-- ITS FALSE NEIGHBOUR: 'it returns false'. Refute it at one input. -/
def curveOutputWrong : ChangeSpec := { name := "curveOutput", fn := fun _ => fun
  | [d1, d2, d3, d4] => { results := [.lit (.bool false)], args := [d1, d2, d3, d4] }
  | _ => none }
def CurveOutputWrongFalsely : Prop := curveOutputRow.holds Try.pinned (OpenSpec.ofChange curveOutputWrong)

/- THE SECOND FORM. 'bulk': how many values and letters a reading holds, each counted each time it is reached (what is shared counts as often as it is met; a slice's spare places count too). A statement '..UptoSaid' is the law's where the arguments, and the package variables that the reading takes, are together of bulk at most 1048576: NARROWER than '..Said'. Prove '..Said' where nothing that the law and all that it calls make is longer than what came in: it says more and counts as full. Else prove '..UptoSaid'. A law counts once. -/
mutual
def uptoBulk {H : Type} : DataW H → Nat
  | .lit (.string bytes) => bytes.length + 1
  | .lit _ => 1
  | .nil => 1
  | .ptr d => uptoBulk d + 1
  | .slice elems spare => uptoBulkAll elems + uptoBulkAll spare + 1
  | .agg parts => uptoBulkAll parts + 1
  | .iface _ d => uptoBulk d + 1
  | .map entries => uptoBulkEntries entries + 1
  | .held _ => 1
def uptoBulkAll {H : Type} : List (DataW H) → Nat
  | [] => 0
  | d :: r => uptoBulk d + uptoBulkAll r
def uptoBulkEntries {H : Type} : List (Lit × DataW H) → Nat
  | [] => 0
  | x :: r => uptoBulkEntry x + uptoBulkEntries r
def uptoBulkEntry {H : Type} : Lit × DataW H → Nat
  | (.string bytes, d) => bytes.length + uptoBulk d + 1
  | (_, d) => uptoBulk d + 1
 end
def uptoSmall : (H : Type) → List (DataW H) → Bool := fun _ ds => decide (uptoBulkAll ds ≤ 1048576)
def OpenSpec.upto (s : _root_.Go.ChangeSpec) : _root_.Go.OpenSpec := { _root_.Go.OpenSpec.ofChange s with cond := some uptoSmall }

/-- 'isochronlaw04.CurveChecks', WHERE WHAT IT READS IS OF BULK AT MOST 1048576: true; the input reads as it did. -/
def curveChecksUptoRow : OpenClaim := { program := "ytoighcbbaacnaaa", sum := "3e560a222523d96a909347db77f33f257ce7b57db652d0259831664fe3bfbfd6", func := "isochron/isochronlaw04.CurveChecks", spec := "curveChecks", unfollowed := true, recurses := true, named := ["math/bits.divideError", "math/bits.overflowError"], apart := false, narrowed := true }
def CurveChecksUptoSaid : Prop := curveChecksUptoRow.holds Try.pinned (OpenSpec.upto curveChecksSpec)

/-- 'isochronlaw04.CurveDelays', WHERE WHAT IT READS IS OF BULK AT MOST 1048576: true; the input reads as it did. -/
def curveDelaysUptoRow : OpenClaim := { program := "ytoighcbbaacnaaa", sum := "3e560a222523d96a909347db77f33f257ce7b57db652d0259831664fe3bfbfd6", func := "isochron/isochronlaw04.CurveDelays", spec := "curveDelays", unfollowed := true, recurses := true, named := ["math/bits.divideError", "math/bits.overflowError"], apart := false, narrowed := true }
def CurveDelaysUptoSaid : Prop := curveDelaysUptoRow.holds Try.pinned (OpenSpec.upto curveDelaysSpec)

/-- 'isochronlaw04.CurveBounds', WHERE WHAT IT READS IS OF BULK AT MOST 1048576: true; the input reads as it did. -/
def curveBoundsUptoRow : OpenClaim := { program := "ytoighcbbaacnaaa", sum := "3e560a222523d96a909347db77f33f257ce7b57db652d0259831664fe3bfbfd6", func := "isochron/isochronlaw04.CurveBounds", spec := "curveBounds", unfollowed := true, recurses := true, named := ["math/bits.divideError", "math/bits.overflowError"], apart := false, narrowed := true }
def CurveBoundsUptoSaid : Prop := curveBoundsUptoRow.holds Try.pinned (OpenSpec.upto curveBoundsSpec)

/-- 'isochronlaw04.CurveDrains', WHERE WHAT IT READS IS OF BULK AT MOST 1048576: true; the input reads as it did. -/
def curveDrainsUptoRow : OpenClaim := { program := "ytoighcbbaacnaaa", sum := "3e560a222523d96a909347db77f33f257ce7b57db652d0259831664fe3bfbfd6", func := "isochron/isochronlaw04.CurveDrains", spec := "curveDrains", unfollowed := true, recurses := true, named := ["math/bits.divideError", "math/bits.overflowError"], apart := false, narrowed := true }
def CurveDrainsUptoSaid : Prop := curveDrainsUptoRow.holds Try.pinned (OpenSpec.upto curveDrainsSpec)

/-- 'isochronlaw04.CurveTight', WHERE WHAT IT READS IS OF BULK AT MOST 1048576: true; the input reads as it did. -/
def curveTightUptoRow : OpenClaim := { program := "ytoighcbbaacnaaa", sum := "3e560a222523d96a909347db77f33f257ce7b57db652d0259831664fe3bfbfd6", func := "isochron/isochronlaw04.CurveTight", spec := "curveTight", unfollowed := true, recurses := true, named := ["math/bits.divideError", "math/bits.overflowError"], apart := false, narrowed := true }
def CurveTightUptoSaid : Prop := curveTightUptoRow.holds Try.pinned (OpenSpec.upto curveTightSpec)

/-- 'isochronlaw04.CurveWaits', WHERE WHAT IT READS IS OF BULK AT MOST 1048576: true; the input reads as it did. -/
def curveWaitsUptoRow : OpenClaim := { program := "ytoighcbbaacnaaa", sum := "3e560a222523d96a909347db77f33f257ce7b57db652d0259831664fe3bfbfd6", func := "isochron/isochronlaw04.CurveWaits", spec := "curveWaits", unfollowed := true, recurses := true, named := ["math/bits.divideError", "math/bits.overflowError"], apart := false, narrowed := true }
def CurveWaitsUptoSaid : Prop := curveWaitsUptoRow.holds Try.pinned (OpenSpec.upto curveWaitsSpec)

/-- 'isochronlaw04.CurveJoins', WHERE WHAT IT READS IS OF BULK AT MOST 1048576: true; the input reads as it did. -/
def curveJoinsUptoRow : OpenClaim := { program := "ytoighcbbaacnaaa", sum := "3e560a222523d96a909347db77f33f257ce7b57db652d0259831664fe3bfbfd6", func := "isochron/isochronlaw04.CurveJoins", spec := "curveJoins", unfollowed := true, recurses := true, named := ["math/bits.divideError", "math/bits.overflowError"], apart := false, narrowed := true }
def CurveJoinsUptoSaid : Prop := curveJoinsUptoRow.holds Try.pinned (OpenSpec.upto curveJoinsSpec)

/-- 'isochronlaw04.CurveKnown', WHERE WHAT IT READS IS OF BULK AT MOST 1048576: true; the input reads as it did. -/
def curveKnownUptoRow : OpenClaim := { program := "ytoighcbbaacnaaa", sum := "3e560a222523d96a909347db77f33f257ce7b57db652d0259831664fe3bfbfd6", func := "isochron/isochronlaw04.CurveKnown", spec := "curveKnown", unfollowed := true, recurses := true, named := ["math/bits.divideError", "math/bits.overflowError"], apart := false, narrowed := true }
def CurveKnownUptoSaid : Prop := curveKnownUptoRow.holds Try.pinned (OpenSpec.upto curveKnownSpec)

/-- 'isochronlaw04.CurveHolds', WHERE WHAT IT READS IS OF BULK AT MOST 1048576: true; the input reads as it did. -/
def curveHoldsUptoRow : OpenClaim := { program := "ytoighcbbaacnaaa", sum := "3e560a222523d96a909347db77f33f257ce7b57db652d0259831664fe3bfbfd6", func := "isochron/isochronlaw04.CurveHolds", spec := "curveHolds", unfollowed := true, recurses := true, named := ["math/bits.divideError", "math/bits.overflowError"], apart := false, narrowed := true }
def CurveHoldsUptoSaid : Prop := curveHoldsUptoRow.holds Try.pinned (OpenSpec.upto curveHoldsSpec)

/-- 'isochronlaw04.CurveOutput', WHERE WHAT IT READS IS OF BULK AT MOST 1048576: true; the input reads as it did. -/
def curveOutputUptoRow : OpenClaim := { program := "ytoighcbbaacnaaa", sum := "3e560a222523d96a909347db77f33f257ce7b57db652d0259831664fe3bfbfd6", func := "isochron/isochronlaw04.CurveOutput", spec := "curveOutput", unfollowed := true, recurses := true, named := ["math/bits.divideError", "math/bits.overflowError"], apart := false, narrowed := true }
def CurveOutputUptoSaid : Prop := curveOutputUptoRow.holds Try.pinned (OpenSpec.upto curveOutputSpec)

end Rows
end Go.Proofs.Ytoighcbbaacnaaa
