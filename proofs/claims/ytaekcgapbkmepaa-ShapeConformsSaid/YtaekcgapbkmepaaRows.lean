/-
  No cell of these rows narrows 'for every input' (looked for: loops, veiled, ifaces, maps, wideKeys, modest, calm, conditions, laid).
  DERIVED. THE GIVEN ROWS OF THIS SEAT. 6 by the template 'for every input the law returns true; each argument reads behind the call as it read before'; 0 by the template 'total and deterministic' (their statements: YtaekcgapbkmepaaTotals.lean).
  GIVEN WITH THE SEED: the statements are not yours to turn. If you find one false, say at which input.
  Laid BY PROGRAM, IN A SANDBOX (cutbox-rows.mjs): the forced cells as the released guide's own fill.sh prints them over the translation 5f38d98320bc3457… (all of the seat's roots in one cut). By AI agents, Wed Nov 11 2026. No macro, syntax, notation, axiom, sorry.
-/
import Derived.Test.YtaekcgapbkmepaaChecked
import GoSem.Claim
import GoSem.ClaimJoined
import GoSem.ClaimMapViews
import Derived.JoinedTies
import Derived.KernelRfl
namespace Go.Proofs.Ytaekcgapbkmepaa
/- THE CELL 'sum', in the pinned program and in every row, IS THE sha256 OF THE DUMP (.gsa) THAT YtaekcgapbkmepaaProg.lean LOADS. Nothing in Lean hashes anything: it is a label: what it is worth is what the hold of that sum in a sandbox is worth. -/
noncomputable def Try.pinned : Pinned := { name := "ytaekcgapbkmepaa", sum := "5f38d98320bc3457ce2c2845121345f52ab948172694158f57fc19a741ef0e39", checked := Try.checked }
namespace Rows
def none {H : Type} : Left H := { results := [], args := [] }

/-- 'isochronlaw34.ShapeTimes': WHATEVER THE INPUT: true; the input reads as it did. -/
def shapeTimesSpec : ChangeSpec := { name := "shapeTimes", fn := fun _ => fun
  | [d1, d2, d3, d4] => { results := [.lit (.bool true)], args := [d1, d2, d3, d4] }
  | _ => none }
def shapeTimesRow : OpenClaim := { program := "ytaekcgapbkmepaa", sum := "5f38d98320bc3457ce2c2845121345f52ab948172694158f57fc19a741ef0e39", func := "isochron/isochronlaw34.ShapeTimes", spec := "shapeTimes", unfollowed := true, recurses := true, named := ["math/bits.divideError", "math/bits.overflowError"], apart := false }
def ShapeTimesSaid : Prop := shapeTimesRow.holds Try.pinned (OpenSpec.ofChange shapeTimesSpec)

/-- ITS FALSE NEIGHBOUR: 'it returns false'. Refute it at one input. -/
def shapeTimesWrong : ChangeSpec := { name := "shapeTimes", fn := fun _ => fun
  | [d1, d2, d3, d4] => { results := [.lit (.bool false)], args := [d1, d2, d3, d4] }
  | _ => none }
def ShapeTimesWrongFalsely : Prop := shapeTimesRow.holds Try.pinned (OpenSpec.ofChange shapeTimesWrong)

/-- 'isochronlaw34.ShapeRuns': WHATEVER THE INPUT: true; the input reads as it did. -/
def shapeRunsSpec : ChangeSpec := { name := "shapeRuns", fn := fun _ => fun
  | [d1, d2, d3] => { results := [.lit (.bool true)], args := [d1, d2, d3] }
  | _ => none }
def shapeRunsRow : OpenClaim := { program := "ytaekcgapbkmepaa", sum := "5f38d98320bc3457ce2c2845121345f52ab948172694158f57fc19a741ef0e39", func := "isochron/isochronlaw34.ShapeRuns", spec := "shapeRuns", unfollowed := true, recurses := true, named := ["math/bits.divideError", "math/bits.overflowError"], apart := false }
def ShapeRunsSaid : Prop := shapeRunsRow.holds Try.pinned (OpenSpec.ofChange shapeRunsSpec)

/-- ITS FALSE NEIGHBOUR: 'it returns false'. Refute it at one input. -/
def shapeRunsWrong : ChangeSpec := { name := "shapeRuns", fn := fun _ => fun
  | [d1, d2, d3] => { results := [.lit (.bool false)], args := [d1, d2, d3] }
  | _ => none }
def ShapeRunsWrongFalsely : Prop := shapeRunsRow.holds Try.pinned (OpenSpec.ofChange shapeRunsWrong)

/-- 'isochronlaw34.ShapeFree': WHATEVER THE INPUT: true; the input reads as it did. -/
def shapeFreeSpec : ChangeSpec := { name := "shapeFree", fn := fun _ => fun
  | [d1, d2, d3] => { results := [.lit (.bool true)], args := [d1, d2, d3] }
  | _ => none }
def shapeFreeRow : OpenClaim := { program := "ytaekcgapbkmepaa", sum := "5f38d98320bc3457ce2c2845121345f52ab948172694158f57fc19a741ef0e39", func := "isochron/isochronlaw34.ShapeFree", spec := "shapeFree", unfollowed := true, recurses := true, named := ["math/bits.divideError", "math/bits.overflowError"], apart := false }
def ShapeFreeSaid : Prop := shapeFreeRow.holds Try.pinned (OpenSpec.ofChange shapeFreeSpec)

/-- ITS FALSE NEIGHBOUR: 'it returns false'. Refute it at one input. -/
def shapeFreeWrong : ChangeSpec := { name := "shapeFree", fn := fun _ => fun
  | [d1, d2, d3] => { results := [.lit (.bool false)], args := [d1, d2, d3] }
  | _ => none }
def ShapeFreeWrongFalsely : Prop := shapeFreeRow.holds Try.pinned (OpenSpec.ofChange shapeFreeWrong)

/-- 'isochronlaw34.ShapeSteps': WHATEVER THE INPUT: true; the input reads as it did. -/
def shapeStepsSpec : ChangeSpec := { name := "shapeSteps", fn := fun _ => fun
  | [d1, d2] => { results := [.lit (.bool true)], args := [d1, d2] }
  | _ => none }
def shapeStepsRow : OpenClaim := { program := "ytaekcgapbkmepaa", sum := "5f38d98320bc3457ce2c2845121345f52ab948172694158f57fc19a741ef0e39", func := "isochron/isochronlaw34.ShapeSteps", spec := "shapeSteps", unfollowed := true, recurses := true, named := ["math/bits.divideError", "math/bits.overflowError"], apart := false }
def ShapeStepsSaid : Prop := shapeStepsRow.holds Try.pinned (OpenSpec.ofChange shapeStepsSpec)

/-- ITS FALSE NEIGHBOUR: 'it returns false'. Refute it at one input. -/
def shapeStepsWrong : ChangeSpec := { name := "shapeSteps", fn := fun _ => fun
  | [d1, d2] => { results := [.lit (.bool false)], args := [d1, d2] }
  | _ => none }
def ShapeStepsWrongFalsely : Prop := shapeStepsRow.holds Try.pinned (OpenSpec.ofChange shapeStepsWrong)

/-- 'isochronlaw34.ShapeKnown': WHATEVER THE INPUT: true; the input reads as it did. -/
def shapeKnownSpec : ChangeSpec := { name := "shapeKnown", fn := fun _ => fun
  | [] => { results := [.lit (.bool true)], args := [] }
  | _ => none }
def shapeKnownRow : OpenClaim := { program := "ytaekcgapbkmepaa", sum := "5f38d98320bc3457ce2c2845121345f52ab948172694158f57fc19a741ef0e39", func := "isochron/isochronlaw34.ShapeKnown", spec := "shapeKnown", unfollowed := true, recurses := true, named := ["math/bits.divideError", "math/bits.overflowError"], apart := false }
def ShapeKnownSaid : Prop := shapeKnownRow.holds Try.pinned (OpenSpec.ofChange shapeKnownSpec)

/-- ITS FALSE NEIGHBOUR: 'it returns false'. Refute it at one input. -/
def shapeKnownWrong : ChangeSpec := { name := "shapeKnown", fn := fun _ => fun
  | [] => { results := [.lit (.bool false)], args := [] }
  | _ => none }
def ShapeKnownWrongFalsely : Prop := shapeKnownRow.holds Try.pinned (OpenSpec.ofChange shapeKnownWrong)

/-- 'isochronlaw34.ShapeConforms': WHATEVER THE INPUT: true; the input reads as it did. -/
def shapeConformsSpec : ChangeSpec := { name := "shapeConforms", fn := fun _ => fun
  | [d] => { results := [.lit (.bool true)], args := [d] }
  | _ => none }
def shapeConformsRow : OpenClaim := { program := "ytaekcgapbkmepaa", sum := "5f38d98320bc3457ce2c2845121345f52ab948172694158f57fc19a741ef0e39", func := "isochron/isochronlaw34.ShapeConforms", spec := "shapeConforms", unfollowed := true, recurses := true, named := ["math/bits.divideError", "math/bits.overflowError"], apart := false }
def ShapeConformsSaid : Prop := shapeConformsRow.holds Try.pinned (OpenSpec.ofChange shapeConformsSpec)

/-- ITS FALSE NEIGHBOUR: 'it returns false'. Refute it at one input. -/
def shapeConformsWrong : ChangeSpec := { name := "shapeConforms", fn := fun _ => fun
  | [d] => { results := [.lit (.bool false)], args := [d] }
  | _ => none }
def ShapeConformsWrongFalsely : Prop := shapeConformsRow.holds Try.pinned (OpenSpec.ofChange shapeConformsWrong)

/- THE SECOND FORM. 'bulk': how many values and letters a reading holds, each counted each time it is reached (what is shared counts as often as it is met; a slice's spare places count too). A statement '..UptoSaid' is the law's where the arguments, and the package variables that the reading takes, are together of bulk at most 1048576: NARROWER than '..Said'. Prove '..Said' where nothing that the law and all that it calls make is longer than what came in: it says more and counts as full. Else prove '..UptoSaid'. A law counts once. -/
mutual
def uptoBulk {H : Type} : DataW H → Nat
  | .lit (.string bytes) => bytes.length + 1
  | .lit _ => 1
  | .nil => 1
  | .ptr d => uptoBulk d + 1
  | .slice elems spare => uptoBulkAll elems + uptoBulkAll spare + 1
  | .agg parts => uptoBulkAll parts + 1
  | .iface _ d => uptoBulk d + 1
  | .map entries => uptoBulkEntries entries + 1
  | .held _ => 1
def uptoBulkAll {H : Type} : List (DataW H) → Nat
  | [] => 0
  | d :: r => uptoBulk d + uptoBulkAll r
def uptoBulkEntries {H : Type} : List (Lit × DataW H) → Nat
  | [] => 0
  | x :: r => uptoBulkEntry x + uptoBulkEntries r
def uptoBulkEntry {H : Type} : Lit × DataW H → Nat
  | (.string bytes, d) => bytes.length + uptoBulk d + 1
  | (_, d) => uptoBulk d + 1
 end
def uptoSmall : (H : Type) → List (DataW H) → Bool := fun _ ds => decide (uptoBulkAll ds ≤ 1048576)
def OpenSpec.upto (s : _root_.Go.ChangeSpec) : _root_.Go.OpenSpec := { _root_.Go.OpenSpec.ofChange s with cond := some uptoSmall }

/-- 'isochronlaw34.ShapeTimes', WHERE WHAT IT READS IS OF BULK AT MOST 1048576: true; the input reads as it did. -/
def shapeTimesUptoRow : OpenClaim := { program := "ytaekcgapbkmepaa", sum := "5f38d98320bc3457ce2c2845121345f52ab948172694158f57fc19a741ef0e39", func := "isochron/isochronlaw34.ShapeTimes", spec := "shapeTimes", unfollowed := true, recurses := true, named := ["math/bits.divideError", "math/bits.overflowError"], apart := false, narrowed := true }
def ShapeTimesUptoSaid : Prop := shapeTimesUptoRow.holds Try.pinned (OpenSpec.upto shapeTimesSpec)

/-- 'isochronlaw34.ShapeRuns', WHERE WHAT IT READS IS OF BULK AT MOST 1048576: true; the input reads as it did. -/
def shapeRunsUptoRow : OpenClaim := { program := "ytaekcgapbkmepaa", sum := "5f38d98320bc3457ce2c2845121345f52ab948172694158f57fc19a741ef0e39", func := "isochron/isochronlaw34.ShapeRuns", spec := "shapeRuns", unfollowed := true, recurses := true, named := ["math/bits.divideError", "math/bits.overflowError"], apart := false, narrowed := true }
def ShapeRunsUptoSaid : Prop := shapeRunsUptoRow.holds Try.pinned (OpenSpec.upto shapeRunsSpec)

/-- 'isochronlaw34.ShapeFree', WHERE WHAT IT READS IS OF BULK AT MOST 1048576: true; the input reads as it did. -/
def shapeFreeUptoRow : OpenClaim := { program := "ytaekcgapbkmepaa", sum := "5f38d98320bc3457ce2c2845121345f52ab948172694158f57fc19a741ef0e39", func := "isochron/isochronlaw34.ShapeFree", spec := "shapeFree", unfollowed := true, recurses := true, named := ["math/bits.divideError", "math/bits.overflowError"], apart := false, narrowed := true }
def ShapeFreeUptoSaid : Prop := shapeFreeUptoRow.holds Try.pinned (OpenSpec.upto shapeFreeSpec)

/-- 'isochronlaw34.ShapeSteps', WHERE WHAT IT READS IS OF BULK AT MOST 1048576: true; the input reads as it did. -/
def shapeStepsUptoRow : OpenClaim := { program := "ytaekcgapbkmepaa", sum := "5f38d98320bc3457ce2c2845121345f52ab948172694158f57fc19a741ef0e39", func := "isochron/isochronlaw34.ShapeSteps", spec := "shapeSteps", unfollowed := true, recurses := true, named := ["math/bits.divideError", "math/bits.overflowError"], apart := false, narrowed := true }
def ShapeStepsUptoSaid : Prop := shapeStepsUptoRow.holds Try.pinned (OpenSpec.upto shapeStepsSpec)

/-- 'isochronlaw34.ShapeKnown', WHERE WHAT IT READS IS OF BULK AT MOST 1048576: true; the input reads as it did. -/
def shapeKnownUptoRow : OpenClaim := { program := "ytaekcgapbkmepaa", sum := "5f38d98320bc3457ce2c2845121345f52ab948172694158f57fc19a741ef0e39", func := "isochron/isochronlaw34.ShapeKnown", spec := "shapeKnown", unfollowed := true, recurses := true, named := ["math/bits.divideError", "math/bits.overflowError"], apart := false, narrowed := true }
def ShapeKnownUptoSaid : Prop := shapeKnownUptoRow.holds Try.pinned (OpenSpec.upto shapeKnownSpec)

/-- 'isochronlaw34.ShapeConforms', WHERE WHAT IT READS IS OF BULK AT MOST 1048576: true; the input reads as it did. -/
def shapeConformsUptoRow : OpenClaim := { program := "ytaekcgapbkmepaa", sum := "5f38d98320bc3457ce2c2845121345f52ab948172694158f57fc19a741ef0e39", func := "isochron/isochronlaw34.ShapeConforms", spec := "shapeConforms", unfollowed := true, recurses := true, named := ["math/bits.divideError", "math/bits.overflowError"], apart := false, narrowed := true }
def ShapeConformsUptoSaid : Prop := shapeConformsUptoRow.holds Try.pinned (OpenSpec.upto shapeConformsSpec)

end Rows
end Go.Proofs.Ytaekcgapbkmepaa
