/-
  No cell of these rows narrows 'for every input' (looked for: loops, veiled, ifaces, maps, wideKeys, modest, calm, conditions, laid).
  DERIVED. THE GIVEN ROWS OF THIS SEAT. 7 by the template 'for every input the law returns true; each argument reads behind the call as it read before'; 0 by the template 'total and deterministic' (their statements: YtecofcjlokfkhaaTotals.lean).
  GIVEN WITH THE SEED: the statements are not yours to turn. If you find one false, say at which input.
  Laid BY PROGRAM, IN A SANDBOX (cutbox-rows.mjs): the forced cells as the released guide's own fill.sh prints them over the translation 0b5c5e1740717a5e… (all of the seat's roots in one cut). By AI agents, Wed Nov 11 2026. No macro, syntax, notation, axiom, sorry.
-/
import Derived.Test.YtecofcjlokfkhaaChecked
import GoSem.Claim
import GoSem.ClaimJoined
import GoSem.ClaimMapViews
import Derived.JoinedTies
import Derived.KernelRfl
namespace Go.Proofs.Ytecofcjlokfkhaa
/- THE CELL 'sum', in the pinned program and in every row, IS THE sha256 OF THE DUMP (.gsa) THAT YtecofcjlokfkhaaProg.lean LOADS. Nothing in Lean hashes anything: it is a label: what it is worth is what the hold of that sum in a sandbox is worth. -/
noncomputable def Try.pinned : Pinned := { name := "ytecofcjlokfkhaa", sum := "0b5c5e1740717a5e10b356e3966277d35feab87d57771a05ddc9277e46d3ac4a", checked := Try.checked }
namespace Rows
def none {H : Type} : Left H := { results := [], args := [] }

/-- 'isochronlaw03.BucketChecks': WHATEVER THE INPUT: true; the input reads as it did. -/
def bucketChecksSpec : ChangeSpec := { name := "bucketChecks", fn := fun _ => fun
  | [d1, d2, d3, d4, d5] => { results := [.lit (.bool true)], args := [d1, d2, d3, d4, d5] }
  | _ => none }
def bucketChecksRow : OpenClaim := { program := "ytecofcjlokfkhaa", sum := "0b5c5e1740717a5e10b356e3966277d35feab87d57771a05ddc9277e46d3ac4a", func := "isochron/isochronlaw03.BucketChecks", spec := "bucketChecks", unfollowed := true, recurses := true, named := ["math/bits.divideError", "math/bits.overflowError"], apart := false }
def BucketChecksSaid : Prop := bucketChecksRow.holds Try.pinned (OpenSpec.ofChange bucketChecksSpec)

/-- ITS FALSE NEIGHBOUR: 'it returns false'. Refute it at one input. -/
def bucketChecksWrong : ChangeSpec := { name := "bucketChecks", fn := fun _ => fun
  | [d1, d2, d3, d4, d5] => { results := [.lit (.bool false)], args := [d1, d2, d3, d4, d5] }
  | _ => none }
def BucketChecksWrongFalsely : Prop := bucketChecksRow.holds Try.pinned (OpenSpec.ofChange bucketChecksWrong)

/-- 'isochronlaw03.BucketConforms': WHATEVER THE INPUT: true; the input reads as it did. -/
def bucketConformsSpec : ChangeSpec := { name := "bucketConforms", fn := fun _ => fun
  | [d1, d2, d3, d4, d5] => { results := [.lit (.bool true)], args := [d1, d2, d3, d4, d5] }
  | _ => none }
def bucketConformsRow : OpenClaim := { program := "ytecofcjlokfkhaa", sum := "0b5c5e1740717a5e10b356e3966277d35feab87d57771a05ddc9277e46d3ac4a", func := "isochron/isochronlaw03.BucketConforms", spec := "bucketConforms", unfollowed := true, recurses := true, named := ["math/bits.divideError", "math/bits.overflowError"], apart := false }
def BucketConformsSaid : Prop := bucketConformsRow.holds Try.pinned (OpenSpec.ofChange bucketConformsSpec)

/-- ITS FALSE NEIGHBOUR: 'it returns false'. Refute it at one input. -/
def bucketConformsWrong : ChangeSpec := { name := "bucketConforms", fn := fun _ => fun
  | [d1, d2, d3, d4, d5] => { results := [.lit (.bool false)], args := [d1, d2, d3, d4, d5] }
  | _ => none }
def BucketConformsWrongFalsely : Prop := bucketConformsRow.holds Try.pinned (OpenSpec.ofChange bucketConformsWrong)

/-- 'isochronlaw03.BucketLeasts': WHATEVER THE INPUT: true; the input reads as it did. -/
def bucketLeastsSpec : ChangeSpec := { name := "bucketLeasts", fn := fun _ => fun
  | [d1, d2, d3, d4, d5] => { results := [.lit (.bool true)], args := [d1, d2, d3, d4, d5] }
  | _ => none }
def bucketLeastsRow : OpenClaim := { program := "ytecofcjlokfkhaa", sum := "0b5c5e1740717a5e10b356e3966277d35feab87d57771a05ddc9277e46d3ac4a", func := "isochron/isochronlaw03.BucketLeasts", spec := "bucketLeasts", unfollowed := true, recurses := true, named := ["math/bits.divideError", "math/bits.overflowError"], apart := false }
def BucketLeastsSaid : Prop := bucketLeastsRow.holds Try.pinned (OpenSpec.ofChange bucketLeastsSpec)

/-- ITS FALSE NEIGHBOUR: 'it returns false'. Refute it at one input. -/
def bucketLeastsWrong : ChangeSpec := { name := "bucketLeasts", fn := fun _ => fun
  | [d1, d2, d3, d4, d5] => { results := [.lit (.bool false)], args := [d1, d2, d3, d4, d5] }
  | _ => none }
def BucketLeastsWrongFalsely : Prop := bucketLeastsRow.holds Try.pinned (OpenSpec.ofChange bucketLeastsWrong)

/-- 'isochronlaw03.BucketLevels': WHATEVER THE INPUT: true; the input reads as it did. -/
def bucketLevelsSpec : ChangeSpec := { name := "bucketLevels", fn := fun _ => fun
  | [d] => { results := [.lit (.bool true)], args := [d] }
  | _ => none }
def bucketLevelsRow : OpenClaim := { program := "ytecofcjlokfkhaa", sum := "0b5c5e1740717a5e10b356e3966277d35feab87d57771a05ddc9277e46d3ac4a", func := "isochron/isochronlaw03.BucketLevels", spec := "bucketLevels", unfollowed := true, recurses := true, named := ["math/bits.divideError", "math/bits.overflowError"], apart := false }
def BucketLevelsSaid : Prop := bucketLevelsRow.holds Try.pinned (OpenSpec.ofChange bucketLevelsSpec)

/-- ITS FALSE NEIGHBOUR: 'it returns false'. Refute it at one input. -/
def bucketLevelsWrong : ChangeSpec := { name := "bucketLevels", fn := fun _ => fun
  | [d] => { results := [.lit (.bool false)], args := [d] }
  | _ => none }
def BucketLevelsWrongFalsely : Prop := bucketLevelsRow.holds Try.pinned (OpenSpec.ofChange bucketLevelsWrong)

/-- 'isochronlaw03.BucketLeast': WHATEVER THE INPUT: true; the input reads as it did. -/
def bucketLeastSpec : ChangeSpec := { name := "bucketLeast", fn := fun _ => fun
  | [d1, d2] => { results := [.lit (.bool true)], args := [d1, d2] }
  | _ => none }
def bucketLeastRow : OpenClaim := { program := "ytecofcjlokfkhaa", sum := "0b5c5e1740717a5e10b356e3966277d35feab87d57771a05ddc9277e46d3ac4a", func := "isochron/isochronlaw03.BucketLeast", spec := "bucketLeast", unfollowed := true, recurses := true, named := ["math/bits.divideError", "math/bits.overflowError"], apart := false }
def BucketLeastSaid : Prop := bucketLeastRow.holds Try.pinned (OpenSpec.ofChange bucketLeastSpec)

/-- ITS FALSE NEIGHBOUR: 'it returns false'. Refute it at one input. -/
def bucketLeastWrong : ChangeSpec := { name := "bucketLeast", fn := fun _ => fun
  | [d1, d2] => { results := [.lit (.bool false)], args := [d1, d2] }
  | _ => none }
def BucketLeastWrongFalsely : Prop := bucketLeastRow.holds Try.pinned (OpenSpec.ofChange bucketLeastWrong)

/-- 'isochronlaw03.BucketMerges': WHATEVER THE INPUT: true; the input reads as it did. -/
def bucketMergesSpec : ChangeSpec := { name := "bucketMerges", fn := fun _ => fun
  | [d1, d2] => { results := [.lit (.bool true)], args := [d1, d2] }
  | _ => none }
def bucketMergesRow : OpenClaim := { program := "ytecofcjlokfkhaa", sum := "0b5c5e1740717a5e10b356e3966277d35feab87d57771a05ddc9277e46d3ac4a", func := "isochron/isochronlaw03.BucketMerges", spec := "bucketMerges", unfollowed := true, recurses := true, named := ["math/bits.divideError", "math/bits.overflowError"], apart := false }
def BucketMergesSaid : Prop := bucketMergesRow.holds Try.pinned (OpenSpec.ofChange bucketMergesSpec)

/-- ITS FALSE NEIGHBOUR: 'it returns false'. Refute it at one input. -/
def bucketMergesWrong : ChangeSpec := { name := "bucketMerges", fn := fun _ => fun
  | [d1, d2] => { results := [.lit (.bool false)], args := [d1, d2] }
  | _ => none }
def BucketMergesWrongFalsely : Prop := bucketMergesRow.holds Try.pinned (OpenSpec.ofChange bucketMergesWrong)

/-- 'isochronlaw03.BucketKnown': WHATEVER THE INPUT: true; the input reads as it did. -/
def bucketKnownSpec : ChangeSpec := { name := "bucketKnown", fn := fun _ => fun
  | [] => { results := [.lit (.bool true)], args := [] }
  | _ => none }
def bucketKnownRow : OpenClaim := { program := "ytecofcjlokfkhaa", sum := "0b5c5e1740717a5e10b356e3966277d35feab87d57771a05ddc9277e46d3ac4a", func := "isochron/isochronlaw03.BucketKnown", spec := "bucketKnown", unfollowed := true, recurses := true, named := ["math/bits.divideError", "math/bits.overflowError"], apart := false }
def BucketKnownSaid : Prop := bucketKnownRow.holds Try.pinned (OpenSpec.ofChange bucketKnownSpec)

/-- ITS FALSE NEIGHBOUR: 'it returns false'. Refute it at one input. -/
def bucketKnownWrong : ChangeSpec := { name := "bucketKnown", fn := fun _ => fun
  | [] => { results := [.lit (.bool false)], args := [] }
  | _ => none }
def BucketKnownWrongFalsely : Prop := bucketKnownRow.holds Try.pinned (OpenSpec.ofChange bucketKnownWrong)

/- THE SECOND FORM. 'bulk': how many values and letters a reading holds, each counted each time it is reached (what is shared counts as often as it is met; a slice's spare places count too). A statement '..UptoSaid' is the law's where the arguments, and the package variables that the reading takes, are together of bulk at most 1048576: NARROWER than '..Said'. Prove '..Said' where nothing that the law and all that it calls make is longer than what came in: it says more and counts as full. Else prove '..UptoSaid'. A law counts once. -/
mutual
def uptoBulk {H : Type} : DataW H → Nat
  | .lit (.string bytes) => bytes.length + 1
  | .lit _ => 1
  | .nil => 1
  | .ptr d => uptoBulk d + 1
  | .slice elems spare => uptoBulkAll elems + uptoBulkAll spare + 1
  | .agg parts => uptoBulkAll parts + 1
  | .iface _ d => uptoBulk d + 1
  | .map entries => uptoBulkEntries entries + 1
  | .held _ => 1
def uptoBulkAll {H : Type} : List (DataW H) → Nat
  | [] => 0
  | d :: r => uptoBulk d + uptoBulkAll r
def uptoBulkEntries {H : Type} : List (Lit × DataW H) → Nat
  | [] => 0
  | x :: r => uptoBulkEntry x + uptoBulkEntries r
def uptoBulkEntry {H : Type} : Lit × DataW H → Nat
  | (.string bytes, d) => bytes.length + uptoBulk d + 1
  | (_, d) => uptoBulk d + 1
 end
def uptoSmall : (H : Type) → List (DataW H) → Bool := fun _ ds => decide (uptoBulkAll ds ≤ 1048576)
def OpenSpec.upto (s : _root_.Go.ChangeSpec) : _root_.Go.OpenSpec := { _root_.Go.OpenSpec.ofChange s with cond := some uptoSmall }

/-- 'isochronlaw03.BucketChecks', WHERE WHAT IT READS IS OF BULK AT MOST 1048576: true; the input reads as it did. -/
def bucketChecksUptoRow : OpenClaim := { program := "ytecofcjlokfkhaa", sum := "0b5c5e1740717a5e10b356e3966277d35feab87d57771a05ddc9277e46d3ac4a", func := "isochron/isochronlaw03.BucketChecks", spec := "bucketChecks", unfollowed := true, recurses := true, named := ["math/bits.divideError", "math/bits.overflowError"], apart := false, narrowed := true }
def BucketChecksUptoSaid : Prop := bucketChecksUptoRow.holds Try.pinned (OpenSpec.upto bucketChecksSpec)

/-- 'isochronlaw03.BucketConforms', WHERE WHAT IT READS IS OF BULK AT MOST 1048576: true; the input reads as it did. -/
def bucketConformsUptoRow : OpenClaim := { program := "ytecofcjlokfkhaa", sum := "0b5c5e1740717a5e10b356e3966277d35feab87d57771a05ddc9277e46d3ac4a", func := "isochron/isochronlaw03.BucketConforms", spec := "bucketConforms", unfollowed := true, recurses := true, named := ["math/bits.divideError", "math/bits.overflowError"], apart := false, narrowed := true }
def BucketConformsUptoSaid : Prop := bucketConformsUptoRow.holds Try.pinned (OpenSpec.upto bucketConformsSpec)

/-- 'isochronlaw03.BucketLeasts', WHERE WHAT IT READS IS OF BULK AT MOST 1048576: true; the input reads as it did. -/
def bucketLeastsUptoRow : OpenClaim := { program := "ytecofcjlokfkhaa", sum := "0b5c5e1740717a5e10b356e3966277d35feab87d57771a05ddc9277e46d3ac4a", func := "isochron/isochronlaw03.BucketLeasts", spec := "bucketLeasts", unfollowed := true, recurses := true, named := ["math/bits.divideError", "math/bits.overflowError"], apart := false, narrowed := true }
def BucketLeastsUptoSaid : Prop := bucketLeastsUptoRow.holds Try.pinned (OpenSpec.upto bucketLeastsSpec)

/-- 'isochronlaw03.BucketLevels', WHERE WHAT IT READS IS OF BULK AT MOST 1048576: true; the input reads as it did. -/
def bucketLevelsUptoRow : OpenClaim := { program := "ytecofcjlokfkhaa", sum := "0b5c5e1740717a5e10b356e3966277d35feab87d57771a05ddc9277e46d3ac4a", func := "isochron/isochronlaw03.BucketLevels", spec := "bucketLevels", unfollowed := true, recurses := true, named := ["math/bits.divideError", "math/bits.overflowError"], apart := false, narrowed := true }
def BucketLevelsUptoSaid : Prop := bucketLevelsUptoRow.holds Try.pinned (OpenSpec.upto bucketLevelsSpec)

/-- 'isochronlaw03.BucketLeast', WHERE WHAT IT READS IS OF BULK AT MOST 1048576: true; the input reads as it did. -/
def bucketLeastUptoRow : OpenClaim := { program := "ytecofcjlokfkhaa", sum := "0b5c5e1740717a5e10b356e3966277d35feab87d57771a05ddc9277e46d3ac4a", func := "isochron/isochronlaw03.BucketLeast", spec := "bucketLeast", unfollowed := true, recurses := true, named := ["math/bits.divideError", "math/bits.overflowError"], apart := false, narrowed := true }
def BucketLeastUptoSaid : Prop := bucketLeastUptoRow.holds Try.pinned (OpenSpec.upto bucketLeastSpec)

/-- 'isochronlaw03.BucketMerges', WHERE WHAT IT READS IS OF BULK AT MOST 1048576: true; the input reads as it did. -/
def bucketMergesUptoRow : OpenClaim := { program := "ytecofcjlokfkhaa", sum := "0b5c5e1740717a5e10b356e3966277d35feab87d57771a05ddc9277e46d3ac4a", func := "isochron/isochronlaw03.BucketMerges", spec := "bucketMerges", unfollowed := true, recurses := true, named := ["math/bits.divideError", "math/bits.overflowError"], apart := false, narrowed := true }
def BucketMergesUptoSaid : Prop := bucketMergesUptoRow.holds Try.pinned (OpenSpec.upto bucketMergesSpec)

/-- 'isochronlaw03.BucketKnown', WHERE WHAT IT READS IS OF BULK AT MOST 1048576: true; the input reads as it did. -/
def bucketKnownUptoRow : OpenClaim := { program := "ytecofcjlokfkhaa", sum := "0b5c5e1740717a5e10b356e3966277d35feab87d57771a05ddc9277e46d3ac4a", func := "isochron/isochronlaw03.BucketKnown", spec := "bucketKnown", unfollowed := true, recurses := true, named := ["math/bits.divideError", "math/bits.overflowError"], apart := false, narrowed := true }
def BucketKnownUptoSaid : Prop := bucketKnownUptoRow.holds Try.pinned (OpenSpec.upto bucketKnownSpec)

end Rows
end Go.Proofs.Ytecofcjlokfkhaa
