/-
  No cell of these rows narrows 'for every input' (looked for: loops, veiled, ifaces, maps, wideKeys, modest, calm, conditions, laid).
  DERIVED. THE GIVEN ROWS OF THIS SEAT. 6 by the template 'for every input the law returns true; each argument reads behind the call as it read before'; 0 by the template 'total and deterministic' (their statements: YtogeficooemngaaTotals.lean).
  GIVEN WITH THE SEED: the statements are not yours to turn. If you find one false, say at which input.
  Laid BY PROGRAM, IN A SANDBOX (cutbox-rows.mjs): the forced cells as the released guide's own fill.sh prints them over the translation 3ec39cc9650bb86d… (all of the seat's roots in one cut). By AI agents, Wed Nov 11 2026. No macro, syntax, notation, axiom, sorry.
-/
import Derived.Test.YtogeficooemngaaChecked
import GoSem.Claim
import GoSem.ClaimJoined
import GoSem.ClaimMapViews
import Derived.JoinedTies
import Derived.KernelRfl
namespace Go.Proofs.Ytogeficooemngaa
/- THE CELL 'sum', in the pinned program and in every row, IS THE sha256 OF THE DUMP (.gsa) THAT YtogeficooemngaaProg.lean LOADS. Nothing in Lean hashes anything: it is a label: what it is worth is what the hold of that sum in a sandbox is worth. -/
noncomputable def Try.pinned : Pinned := { name := "ytogeficooemngaa", sum := "3ec39cc9650bb86d17fe179f02d85fe108d715ffd89632acb7ec29a9ade604da", checked := Try.checked }
namespace Rows
def none {H : Type} : Left H := { results := [], args := [] }

/-- 'isochronlaw33.FilterChecks': WHATEVER THE INPUT: true; the input reads as it did. -/
def filterChecksSpec : ChangeSpec := { name := "filterChecks", fn := fun _ => fun
  | [d] => { results := [.lit (.bool true)], args := [d] }
  | _ => none }
def filterChecksRow : OpenClaim := { program := "ytogeficooemngaa", sum := "3ec39cc9650bb86d17fe179f02d85fe108d715ffd89632acb7ec29a9ade604da", func := "isochron/isochronlaw33.FilterChecks", spec := "filterChecks", unfollowed := true, recurses := true, plainKeys := false, apart := false }
def FilterChecksSaid : Prop := filterChecksRow.holds Try.pinned (OpenSpec.ofChange filterChecksSpec)

/-- ITS FALSE NEIGHBOUR: 'it returns false'. Refute it at one input. -/
def filterChecksWrong : ChangeSpec := { name := "filterChecks", fn := fun _ => fun
  | [d] => { results := [.lit (.bool false)], args := [d] }
  | _ => none }
def FilterChecksWrongFalsely : Prop := filterChecksRow.holds Try.pinned (OpenSpec.ofChange filterChecksWrong)

/-- 'isochronlaw33.FilterPasses': WHATEVER THE INPUT: true; the input reads as it did. -/
def filterPassesSpec : ChangeSpec := { name := "filterPasses", fn := fun _ => fun
  | [d1, d2, d3, d4] => { results := [.lit (.bool true)], args := [d1, d2, d3, d4] }
  | _ => none }
def filterPassesRow : OpenClaim := { program := "ytogeficooemngaa", sum := "3ec39cc9650bb86d17fe179f02d85fe108d715ffd89632acb7ec29a9ade604da", func := "isochron/isochronlaw33.FilterPasses", spec := "filterPasses", unfollowed := true, recurses := true, plainKeys := false, apart := false }
def FilterPassesSaid : Prop := filterPassesRow.holds Try.pinned (OpenSpec.ofChange filterPassesSpec)

/-- ITS FALSE NEIGHBOUR: 'it returns false'. Refute it at one input. -/
def filterPassesWrong : ChangeSpec := { name := "filterPasses", fn := fun _ => fun
  | [d1, d2, d3, d4] => { results := [.lit (.bool false)], args := [d1, d2, d3, d4] }
  | _ => none }
def FilterPassesWrongFalsely : Prop := filterPassesRow.holds Try.pinned (OpenSpec.ofChange filterPassesWrong)

/-- 'isochronlaw33.FilterOnce': WHATEVER THE INPUT: true; the input reads as it did. -/
def filterOnceSpec : ChangeSpec := { name := "filterOnce", fn := fun _ => fun
  | [d1, d2] => { results := [.lit (.bool true)], args := [d1, d2] }
  | _ => none }
def filterOnceRow : OpenClaim := { program := "ytogeficooemngaa", sum := "3ec39cc9650bb86d17fe179f02d85fe108d715ffd89632acb7ec29a9ade604da", func := "isochron/isochronlaw33.FilterOnce", spec := "filterOnce", unfollowed := true, recurses := true, plainKeys := false, apart := false }
def FilterOnceSaid : Prop := filterOnceRow.holds Try.pinned (OpenSpec.ofChange filterOnceSpec)

/-- ITS FALSE NEIGHBOUR: 'it returns false'. Refute it at one input. -/
def filterOnceWrong : ChangeSpec := { name := "filterOnce", fn := fun _ => fun
  | [d1, d2] => { results := [.lit (.bool false)], args := [d1, d2] }
  | _ => none }
def FilterOnceWrongFalsely : Prop := filterOnceRow.holds Try.pinned (OpenSpec.ofChange filterOnceWrong)

/-- 'isochronlaw33.FilterApart': WHATEVER THE INPUT: true; the input reads as it did. -/
def filterApartSpec : ChangeSpec := { name := "filterApart", fn := fun _ => fun
  | [d1, d2, d3, d4] => { results := [.lit (.bool true)], args := [d1, d2, d3, d4] }
  | _ => none }
def filterApartRow : OpenClaim := { program := "ytogeficooemngaa", sum := "3ec39cc9650bb86d17fe179f02d85fe108d715ffd89632acb7ec29a9ade604da", func := "isochron/isochronlaw33.FilterApart", spec := "filterApart", unfollowed := true, recurses := true, plainKeys := false, apart := false }
def FilterApartSaid : Prop := filterApartRow.holds Try.pinned (OpenSpec.ofChange filterApartSpec)

/-- ITS FALSE NEIGHBOUR: 'it returns false'. Refute it at one input. -/
def filterApartWrong : ChangeSpec := { name := "filterApart", fn := fun _ => fun
  | [d1, d2, d3, d4] => { results := [.lit (.bool false)], args := [d1, d2, d3, d4] }
  | _ => none }
def FilterApartWrongFalsely : Prop := filterApartRow.holds Try.pinned (OpenSpec.ofChange filterApartWrong)

/-- 'isochronlaw33.FilterKnown': WHATEVER THE INPUT: true; the input reads as it did. -/
def filterKnownSpec : ChangeSpec := { name := "filterKnown", fn := fun _ => fun
  | [] => { results := [.lit (.bool true)], args := [] }
  | _ => none }
def filterKnownRow : OpenClaim := { program := "ytogeficooemngaa", sum := "3ec39cc9650bb86d17fe179f02d85fe108d715ffd89632acb7ec29a9ade604da", func := "isochron/isochronlaw33.FilterKnown", spec := "filterKnown", unfollowed := true, recurses := true, plainKeys := false, apart := false }
def FilterKnownSaid : Prop := filterKnownRow.holds Try.pinned (OpenSpec.ofChange filterKnownSpec)

/-- ITS FALSE NEIGHBOUR: 'it returns false'. Refute it at one input. -/
def filterKnownWrong : ChangeSpec := { name := "filterKnown", fn := fun _ => fun
  | [] => { results := [.lit (.bool false)], args := [] }
  | _ => none }
def FilterKnownWrongFalsely : Prop := filterKnownRow.holds Try.pinned (OpenSpec.ofChange filterKnownWrong)

/-- 'isochronlaw33.FilterMeters': WHATEVER THE INPUT: true; the input reads as it did. -/
def filterMetersSpec : ChangeSpec := { name := "filterMeters", fn := fun _ => fun
  | [d1, d2, d3, d4] => { results := [.lit (.bool true)], args := [d1, d2, d3, d4] }
  | _ => none }
def filterMetersRow : OpenClaim := { program := "ytogeficooemngaa", sum := "3ec39cc9650bb86d17fe179f02d85fe108d715ffd89632acb7ec29a9ade604da", func := "isochron/isochronlaw33.FilterMeters", spec := "filterMeters", unfollowed := true, recurses := true, plainKeys := false, apart := false }
def FilterMetersSaid : Prop := filterMetersRow.holds Try.pinned (OpenSpec.ofChange filterMetersSpec)

/-- ITS FALSE NEIGHBOUR: 'it returns false'. Refute it at one input. -/
def filterMetersWrong : ChangeSpec := { name := "filterMeters", fn := fun _ => fun
  | [d1, d2, d3, d4] => { results := [.lit (.bool false)], args := [d1, d2, d3, d4] }
  | _ => none }
def FilterMetersWrongFalsely : Prop := filterMetersRow.holds Try.pinned (OpenSpec.ofChange filterMetersWrong)

/- THE SECOND FORM. 'bulk': how many values and letters a reading holds, each counted each time it is reached (what is shared counts as often as it is met; a slice's spare places count too). A statement '..UptoSaid' is the law's where the arguments, and the package variables that the reading takes, are together of bulk at most 1048576: NARROWER than '..Said'. Prove '..Said' where nothing that the law and all that it calls make is longer than what came in: it says more and counts as full. Else prove '..UptoSaid'. A law counts once. -/
mutual
def uptoBulk {H : Type} : DataW H → Nat
  | .lit (.string bytes) => bytes.length + 1
  | .lit _ => 1
  | .nil => 1
  | .ptr d => uptoBulk d + 1
  | .slice elems spare => uptoBulkAll elems + uptoBulkAll spare + 1
  | .agg parts => uptoBulkAll parts + 1
  | .iface _ d => uptoBulk d + 1
  | .map entries => uptoBulkEntries entries + 1
  | .held _ => 1
def uptoBulkAll {H : Type} : List (DataW H) → Nat
  | [] => 0
  | d :: r => uptoBulk d + uptoBulkAll r
def uptoBulkEntries {H : Type} : List (Lit × DataW H) → Nat
  | [] => 0
  | x :: r => uptoBulkEntry x + uptoBulkEntries r
def uptoBulkEntry {H : Type} : Lit × DataW H → Nat
  | (.string bytes, d) => bytes.length + uptoBulk d + 1
  | (_, d) => uptoBulk d + 1
 end
def uptoSmall : (H : Type) → List (DataW H) → Bool := fun _ ds => decide (uptoBulkAll ds ≤ 1048576)
def OpenSpec.upto (s : _root_.Go.ChangeSpec) : _root_.Go.OpenSpec := { _root_.Go.OpenSpec.ofChange s with cond := some uptoSmall }

/-- 'isochronlaw33.FilterChecks', WHERE WHAT IT READS IS OF BULK AT MOST 1048576: true; the input reads as it did. -/
def filterChecksUptoRow : OpenClaim := { program := "ytogeficooemngaa", sum := "3ec39cc9650bb86d17fe179f02d85fe108d715ffd89632acb7ec29a9ade604da", func := "isochron/isochronlaw33.FilterChecks", spec := "filterChecks", unfollowed := true, recurses := true, plainKeys := false, apart := false, narrowed := true }
def FilterChecksUptoSaid : Prop := filterChecksUptoRow.holds Try.pinned (OpenSpec.upto filterChecksSpec)

/-- 'isochronlaw33.FilterPasses', WHERE WHAT IT READS IS OF BULK AT MOST 1048576: true; the input reads as it did. -/
def filterPassesUptoRow : OpenClaim := { program := "ytogeficooemngaa", sum := "3ec39cc9650bb86d17fe179f02d85fe108d715ffd89632acb7ec29a9ade604da", func := "isochron/isochronlaw33.FilterPasses", spec := "filterPasses", unfollowed := true, recurses := true, plainKeys := false, apart := false, narrowed := true }
def FilterPassesUptoSaid : Prop := filterPassesUptoRow.holds Try.pinned (OpenSpec.upto filterPassesSpec)

/-- 'isochronlaw33.FilterOnce', WHERE WHAT IT READS IS OF BULK AT MOST 1048576: true; the input reads as it did. -/
def filterOnceUptoRow : OpenClaim := { program := "ytogeficooemngaa", sum := "3ec39cc9650bb86d17fe179f02d85fe108d715ffd89632acb7ec29a9ade604da", func := "isochron/isochronlaw33.FilterOnce", spec := "filterOnce", unfollowed := true, recurses := true, plainKeys := false, apart := false, narrowed := true }
def FilterOnceUptoSaid : Prop := filterOnceUptoRow.holds Try.pinned (OpenSpec.upto filterOnceSpec)

/-- 'isochronlaw33.FilterApart', WHERE WHAT IT READS IS OF BULK AT MOST 1048576: true; the input reads as it did. -/
def filterApartUptoRow : OpenClaim := { program := "ytogeficooemngaa", sum := "3ec39cc9650bb86d17fe179f02d85fe108d715ffd89632acb7ec29a9ade604da", func := "isochron/isochronlaw33.FilterApart", spec := "filterApart", unfollowed := true, recurses := true, plainKeys := false, apart := false, narrowed := true }
def FilterApartUptoSaid : Prop := filterApartUptoRow.holds Try.pinned (OpenSpec.upto filterApartSpec)

/-- 'isochronlaw33.FilterKnown', WHERE WHAT IT READS IS OF BULK AT MOST 1048576: true; the input reads as it did. -/
def filterKnownUptoRow : OpenClaim := { program := "ytogeficooemngaa", sum := "3ec39cc9650bb86d17fe179f02d85fe108d715ffd89632acb7ec29a9ade604da", func := "isochron/isochronlaw33.FilterKnown", spec := "filterKnown", unfollowed := true, recurses := true, plainKeys := false, apart := false, narrowed := true }
def FilterKnownUptoSaid : Prop := filterKnownUptoRow.holds Try.pinned (OpenSpec.upto filterKnownSpec)

/-- 'isochronlaw33.FilterMeters', WHERE WHAT IT READS IS OF BULK AT MOST 1048576: true; the input reads as it did. -/
def filterMetersUptoRow : OpenClaim := { program := "ytogeficooemngaa", sum := "3ec39cc9650bb86d17fe179f02d85fe108d715ffd89632acb7ec29a9ade604da", func := "isochron/isochronlaw33.FilterMeters", spec := "filterMeters", unfollowed := true, recurses := true, plainKeys := false, apart := false, narrowed := true }
def FilterMetersUptoSaid : Prop := filterMetersUptoRow.holds Try.pinned (OpenSpec.upto filterMetersSpec)

end Rows
end Go.Proofs.Ytogeficooemngaa
