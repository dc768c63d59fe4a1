/-
  The walks of the methods of credit's shaper.
-/
import Derived.Test.YtjepnlebmgkomaaCreditA
namespace Go.Proofs.Ytjepnlebmgkomaa
open Go.RowKit

/-- What a method of the shaper leaves: its block, and nothing else turned. -/
def ShPost (w : World) (b : Nat) (cs : Array Value) (e : Ending) (w' : World) : Prop := e = .returned (.tuple #[]) ∧ Blk w' b 83 cs ∧ w.grownBy w' (some b)

set_option maxHeartbeats 400000 in
theorem wait_any (b : Nat) (r p a l u : Int) (w : World) (hB : Blk w b 83 #[.int .i64 r, .int .i64 p, .int .i64 a, .int .i64 l]) :
    Calls Try.prog 39 #[.pointer (some ⟨b, 0, none⟩), .int .i64 u] w (ShPost w b #[.int .i64 r, .int .i64 p, .int .i64 u, .int .i64 (wrap64 (l + wrap64 (r * wrap64 (u - a))))]) := by
  have c0 : w.cell? ⟨b, 0, none⟩ = some (.int .i64 r) := hB.cell 0
  have c2 : w.cell? ⟨b, 2, none⟩ = some (.int .i64 a) := hB.cell 2
  have c3 : w.cell? ⟨b, 3, none⟩ = some (.int .i64 l) := hB.cell 3
  have f2 := hB.frozen 2
  have f3 := hB.frozen 3
  have HB := hide hB
  clear hB
  go_enter Try.func39, Try.ntmps39
  go_wp2
  go_region
  go_wp2
  go_end0
  refine ⟨rfl, ((HB.out.set_ 3 _).set_ 2 _).drew, grown_drew (grown_setCell (grown_setCell (grown_refl _ _) _ _) _ _)⟩

set_option maxHeartbeats 400000 in
theorem send_any (b : Nat) (r p a l u : Int) (w : World) (hB : Blk w b 83 #[.int .i64 r, .int .i64 p, .int .i64 a, .int .i64 l]) :
    Calls Try.prog 40 #[.pointer (some ⟨b, 0, none⟩), .int .i64 u] w (ShPost w b #[.int .i64 r, .int .i64 p, .int .i64 (wrap64 (a + wrap64 (u * p))), .int .i64 (wrap64 (l + wrap64 (wrap64 (wrap64 (r * p) - 1048576) * u)))]) := by
  have c0 : w.cell? ⟨b, 0, none⟩ = some (.int .i64 r) := hB.cell 0
  have c1 : w.cell? ⟨b, 1, none⟩ = some (.int .i64 p) := hB.cell 1
  have c2 : w.cell? ⟨b, 2, none⟩ = some (.int .i64 a) := hB.cell 2
  have c3 : w.cell? ⟨b, 3, none⟩ = some (.int .i64 l) := hB.cell 3
  have f2 := hB.frozen 2
  have f3 := hB.frozen 3
  have HB := hide hB
  clear hB
  go_enter Try.func40, Try.ntmps40
  go_wp2
  go_region
  go_wp2
  go_region
  go_wp2
  go_end0
  refine ⟨rfl, ((HB.out.set_ 3 _).set_ 2 _).drew.drew, grown_drew (grown_drew (grown_setCell (grown_setCell (grown_refl _ _) _ _) _ _))⟩

set_option maxHeartbeats 400000 in
theorem idle_no (b : Nat) (r p a l u : Int) (w : World) (hB : Blk w b 83 #[.int .i64 r, .int .i64 p, .int .i64 a, .int .i64 l]) (hu : u ≤ a) :
    Calls Try.prog 38 #[.pointer (some ⟨b, 0, none⟩), .int .i64 u] w (ShPost w b #[.int .i64 r, .int .i64 p, .int .i64 a, .int .i64 l]) := by
  have c2 : w.cell? ⟨b, 2, none⟩ = some (.int .i64 a) := hB.cell 2
  have HB := hide hB
  clear hB
  go_enter Try.func38, Try.ntmps38
  go_wp2
  refine bodyPost_ret (results_none rfl _ _ _) rfl ?_
  exact ⟨rfl, HB.out, grown_refl _ _⟩

set_option maxHeartbeats 400000 in
theorem idle_yes (b : Nat) (r p a l u : Int) (w : World) (hB : Blk w b 83 #[.int .i64 r, .int .i64 p, .int .i64 a, .int .i64 l]) (hu : ¬ u ≤ a) :
    Calls Try.prog 38 #[.pointer (some ⟨b, 0, none⟩), .int .i64 u] w (ShPost w b #[.int .i64 r, .int .i64 p, .int .i64 u, .int .i64 (min 0 (wrap64 (l + wrap64 (r * wrap64 (u - a)))))]) := by
  have c0 : w.cell? ⟨b, 0, none⟩ = some (.int .i64 r) := hB.cell 0
  have c2 : w.cell? ⟨b, 2, none⟩ = some (.int .i64 a) := hB.cell 2
  have c3 : w.cell? ⟨b, 3, none⟩ = some (.int .i64 l) := hB.cell 3
  have f2 := hB.frozen 2
  have f3 := hB.frozen 3
  have HB := hide hB
  clear hB
  go_enter Try.func38, Try.ntmps38
  go_wp2
  go_region
  go_wp2
  go_end0
  refine ⟨rfl, ((HB.out.set_ 3 _).set_ 2 _).drew, grown_drew (grown_setCell (grown_setCell (grown_refl _ _) _ _) _ _)⟩

set_option maxHeartbeats 400000 in
theorem ready_any (b : Nat) (r p a l : Int) (w : World) (hB : Blk w b 83 #[.int .i64 r, .int .i64 p, .int .i64 a, .int .i64 l]) (hr : 1 ≤ r) :
    Calls Try.prog 41 #[.pointer (some ⟨b, 0, none⟩)] w fun e w' => e = .returned (.int .i64 (wrap64 (a + wrap64 ((wrap64 (wrap64 (max 0 (wrap64 (-l)) + r) - 1)).tdiv r)))) ∧ w' = w.drew := by
  have c0 : w.cell? ⟨b, 0, none⟩ = some (.int .i64 r) := hB.cell 0
  have c2 : w.cell? ⟨b, 2, none⟩ = some (.int .i64 a) := hB.cell 2
  have c3 : w.cell? ⟨b, 3, none⟩ = some (.int .i64 l) := hB.cell 3
  have hr0 : (r == 0) = false := by simp; omega
  have HB := hide hB
  clear hB
  go_enter Try.func41, Try.ntmps41
  go_wp2
  go_region
  go_wp2
  go_ret
  exact ⟨rfl, rfl⟩
end Go.Proofs.Ytjepnlebmgkomaa
