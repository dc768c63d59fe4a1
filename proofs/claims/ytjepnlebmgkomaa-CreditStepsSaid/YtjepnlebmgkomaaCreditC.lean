/-
  The walk of credit.step.
-/
import Derived.Test.YtjepnlebmgkomaaCreditB
namespace Go.Proofs.Ytjepnlebmgkomaa
open Go.RowKit

/-- The credit after an idle time, as the code reckons it. -/
def idleW (r a l u : Int) : Int := if u ≤ a then l else min 0 (wrap64 (l + wrap64 (r * wrap64 (u - a))))
def readyW (r a l : Int) : Int := wrap64 (a + wrap64 ((wrap64 (wrap64 (max 0 (wrap64 (-l)) + r) - 1)).tdiv r))
def startW (r a l at_ free : Int) : Int := max free (readyW r (idleA a at_) (idleW r a l at_))
def levelW (r p a l at_ free size : Int) : Int := wrap64 (wrap64 (idleW r a l at_ + wrap64 (r * wrap64 (startW r a l at_ free - idleA a at_))) + wrap64 (wrap64 (wrap64 (r * p) - 1048576) * size))
def atW (r p a l at_ free size : Int) : Int := wrap64 (startW r a l at_ free + wrap64 (size * p))

theorem idle_any (b : Nat) (r p a l u : Int) (w : World) (hB : Blk w b 83 #[.int .i64 r, .int .i64 p, .int .i64 a, .int .i64 l]) :
    Calls Try.prog 38 #[.pointer (some ⟨b, 0, none⟩), .int .i64 u] w (ShPost w b #[.int .i64 r, .int .i64 p, .int .i64 (idleA a u), .int .i64 (idleW r a l u)]) := by
  by_cases h : u ≤ a
  · rw [show idleA a u = a by unfold idleA; omega, show idleW r a l u = l by rw [idleW, if_pos h]]
    exact idle_no b r p a l u w hB h
  · rw [show idleA a u = u by unfold idleA; omega, show idleW r a l u = min 0 (wrap64 (l + wrap64 (r * wrap64 (u - a)))) by rw [idleW, if_neg h]]
    exact idle_yes b r p a l u w hB h

set_option maxHeartbeats 1000000 in
theorem step_raw (r p a l at_ free size : Int) (w : World) (hr : 1 ≤ r) :
    Calls Try.prog 29 #[.agg #[.int .i64 r, .int .i64 p], .agg #[.int .i64 a, .int .i64 l], .int .i64 at_, .int .i64 free, .int .i64 size] w
      (Ret w (.tuple #[.int .i64 (startW r a l at_ free), .agg #[.int .i64 (atW r p a l at_ free size), .int .i64 (levelW r p a l at_ free size)]])) := by
  go_enter Try.func29, Try.ntmps29
  go_wp2_with fail
  refine (idle_any _ r p a l at_ _ (Blk.new' _ _ _ (by simp))).mono ?_
  rintro e w1 ⟨rfl, hB1, hG1⟩
  have hR1 : Blk w1 (w.heap.size + 1 + 1) 40 #[.int .i64 0, .int .i64 0] := ((Blk.new' _ _ _ (by simp)).alloc _).grown hG1 (by simp)
  have hL1 : Below w.heap.size w w1 := Below.grown (((((Below.refl _ w).alloc (Nat.le_refl _) _).alloc (by first | omega | (simp; done) | (simp; omega)) _).alloc (by first | omega | (simp; done) | (simp; omega)) _).alloc (by first | omega | (simp; done) | (simp; omega)) _) hG1 (by first | omega | (simp; done) | (simp; omega)) (by intro k hk; cases hk; omega)
  clear hG1
  go_wp2_with fail
  refine (ready_any _ r p _ _ _ hB1 hr).mono ?_
  rintro e w2 ⟨rfl, rfl⟩
  go_wp2_with fail
  refine (wait_any _ r p _ _ _ _ hB1.drew).mono ?_
  rintro e w2 ⟨rfl, hB2, hG2⟩
  have hR2 := hR1.drew.grown hG2 (by simp)
  have hL2 := hL1.drew.grown hG2 (by have := hL1.size; simpa using this) (by intro k hk; cases hk; omega)
  clear hB1 hR1 hL1 hG2
  go_wp2_with fail
  refine (send_any _ r p _ _ _ _ hB2).mono ?_
  rintro e w3 ⟨rfl, hB3, hG3⟩
  have hR3 := hR2.grown hG3 (by simp)
  have hL3 := hL2.grown hG3 hL2.size (by intro k hk; cases hk; omega)
  clear hB2 hR2 hL2 hG3
  have q2 := hB3.cell 2
  have q3 := hB3.cell 3
  have e0 := hR3.cell 0
  have e1 := hR3.cell 1
  have f0 := hR3.frozen 0
  have f1 := hR3.frozen 1
  simp only [List.getElem?_toArray, List.getElem?_cons_zero, List.getElem?_cons_succ] at q2 q3 e0 e1
  have HB := hide hB3
  have HR := hide hR3
  clear hB3 hR3
  go_wp2_with fail
  go_region
  go_wp2_with fail
  refine bodyPost_ret (v := .tuple #[.int .i64 (startW r a l at_ free), .agg #[.int .i64 (atW r p a l at_ free size), .int .i64 (levelW r p a l at_ free size)]]) (by simp [results, Try.results29, go_sem, e0, e1, startW, readyW, atW, levelW]) rfl ⟨rfl, ?_⟩
  exact ((hL3.setCell (p := ⟨w.heap.size + 1 + 1, 0, none⟩) (by first | omega | (simp; done) | (simp; omega)) _).setCell (p := ⟨w.heap.size + 1 + 1, 1, none⟩) (by first | omega | (simp; done) | (simp; omega)) _).drew

theorem mul_bound {x y a b : Int} (hx : 0 ≤ x) (hxa : x ≤ a) (hy : 0 ≤ y) (hyb : y ≤ b) : 0 ≤ x * y ∧ x * y ≤ a * b :=
  ⟨Int.mul_nonneg hx hy, Int.mul_le_mul hxa hyb hy (by omega)⟩

/-- All that is known of a step from a valid state: nothing wraps, and the bounds of what it gives. -/
theorem step_plain {r p a l at_ free size : Int} (h1 : slopeB r p = true) (h2 : stateB a l = true) (h3 : timeB at_ = true) (h4 : timeB free = true) (h5 : 1 ≤ size) (h6 : size ≤ 1542) :
    startW r a l at_ free = stepStart r a l at_ free ∧ atW r p a l at_ free size = stepAt r p a l at_ free size ∧ levelW r p a l at_ free size = stepLevel r p a l at_ free size ∧
    idleA a at_ ≤ stepStart r a l at_ free ∧ free ≤ stepStart r a l at_ free ∧ stepStart r a l at_ free ≤ 4294967296 ∧ 0 ≤ r * (stepStart r a l at_ free - idleA a at_) := by
  obtain ⟨r1, r2, p1, p2, rp⟩ := slopeB_iff.1 h1
  obtain ⟨a1, a2, l1, l2⟩ := stateB_iff.1 h2
  obtain ⟨t1, t2⟩ := timeB_iff.1 h3
  obtain ⟨f1, f2⟩ := timeB_iff.1 h4
  have iA : 0 ≤ idleA a at_ ∧ idleA a at_ ≤ 1073741824 := by unfold idleA; omega
  have iL : idleW r a l at_ = idleL r a l at_ ∧ -1616904192 ≤ idleL r a l at_ ∧ idleL r a l at_ ≤ 1125899906842624 := by
    unfold idleW idleL
    by_cases h : at_ ≤ a
    · rw [if_pos h, if_pos h]
      omega
    · rw [if_neg h, if_neg h]
      have hm := mul_bound (x := r) (y := at_ - a) (a := 1048576) (b := 1073741824) (by omega) (by omega) (by omega) (by omega)
      rw [IntWalk.wrap64_in (at_ - a) ⟨by omega, by omega⟩, IntWalk.wrap64_in (r * (at_ - a)) ⟨by omega, by omega⟩, IntWalk.wrap64_in (l + r * (at_ - a)) ⟨by omega, by omega⟩]
      omega
  obtain ⟨iL0, iL1, iL2⟩ := iL
  have hq0 : 0 ≤ (max 0 (-(idleL r a l at_)) + r - 1) / r := Int.ediv_nonneg (by omega) (by omega)
  have hq1 : (max 0 (-(idleL r a l at_)) + r - 1) / r ≤ max 0 (-(idleL r a l at_)) + r - 1 := Int.ediv_le_self _ (by omega)
  have hready : readyW r (idleA a at_) (idleL r a l at_) = idleA a at_ + (max 0 (-(idleL r a l at_)) + r - 1) / r := by
    unfold readyW
    rw [IntWalk.wrap64_in (-(idleL r a l at_)) ⟨by omega, by omega⟩, IntWalk.wrap64_in (max 0 (-(idleL r a l at_)) + r) ⟨by omega, by omega⟩, IntWalk.wrap64_in (max 0 (-(idleL r a l at_)) + r - 1) ⟨by omega, by omega⟩,
      Int.tdiv_eq_ediv_of_nonneg (by omega), IntWalk.wrap64_in ((max 0 (-(idleL r a l at_)) + r - 1) / r) ⟨by omega, by omega⟩, IntWalk.wrap64_in _ ⟨by omega, by omega⟩]
  have hst : startW r a l at_ free = stepStart r a l at_ free := by
    unfold startW stepStart
    rw [iL0, hready]
  have hge : idleA a at_ ≤ stepStart r a l at_ free ∧ free ≤ stepStart r a l at_ free ∧ stepStart r a l at_ free ≤ 4294967296 := by
    unfold stepStart
    omega
  have hrm := mul_bound (x := r) (y := stepStart r a l at_ free - idleA a at_) (a := 1048576) (b := 4294967296) (by omega) (by omega) (by omega) (by omega)
  have hpm := mul_bound (x := size) (y := p) (a := 1542) (b := 1000) (by omega) (by omega) (by omega) (by omega)
  have hrp := mul_bound (x := r) (y := p) (a := 1048576) (b := 1000) (by omega) (by omega) (by omega) (by omega)
  have hsm := mul_bound (x := 1048576 - r * p) (y := size) (a := 1048576) (b := 1542) (by omega) (by omega) (by omega) (by omega)
  have hneg : (r * p - 1048576) * size = -((1048576 - r * p) * size) := by rw [← Int.neg_mul]; congr 1; omega
  refine ⟨hst, ?_, ?_, hge.1, hge.2.1, hge.2.2, hrm.1⟩
  · unfold atW stepAt
    rw [hst, IntWalk.wrap64_in (size * p) ⟨by omega, by omega⟩, IntWalk.wrap64_in _ ⟨by omega, by omega⟩]
  · unfold levelW stepLevel
    rw [hst, iL0, IntWalk.wrap64_in (stepStart r a l at_ free - idleA a at_) ⟨by omega, by omega⟩, IntWalk.wrap64_in (r * (stepStart r a l at_ free - idleA a at_)) ⟨by omega, by omega⟩,
      IntWalk.wrap64_in (r * p) ⟨by omega, by omega⟩, IntWalk.wrap64_in (r * p - 1048576) ⟨by omega, by omega⟩, hneg, IntWalk.wrap64_in (-((1048576 - r * p) * size)) ⟨by omega, by omega⟩,
      IntWalk.wrap64_in (idleL r a l at_ + r * (stepStart r a l at_ free - idleA a at_)) ⟨by omega, by omega⟩, IntWalk.wrap64_in _ ⟨by omega, by omega⟩]

theorem step_any (r p a l at_ free size : Int) (w : World) (h1 : slopeB r p = true) (h2 : stateB a l = true) (h3 : timeB at_ = true) (h4 : timeB free = true) (h5 : 1 ≤ size) (h6 : size ≤ 1542) :
    Calls Try.prog 29 #[.agg #[.int .i64 r, .int .i64 p], .agg #[.int .i64 a, .int .i64 l], .int .i64 at_, .int .i64 free, .int .i64 size] w
      (Ret w (.tuple #[.int .i64 (stepStart r a l at_ free), .agg #[.int .i64 (stepAt r p a l at_ free size), .int .i64 (stepLevel r p a l at_ free size)]])) := by
  obtain ⟨e1, e2, e3, _⟩ := step_plain h1 h2 h3 h4 h5 h6
  rw [← e1, ← e2, ← e3]
  exact step_raw r p a l at_ free size w (slopeB_iff.1 h1).1
end Go.Proofs.Ytjepnlebmgkomaa
