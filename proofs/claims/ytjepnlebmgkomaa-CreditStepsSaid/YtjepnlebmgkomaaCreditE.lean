/-
  The walk of the reference's Step: it gives what the plain step gives.
-/
import Derived.Test.YtjepnlebmgkomaaCreditD
namespace Go.Proofs.Ytjepnlebmgkomaa
open Go.RowKit

theorem up_in (r p l t : Int) (w : World) (h1 : 0 ≤ r * t) (h2 : r * t ≤ 4611686018427387904) (h3 : -4611686018427387904 ≤ l) (h4 : l ≤ 4611686018427387000) :
    Calls Try.prog 34 #[.agg #[.int .i64 r, .int .i64 p], .int .i64 l, .int .i64 t] w (Ret w (.int .i64 (l + r * t))) := by
  have e : wrap64 (l + wrap64 (r * t)) = l + r * t := by rw [IntWalk.wrap64_in (r * t) ⟨by omega, by omega⟩, IntWalk.wrap64_in _ ⟨by omega, by omega⟩]
  rw [← e]
  exact up_any r p l t w

/-- The reference's start is the step's. -/
theorem ref_start {r l b free : Int} (hr : 1 ≤ r) : (if l + r * (max b free - b) < 0 then b + (-l + r - 1) / r else max b free) = max free (b + (max 0 (-l) + r - 1) / r) := by
  have hq : max b free - b = max 0 (free - b) := by omega
  by_cases hl : 0 ≤ l
  · have h0 : 0 ≤ r * (max b free - b) := Int.mul_nonneg (by omega) (by omega)
    rw [if_neg (by omega), show max 0 (-l) = 0 by omega, show (0 + r - 1) / r = 0 from Int.ediv_eq_zero_of_lt (by omega) (by omega)]
    omega
  · have hm : max 0 (-l) = -l := by omega
    rw [hm]
    have hq0 : 0 ≤ (-l + r - 1) / r := Int.ediv_nonneg (by omega) (by omega)
    have hqm := Int.mul_ediv_add_emod (-l + r - 1) r
    have hq1 := Int.emod_nonneg (-l + r - 1) (b := r) (by omega)
    have hq2 := Int.emod_lt_of_pos (-l + r - 1) (b := r) (by omega)
    by_cases h : l + r * (max b free - b) < 0
    · rw [if_pos h]
      have : max b free - b < (-l + r - 1) / r := by
        apply Classical.byContradiction
        intro hc
        have := Int.mul_le_mul_of_nonneg_left (show (-l + r - 1) / r ≤ max b free - b by omega) (show 0 ≤ r by omega)
        omega
      omega
    · rw [if_neg h]
      have : (-l + r - 1) / r ≤ max b free - b := by
        apply Classical.byContradiction
        intro hc
        have := Int.mul_le_mul_of_nonneg_left (show max b free - b + 1 ≤ (-l + r - 1) / r by omega) (show 0 ≤ r by omega)
        rw [Int.mul_add] at this
        omega
      omega

theorem rightState_is {a l : Int} {b : Bool} (w : World) (h : stateB a l = b) :
    Calls Try.prog 33 #[.agg #[.int .i64 a, .int .i64 l]] w (Ret w (.bool b)) := by
  rw [← h]; exact rightState_any a l w
theorem right_is {a l : Int} {b : Bool} (w : World) (h : slopeB a l = b) :
    Calls Try.prog 30 #[.agg #[.int .i64 a, .int .i64 l]] w (Ret w (.bool b)) := by
  rw [← h]; exact right_any a l w

set_option maxHeartbeats 1000000 in
theorem RefStep_bad1 (r p a l at_ free size : Int) (w : World) (h1 : slopeB r p = false) :
    Calls Try.prog 21 #[.agg #[.int .i64 r, .int .i64 p], .agg #[.int .i64 a, .int .i64 l], .int .i64 at_, .int .i64 free, .int .i64 size] w (Ret w (noStep 450)) := by
  have H1 := hide h1
  clear h1
  go_enter Try.func21, Try.ntmps21
  go_wp2_with fail
  refine (right_is _ H1.out).mono ?_
  rintro e w1 ⟨rfl, hb1⟩
  (try replace hb1 := below_undrew hb1); (try replace hb1 := below_undrewN hb1); obtain ⟨hc1, hf1⟩ := below_cells hb1; have hz1 := hb1.size; (try simp at hz1); (try have hy1a : w.heap.size < w1.heap.size := by omega); (try have hy1b : w.heap.size + 1 < w1.heap.size := by omega); (try have hy1c : w.heap.size + 1 + 1 < w1.heap.size := by omega); (try have hy1d : w.heap.size + 1 + 1 + 1 < w1.heap.size := by omega)
  go_wp2_with fail
  refine bodyPost_ret (v := noStep 450) (by simp [noStep, results, Try.results21, go_sem, *]) rfl ⟨rfl, ?_⟩
  (repeat (first | exact Below.refl _ _ | assumption | refine Below.drew ?_ | refine Below.setCell ?_ (by first | omega | (simp; done) | (simp; omega)) _ | refine Below.alloc ?_ (by first | omega | (simp; done) | (simp; omega)) _ | refine below_on ?_ (by assumption) (by first | omega | (simp; done) | (simp; omega))))
set_option maxHeartbeats 1000000 in
theorem RefStep_bad2 (r p a l at_ free size : Int) (w : World) (h1 : slopeB r p = true) (h2 : stateB a l = false) :
    Calls Try.prog 21 #[.agg #[.int .i64 r, .int .i64 p], .agg #[.int .i64 a, .int .i64 l], .int .i64 at_, .int .i64 free, .int .i64 size] w (Ret w (noStep 450)) := by
  have H1 := hide h1
  have H2 := hide h2
  clear h1 h2
  go_enter Try.func21, Try.ntmps21
  go_wp2_with fail
  refine (right_is _ H1.out).mono ?_
  rintro e w1 ⟨rfl, hb1⟩
  (try replace hb1 := below_undrew hb1); (try replace hb1 := below_undrewN hb1); obtain ⟨hc1, hf1⟩ := below_cells hb1; have hz1 := hb1.size; (try simp at hz1); (try have hy1a : w.heap.size < w1.heap.size := by omega); (try have hy1b : w.heap.size + 1 < w1.heap.size := by omega); (try have hy1c : w.heap.size + 1 + 1 < w1.heap.size := by omega); (try have hy1d : w.heap.size + 1 + 1 + 1 < w1.heap.size := by omega)
  go_wp2_with fail
  refine (rightState_is _ H2.out).mono ?_
  rintro e w2 ⟨rfl, hb2⟩
  (try replace hb2 := below_undrew hb2); (try replace hb2 := below_undrewN hb2); obtain ⟨hc2, hf2⟩ := below_cells hb2; have hz2 := hb2.size; (try simp at hz2); (try have hy2a : w.heap.size < w2.heap.size := by omega); (try have hy2b : w.heap.size + 1 < w2.heap.size := by omega); (try have hy2c : w.heap.size + 1 + 1 < w2.heap.size := by omega); (try have hy2d : w.heap.size + 1 + 1 + 1 < w2.heap.size := by omega)
  go_wp2_with fail
  refine bodyPost_ret (v := noStep 450) (by simp [noStep, results, Try.results21, go_sem, *]) rfl ⟨rfl, ?_⟩
  (repeat (first | exact Below.refl _ _ | assumption | refine Below.drew ?_ | refine Below.setCell ?_ (by first | omega | (simp; done) | (simp; omega)) _ | refine Below.alloc ?_ (by first | omega | (simp; done) | (simp; omega)) _ | refine below_on ?_ (by assumption) (by first | omega | (simp; done) | (simp; omega))))
set_option maxHeartbeats 1000000 in
theorem RefStep_bad3 (r p a l at_ free size : Int) (w : World) (h1 : slopeB r p = true) (h2 : stateB a l = true) (h3 : argB at_ free size = false) :
    Calls Try.prog 21 #[.agg #[.int .i64 r, .int .i64 p], .agg #[.int .i64 a, .int .i64 l], .int .i64 at_, .int .i64 free, .int .i64 size] w (Ret w (noStep 2)) := by
  have H1 := hide h1
  have H2 := hide h2
  clear h1 h2
  have h3' : insideB at_ 0 1073741824 = false ∨ insideB at_ 0 1073741824 = true ∧ insideB free 0 1073741824 = false ∨ insideB at_ 0 1073741824 = true ∧ insideB free 0 1073741824 = true ∧ insideB size 1 1542 = false := by
    have e1 : timeB at_ = insideB at_ 0 1073741824 := by rw [Bool.eq_iff_iff, timeB_iff, insideB_iff]
    have e2 : timeB free = insideB free 0 1073741824 := by rw [Bool.eq_iff_iff, timeB_iff, insideB_iff]
    simp only [argB, e1, e2] at h3
    cases hx : insideB at_ 0 1073741824 <;> cases hy : insideB free 0 1073741824 <;> simp_all
  clear h3
  rcases h3' with g | ⟨g, g'⟩ | ⟨g, g', g2⟩
  all_goals
    go_enter Try.func21, Try.ntmps21
    go_wp2_with fail
    refine (right_is _ H1.out).mono ?_
    rintro e w1 ⟨rfl, hb1⟩
    (try replace hb1 := below_undrew hb1); (try replace hb1 := below_undrewN hb1); obtain ⟨hc1, hf1⟩ := below_cells hb1; have hz1 := hb1.size; (try simp at hz1); (try have hy1a : w.heap.size < w1.heap.size := by omega); (try have hy1b : w.heap.size + 1 < w1.heap.size := by omega); (try have hy1c : w.heap.size + 1 + 1 < w1.heap.size := by omega); (try have hy1d : w.heap.size + 1 + 1 + 1 < w1.heap.size := by omega)
    go_wp2_with fail
    refine (rightState_is _ H2.out).mono ?_
    rintro e w2 ⟨rfl, hb2⟩
    (try replace hb2 := below_undrew hb2); (try replace hb2 := below_undrewN hb2); obtain ⟨hc2, hf2⟩ := below_cells hb2; have hz2 := hb2.size; (try simp at hz2); (try have hy2a : w.heap.size < w2.heap.size := by omega); (try have hy2b : w.heap.size + 1 < w2.heap.size := by omega); (try have hy2c : w.heap.size + 1 + 1 < w2.heap.size := by omega); (try have hy2d : w.heap.size + 1 + 1 + 1 < w2.heap.size := by omega)
    go_wp2_with (go_at_call 32; refine (in_any _ _ _ _).mono ?_; rintro e w' ⟨rfl, rfl⟩)
    refine bodyPost_ret (v := noStep 2) (by simp [noStep, results, Try.results21, go_sem, *]) rfl ⟨rfl, ?_⟩
    (repeat (first | exact Below.refl _ _ | assumption | refine Below.drew ?_ | refine Below.setCell ?_ (by first | omega | (simp; done) | (simp; omega)) _ | refine Below.alloc ?_ (by first | omega | (simp; done) | (simp; omega)) _ | refine below_on ?_ (by assumption) (by first | omega | (simp; done) | (simp; omega))))
end Go.Proofs.Ytjepnlebmgkomaa
