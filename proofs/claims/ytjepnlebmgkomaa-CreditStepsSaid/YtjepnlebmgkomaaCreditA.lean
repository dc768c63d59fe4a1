/-
  The walks of the small functions of package credit and of its reference: Check, CheckState, timed, in, Right, RightState, up.
-/
import Derived.Test.YtjepnlebmgkomaaRows
import Derived.Test.YtjepnlebmgkomaaBase
import Derived.Test.YtjepnlebmgkomaaTracePlain
import Derived.Test.YtjepnlebmgkomaaCreditPlain
namespace Go.Proofs.Ytjepnlebmgkomaa
open Go.RowKit

theorem wrap_slope {r p : Int} (h1 : 1 ≤ r) (h2 : r ≤ 1048576) (h3 : 1 ≤ p) (h4 : p ≤ 1000) : wrap64 (r * p) = r * p := by
  have := slope_mul h1 h2 h3 h4
  exact IntWalk.wrap64_in _ ⟨by omega, by omega⟩

set_option maxHeartbeats 400000 in
theorem timed_any (t : Int) (w : World) :
    Calls Try.prog 27 #[.int .i64 t] w fun e w' => e = .returned (.bool (timeB t)) ∧ w = w' := by
  by_cases h1 : 0 ≤ t
  · by_cases h2 : t ≤ 1073741824
    all_goals
      go_enter Try.func27, Try.ntmps27
      go_wp2
      go_ret
      exact ⟨ret_bool (by rw [Bool.eq_iff_iff, timeB_iff]; simp; omega), rfl⟩
  · go_enter Try.func27, Try.ntmps27
    go_wp2
    go_ret
    exact ⟨ret_bool (by rw [Bool.eq_iff_iff, timeB_iff]; simp; omega), rfl⟩

set_option maxHeartbeats 400000 in
theorem in_any (x lo hi : Int) (w : World) :
    Calls Try.prog 32 #[.int .i64 x, .int .i64 lo, .int .i64 hi] w fun e w' => e = .returned (.bool (insideB x lo hi)) ∧ w = w' := by
  have hs : insideB x lo hi = (decide (lo ≤ x) && decide (x ≤ hi)) := rfl
  have HS := hide hs
  clear hs
  by_cases h1 : lo ≤ x
  · by_cases h2 : x ≤ hi
    · go_enter Try.func32, Try.ntmps32
      go_wp2
      go_ret
      exact ⟨ret_bool (by rw [HS.out, decide_eq_true h1, decide_eq_true h2]; rfl), rfl⟩
    · go_enter Try.func32, Try.ntmps32
      go_wp2
      go_ret
      exact ⟨ret_bool (by rw [HS.out, decide_eq_true h1, decide_eq_false (by omega)]; rfl), rfl⟩
  · go_enter Try.func32, Try.ntmps32
    go_wp2
    go_ret
    exact ⟨ret_bool (by rw [HS.out, decide_eq_false (by omega)]; rfl), rfl⟩

theorem insideB_iff {x lo hi : Int} : insideB x lo hi = true ↔ (lo ≤ x ∧ x ≤ hi) := by simp [insideB]

set_option maxHeartbeats 1000000 in
theorem check_any (r p : Int) (w : World) :
    Calls Try.prog 16 #[.agg #[.int .i64 r, .int .i64 p]] w (Ret w (.int .i64 (slopeE r p))) := by
  have hi := @slopeB_iff r p
  have HI := hide hi
  clear hi
  have hw : 1 ≤ r → r ≤ 1048576 → 1 ≤ p → p ≤ 1000 → wrap64 (r * p) = r * p := wrap_slope
  have HW := hide hw
  clear hw
  go_enter Try.func16, Try.ntmps16
  go_wp2
  all_goals
    go_ret
    refine ⟨ret_int ?_, (Below.refl _ _).alloc (Nat.le_refl _) _⟩
    first
    | exact (slopeE_no (Bool.eq_false_iff.2 fun h => by have := HI.out.1 h; have := HW.out (by omega) (by omega) (by omega) (by omega); omega)).symm
    | exact (slopeE_yes (HI.out.2 (by have := HW.out (by omega) (by omega) (by omega) (by omega); omega))).symm

set_option maxHeartbeats 1000000 in
theorem checkState_any (a l : Int) (w : World) :
    Calls Try.prog 18 #[.agg #[.int .i64 a, .int .i64 l]] w (Ret w (.int .i64 (stateE a l))) := by
  have hi := @stateB_iff a l
  have HI := hide hi
  clear hi
  go_enter Try.func18, Try.ntmps18
  go_wp2
  all_goals
    go_ret
    refine ⟨ret_int ?_, (Below.refl _ _).alloc (Nat.le_refl _) _⟩
    first
    | exact (stateE_no (Bool.eq_false_iff.2 fun h => by have := HI.out.1 h; omega)).symm
    | exact (stateE_yes (HI.out.2 (by omega))).symm

set_option maxHeartbeats 1000000 in
theorem right_any (r p : Int) (w : World) :
    Calls Try.prog 30 #[.agg #[.int .i64 r, .int .i64 p]] w (Ret w (.bool (slopeB r p))) := by
  have hi := @slopeB_iff r p
  have HI := hide hi
  clear hi
  have hw : 1 ≤ r → r ≤ 1048576 → 1 ≤ p → p ≤ 1000 → wrap64 (r * p) = r * p ∧ 0 ≤ r * p := fun h1 h2 h3 h4 => ⟨wrap_slope h1 h2 h3 h4, (slope_mul h1 h2 h3 h4).1⟩
  have HW := hide hw
  clear hw
  by_cases c1 : insideB p 1 1000 = true
  · by_cases c2 : insideB r 1 1048576 = true
    · have d1 := insideB_iff.1 c1
      have d2 := insideB_iff.1 c2
      have hh : r = 1048576 → r * p = 1048576 * p := fun h => by rw [h]
      have HH := hide hh
      clear hh
      go_enter Try.func30, Try.ntmps30
      go_wp2_with (go_at_call 32; refine (in_any _ _ _ _).mono ?_; rintro e w' ⟨rfl, rfl⟩)
      go_ret
      refine ⟨ret_bool ?_, (Below.refl _ _).alloc (Nat.le_refl _) _⟩
      obtain ⟨e1, e2⟩ := HW.out (by omega) (by omega) (by omega) (by omega)
      rw [e1, Bool.eq_iff_iff, HI.out]
      simp
      by_cases e : r = 1048576
      · have := HH.out e
        omega
      · omega
    · have c2' : insideB r 1 1048576 = false := by simpa using c2
      have d2 := fun h => c2 (insideB_iff.2 h)
      have D2 := hide d2
      clear c2 d2
      go_enter Try.func30, Try.ntmps30
      go_wp2_with (go_at_call 32; refine (in_any _ _ _ _).mono ?_; rintro e w' ⟨rfl, rfl⟩)
      go_ret
      refine ⟨ret_bool ?_, (Below.refl _ _).alloc (Nat.le_refl _) _⟩
      exact (Bool.eq_false_iff.2 fun h => D2.out (by have := HI.out.1 h; omega)).symm
  · have c1' : insideB p 1 1000 = false := by simpa using c1
    have d2 := fun h => c1 (insideB_iff.2 h)
    have D2 := hide d2
    clear c1 d2
    go_enter Try.func30, Try.ntmps30
    go_wp2_with (go_at_call 32; refine (in_any _ _ _ _).mono ?_; rintro e w' ⟨rfl, rfl⟩)
    go_ret
    refine ⟨ret_bool ?_, (Below.refl _ _).alloc (Nat.le_refl _) _⟩
    exact (Bool.eq_false_iff.2 fun h => D2.out (by have := HI.out.1 h; omega)).symm

set_option maxHeartbeats 1000000 in
theorem rightState_any (a l : Int) (w : World) :
    Calls Try.prog 33 #[.agg #[.int .i64 a, .int .i64 l]] w (Ret w (.bool (stateB a l))) := by
  have hi := @stateB_iff a l
  have HI := hide hi
  clear hi
  by_cases c1 : insideB a 0 1073741824 = true
  · have d1 := insideB_iff.1 c1
    have hj := @insideB_iff l (-1616904192) 1125899906842624
    have HJ := hide hj
    clear hj
    go_enter Try.func33, Try.ntmps33
    go_wp2_with (go_at_call 32; refine (in_any _ _ _ _).mono ?_; rintro e w' ⟨rfl, rfl⟩)
    go_ret
    refine ⟨ret_bool ?_, (Below.refl _ _).alloc (Nat.le_refl _) _⟩
    rw [Bool.eq_iff_iff, HI.out, HJ.out]
    omega
  · have c1' : insideB a 0 1073741824 = false := by simpa using c1
    have d2 := fun h => c1 (insideB_iff.2 h)
    have D2 := hide d2
    clear c1 d2
    go_enter Try.func33, Try.ntmps33
    go_wp2_with (go_at_call 32; refine (in_any _ _ _ _).mono ?_; rintro e w' ⟨rfl, rfl⟩)
    go_ret
    refine ⟨ret_bool ?_, (Below.refl _ _).alloc (Nat.le_refl _) _⟩
    exact (Bool.eq_false_iff.2 fun h => D2.out (by have := HI.out.1 h; omega)).symm

set_option maxHeartbeats 400000 in
theorem up_any (r p l t : Int) (w : World) :
    Calls Try.prog 34 #[.agg #[.int .i64 r, .int .i64 p], .int .i64 l, .int .i64 t] w (Ret w (.int .i64 (wrap64 (l + wrap64 (r * t))))) := by
  go_enter Try.func34, Try.ntmps34
  go_wp2
  go_ret
  exact ⟨rfl, (Below.refl _ _).alloc (Nat.le_refl _) _⟩
end Go.Proofs.Ytjepnlebmgkomaa
