/-
  The walks of credit.Step and of the reference's Step: both give what the plain step gives.
-/
import Derived.Test.YtjepnlebmgkomaaCreditC
namespace Go.Proofs.Ytjepnlebmgkomaa
open Go.RowKit

def noStep (e : Int) : Value := .tuple #[.int .i64 0, .agg #[.int .i64 0, .int .i64 0], .int .i64 e]
def argB (at_ free size : Int) : Bool := timeB at_ && timeB free && insideB size 1 1542
def stepV (r p a l at_ free size : Int) : Value :=
  if slopeB r p = false then noStep 450 else if stateB a l = false then noStep 450 else if argB at_ free size = false then noStep 2
  else if stateB (stepAt r p a l at_ free size) (stepLevel r p a l at_ free size) = false then noStep 6
  else .tuple #[.int .i64 (stepStart r a l at_ free), .agg #[.int .i64 (stepAt r p a l at_ free size), .int .i64 (stepLevel r p a l at_ free size)], .int .i64 0]

theorem check_yes (r p : Int) (w : World) (h : slopeB r p = true) : Calls Try.prog 16 #[.agg #[.int .i64 r, .int .i64 p]] w (Ret w (.int .i64 0)) := by
  rw [← slopeE_yes h]; exact check_any r p w
theorem check_no (r p : Int) (w : World) (h : slopeB r p = false) : Calls Try.prog 16 #[.agg #[.int .i64 r, .int .i64 p]] w (Ret w (.int .i64 450)) := by
  rw [← slopeE_no h]; exact check_any r p w
theorem checkState_yes (r p : Int) (w : World) (h : stateB r p = true) : Calls Try.prog 18 #[.agg #[.int .i64 r, .int .i64 p]] w (Ret w (.int .i64 0)) := by
  rw [← stateE_yes h]; exact checkState_any r p w
theorem checkState_no (r p : Int) (w : World) (h : stateB r p = false) : Calls Try.prog 18 #[.agg #[.int .i64 r, .int .i64 p]] w (Ret w (.int .i64 450)) := by
  rw [← stateE_no h]; exact checkState_any r p w

set_option maxHeartbeats 1000000 in
theorem Step_bad1 (r p a l at_ free size : Int) (w : World) (h1 : slopeB r p = false) :
    Calls Try.prog 20 #[.agg #[.int .i64 r, .int .i64 p], .agg #[.int .i64 a, .int .i64 l], .int .i64 at_, .int .i64 free, .int .i64 size] w (Ret w (noStep 450)) := by
  have H1 := hide h1
  clear h1
  go_enter Try.func20, Try.ntmps20
  go_wp2_with fail
  refine (check_no _ _ _ H1.out).mono ?_
  rintro e w1 ⟨rfl, hb1⟩
  (try replace hb1 := below_undrew hb1); (try replace hb1 := below_undrewN hb1); obtain ⟨hc1, hf1⟩ := below_cells hb1; have hz1 := hb1.size; (try simp at hz1); (try have hy1a : w.heap.size < w1.heap.size := by omega); (try have hy1b : w.heap.size + 1 < w1.heap.size := by omega); (try have hy1c : w.heap.size + 1 + 1 < w1.heap.size := by omega); (try have hy1d : w.heap.size + 1 + 1 + 1 < w1.heap.size := by omega)
  go_wp2_with fail
  refine bodyPost_ret (v := noStep 450) (by simp [noStep, results, Try.results20, go_sem, *]) rfl ⟨rfl, ?_⟩
  (repeat (first | exact Below.refl _ _ | assumption | refine Below.drew ?_ | refine Below.setCell ?_ (by first | omega | (simp; done) | (simp; omega)) _ | refine Below.alloc ?_ (by first | omega | (simp; done) | (simp; omega)) _ | refine below_on ?_ (by assumption) (by first | omega | (simp; done) | (simp; omega))))
set_option maxHeartbeats 1000000 in
theorem Step_bad2 (r p a l at_ free size : Int) (w : World) (h1 : slopeB r p = true) (h2 : stateB a l = false) :
    Calls Try.prog 20 #[.agg #[.int .i64 r, .int .i64 p], .agg #[.int .i64 a, .int .i64 l], .int .i64 at_, .int .i64 free, .int .i64 size] w (Ret w (noStep 450)) := by
  have H1 := hide h1
  have H2 := hide h2
  clear h1 h2
  go_enter Try.func20, Try.ntmps20
  go_wp2_with fail
  refine (check_yes _ _ _ H1.out).mono ?_
  rintro e w1 ⟨rfl, hb1⟩
  (try replace hb1 := below_undrew hb1); (try replace hb1 := below_undrewN hb1); obtain ⟨hc1, hf1⟩ := below_cells hb1; have hz1 := hb1.size; (try simp at hz1); (try have hy1a : w.heap.size < w1.heap.size := by omega); (try have hy1b : w.heap.size + 1 < w1.heap.size := by omega); (try have hy1c : w.heap.size + 1 + 1 < w1.heap.size := by omega); (try have hy1d : w.heap.size + 1 + 1 + 1 < w1.heap.size := by omega)
  go_wp2_with fail
  refine (checkState_no _ _ _ H2.out).mono ?_
  rintro e w2 ⟨rfl, hb2⟩
  (try replace hb2 := below_undrew hb2); (try replace hb2 := below_undrewN hb2); obtain ⟨hc2, hf2⟩ := below_cells hb2; have hz2 := hb2.size; (try simp at hz2); (try have hy2a : w.heap.size < w2.heap.size := by omega); (try have hy2b : w.heap.size + 1 < w2.heap.size := by omega); (try have hy2c : w.heap.size + 1 + 1 < w2.heap.size := by omega); (try have hy2d : w.heap.size + 1 + 1 + 1 < w2.heap.size := by omega)
  go_wp2_with fail
  refine bodyPost_ret (v := noStep 450) (by simp [noStep, results, Try.results20, go_sem, *]) rfl ⟨rfl, ?_⟩
  (repeat (first | exact Below.refl _ _ | assumption | refine Below.drew ?_ | refine Below.setCell ?_ (by first | omega | (simp; done) | (simp; omega)) _ | refine Below.alloc ?_ (by first | omega | (simp; done) | (simp; omega)) _ | refine below_on ?_ (by assumption) (by first | omega | (simp; done) | (simp; omega))))
set_option maxHeartbeats 1000000 in
theorem Step_bad3 (r p a l at_ free size : Int) (w : World) (h1 : slopeB r p = true) (h2 : stateB a l = true) (h3 : argB at_ free size = false) :
    Calls Try.prog 20 #[.agg #[.int .i64 r, .int .i64 p], .agg #[.int .i64 a, .int .i64 l], .int .i64 at_, .int .i64 free, .int .i64 size] w (Ret w (noStep 2)) := by
  have H1 := hide h1
  have H2 := hide h2
  clear h1 h2
  have h3' : timeB at_ = false ∨ timeB at_ = true ∧ timeB free = false ∨ timeB at_ = true ∧ timeB free = true ∧ size < 1 ∨ timeB at_ = true ∧ timeB free = true ∧ 1 ≤ size ∧ 1542 < size := by
    simp [argB, insideB] at h3
    cases hx : timeB at_ <;> cases hy : timeB free <;> simp_all
    omega
  clear h3
  rcases h3' with g | ⟨g, g'⟩ | ⟨g, g', g2⟩ | ⟨g, g', g2, g3⟩
  all_goals
    go_enter Try.func20, Try.ntmps20
    go_wp2_with fail
    refine (check_yes _ _ _ H1.out).mono ?_
    rintro e w1 ⟨rfl, hb1⟩
    (try replace hb1 := below_undrew hb1); (try replace hb1 := below_undrewN hb1); obtain ⟨hc1, hf1⟩ := below_cells hb1; have hz1 := hb1.size; (try simp at hz1); (try have hy1a : w.heap.size < w1.heap.size := by omega); (try have hy1b : w.heap.size + 1 < w1.heap.size := by omega); (try have hy1c : w.heap.size + 1 + 1 < w1.heap.size := by omega); (try have hy1d : w.heap.size + 1 + 1 + 1 < w1.heap.size := by omega)
    go_wp2_with fail
    refine (checkState_yes _ _ _ H2.out).mono ?_
    rintro e w2 ⟨rfl, hb2⟩
    (try replace hb2 := below_undrew hb2); (try replace hb2 := below_undrewN hb2); obtain ⟨hc2, hf2⟩ := below_cells hb2; have hz2 := hb2.size; (try simp at hz2); (try have hy2a : w.heap.size < w2.heap.size := by omega); (try have hy2b : w.heap.size + 1 < w2.heap.size := by omega); (try have hy2c : w.heap.size + 1 + 1 < w2.heap.size := by omega); (try have hy2d : w.heap.size + 1 + 1 + 1 < w2.heap.size := by omega)
    go_wp2_with (go_at_call 27; refine (timed_any _ _).mono ?_; rintro e w' ⟨rfl, rfl⟩)
    refine bodyPost_ret (v := noStep 2) (by simp [noStep, results, Try.results20, go_sem, *]) rfl ⟨rfl, ?_⟩
    (repeat (first | exact Below.refl _ _ | assumption | refine Below.drew ?_ | refine Below.setCell ?_ (by first | omega | (simp; done) | (simp; omega)) _ | refine Below.alloc ?_ (by first | omega | (simp; done) | (simp; omega)) _ | refine below_on ?_ (by assumption) (by first | omega | (simp; done) | (simp; omega))))
theorem argB_parts {at_ free size : Int} (h : argB at_ free size = true) : timeB at_ = true ∧ timeB free = true ∧ 1 ≤ size ∧ size ≤ 1542 := by
  simp [argB, insideB] at h
  exact ⟨h.1.1, h.1.2, h.2⟩
set_option maxHeartbeats 1000000 in
theorem Step_bad4 (r p a l at_ free size : Int) (w : World) (h1 : slopeB r p = true) (h2 : stateB a l = true) (h3 : argB at_ free size = true) (h4 : stateB (stepAt r p a l at_ free size) (stepLevel r p a l at_ free size) = false) :
    Calls Try.prog 20 #[.agg #[.int .i64 r, .int .i64 p], .agg #[.int .i64 a, .int .i64 l], .int .i64 at_, .int .i64 free, .int .i64 size] w (Ret w (noStep 6)) := by
  obtain ⟨g1, g2, g3, g4⟩ := argB_parts h3
  obtain ⟨sS, hS⟩ : ∃ x, x = stepStart r a l at_ free := ⟨_, rfl⟩
  obtain ⟨sA, hA⟩ : ∃ x, x = stepAt r p a l at_ free size := ⟨_, rfl⟩
  obtain ⟨sL, hL⟩ : ∃ x, x = stepLevel r p a l at_ free size := ⟨_, rfl⟩
  have HS : Hid (∀ w, Calls Try.prog 29 #[.agg #[.int .i64 r, .int .i64 p], .agg #[.int .i64 a, .int .i64 l], .int .i64 at_, .int .i64 free, .int .i64 size] w (Ret w (.tuple #[.int .i64 sS, .agg #[.int .i64 sA, .int .i64 sL]]))) := hide (by rw [hS, hA, hL]; exact fun w => step_any r p a l at_ free size w h1 h2 g1 g2 g3 g4)
  rw [← hA, ← hL] at h4
  have H1 := hide h1
  have H2 := hide h2
  have H4 := hide h4
  clear h1 h2 h3 h4
  clear hS hA hL
  go_enter Try.func20, Try.ntmps20
  go_wp2_with fail
  refine (check_yes _ _ _ H1.out).mono ?_
  rintro e w1 ⟨rfl, hb1⟩
  (try replace hb1 := below_undrew hb1); (try replace hb1 := below_undrewN hb1); obtain ⟨hc1, hf1⟩ := below_cells hb1; have hz1 := hb1.size; (try simp at hz1); (try have hy1a : w.heap.size < w1.heap.size := by omega); (try have hy1b : w.heap.size + 1 < w1.heap.size := by omega); (try have hy1c : w.heap.size + 1 + 1 < w1.heap.size := by omega); (try have hy1d : w.heap.size + 1 + 1 + 1 < w1.heap.size := by omega)
  go_wp2_with fail
  refine (checkState_yes _ _ _ H2.out).mono ?_
  rintro e w2 ⟨rfl, hb2⟩
  (try replace hb2 := below_undrew hb2); (try replace hb2 := below_undrewN hb2); obtain ⟨hc2, hf2⟩ := below_cells hb2; have hz2 := hb2.size; (try simp at hz2); (try have hy2a : w.heap.size < w2.heap.size := by omega); (try have hy2b : w.heap.size + 1 < w2.heap.size := by omega); (try have hy2c : w.heap.size + 1 + 1 < w2.heap.size := by omega); (try have hy2d : w.heap.size + 1 + 1 + 1 < w2.heap.size := by omega)
  go_wp2_with (go_at_call 27; refine (timed_any _ _).mono ?_; rintro e w' ⟨rfl, rfl⟩)
  refine (HS.out _).mono ?_
  rintro e w3 ⟨rfl, hb3⟩
  (try replace hb3 := below_undrew hb3); (try replace hb3 := below_undrewN hb3); obtain ⟨hc3, hf3⟩ := below_cells hb3; have hz3 := hb3.size; (try simp at hz3); (try have hy3a : w.heap.size < w3.heap.size := by omega); (try have hy3b : w.heap.size + 1 < w3.heap.size := by omega); (try have hy3c : w.heap.size + 1 + 1 < w3.heap.size := by omega); (try have hy3d : w.heap.size + 1 + 1 + 1 < w3.heap.size := by omega)
  go_wp2_with fail
  refine (checkState_no _ _ _ H4.out).mono ?_
  rintro e w4 ⟨rfl, hb4⟩
  (try replace hb4 := below_undrew hb4); (try replace hb4 := below_undrewN hb4); obtain ⟨hc4, hf4⟩ := below_cells hb4; have hz4 := hb4.size; (try simp at hz4); (try have hy4a : w.heap.size < w4.heap.size := by omega); (try have hy4b : w.heap.size + 1 < w4.heap.size := by omega); (try have hy4c : w.heap.size + 1 + 1 < w4.heap.size := by omega); (try have hy4d : w.heap.size + 1 + 1 + 1 < w4.heap.size := by omega)
  go_wp2_with fail
  have e0 : w4.cell? ⟨w.heap.size + 1 + 1, 0, none⟩ = some (.int .i64 sA) := by go_simp
  have e1 : w4.cell? ⟨w.heap.size + 1 + 1, 1, none⟩ = some (.int .i64 sL) := by go_simp
  refine bodyPost_ret (v := noStep 6) (by simp [noStep, results, Try.results20, go_sem, e0, e1]) rfl ⟨rfl, ?_⟩
  (repeat (first | exact Below.refl _ _ | assumption | refine Below.drew ?_ | refine Below.setCell ?_ (by first | omega | (simp; done) | (simp; omega)) _ | refine Below.alloc ?_ (by first | omega | (simp; done) | (simp; omega)) _ | refine below_on ?_ (by assumption) (by first | omega | (simp; done) | (simp; omega))))
set_option maxHeartbeats 1000000 in
theorem Step_ok (r p a l at_ free size : Int) (w : World) (h1 : slopeB r p = true) (h2 : stateB a l = true) (h3 : argB at_ free size = true) (h4 : stateB (stepAt r p a l at_ free size) (stepLevel r p a l at_ free size) = true) :
    Calls Try.prog 20 #[.agg #[.int .i64 r, .int .i64 p], .agg #[.int .i64 a, .int .i64 l], .int .i64 at_, .int .i64 free, .int .i64 size] w (Ret w (.tuple #[.int .i64 (stepStart r a l at_ free), .agg #[.int .i64 (stepAt r p a l at_ free size), .int .i64 (stepLevel r p a l at_ free size)], .int .i64 0])) := by
  obtain ⟨g1, g2, g3, g4⟩ := argB_parts h3
  obtain ⟨sS, hS⟩ : ∃ x, x = stepStart r a l at_ free := ⟨_, rfl⟩
  obtain ⟨sA, hA⟩ : ∃ x, x = stepAt r p a l at_ free size := ⟨_, rfl⟩
  obtain ⟨sL, hL⟩ : ∃ x, x = stepLevel r p a l at_ free size := ⟨_, rfl⟩
  have HS : Hid (∀ w, Calls Try.prog 29 #[.agg #[.int .i64 r, .int .i64 p], .agg #[.int .i64 a, .int .i64 l], .int .i64 at_, .int .i64 free, .int .i64 size] w (Ret w (.tuple #[.int .i64 sS, .agg #[.int .i64 sA, .int .i64 sL]]))) := hide (by rw [hS, hA, hL]; exact fun w => step_any r p a l at_ free size w h1 h2 g1 g2 g3 g4)
  rw [← hA, ← hL] at h4
  have H1 := hide h1
  have H2 := hide h2
  have H4 := hide h4
  clear h1 h2 h3 h4
  rw [← hS, ← hA, ← hL]
  clear hS hA hL
  go_enter Try.func20, Try.ntmps20
  go_wp2_with fail
  refine (check_yes _ _ _ H1.out).mono ?_
  rintro e w1 ⟨rfl, hb1⟩
  (try replace hb1 := below_undrew hb1); (try replace hb1 := below_undrewN hb1); obtain ⟨hc1, hf1⟩ := below_cells hb1; have hz1 := hb1.size; (try simp at hz1); (try have hy1a : w.heap.size < w1.heap.size := by omega); (try have hy1b : w.heap.size + 1 < w1.heap.size := by omega); (try have hy1c : w.heap.size + 1 + 1 < w1.heap.size := by omega); (try have hy1d : w.heap.size + 1 + 1 + 1 < w1.heap.size := by omega)
  go_wp2_with fail
  refine (checkState_yes _ _ _ H2.out).mono ?_
  rintro e w2 ⟨rfl, hb2⟩
  (try replace hb2 := below_undrew hb2); (try replace hb2 := below_undrewN hb2); obtain ⟨hc2, hf2⟩ := below_cells hb2; have hz2 := hb2.size; (try simp at hz2); (try have hy2a : w.heap.size < w2.heap.size := by omega); (try have hy2b : w.heap.size + 1 < w2.heap.size := by omega); (try have hy2c : w.heap.size + 1 + 1 < w2.heap.size := by omega); (try have hy2d : w.heap.size + 1 + 1 + 1 < w2.heap.size := by omega)
  go_wp2_with (go_at_call 27; refine (timed_any _ _).mono ?_; rintro e w' ⟨rfl, rfl⟩)
  refine (HS.out _).mono ?_
  rintro e w3 ⟨rfl, hb3⟩
  (try replace hb3 := below_undrew hb3); (try replace hb3 := below_undrewN hb3); obtain ⟨hc3, hf3⟩ := below_cells hb3; have hz3 := hb3.size; (try simp at hz3); (try have hy3a : w.heap.size < w3.heap.size := by omega); (try have hy3b : w.heap.size + 1 < w3.heap.size := by omega); (try have hy3c : w.heap.size + 1 + 1 < w3.heap.size := by omega); (try have hy3d : w.heap.size + 1 + 1 + 1 < w3.heap.size := by omega)
  go_wp2_with fail
  refine (checkState_yes _ _ _ H4.out).mono ?_
  rintro e w4 ⟨rfl, hb4⟩
  (try replace hb4 := below_undrew hb4); (try replace hb4 := below_undrewN hb4); obtain ⟨hc4, hf4⟩ := below_cells hb4; have hz4 := hb4.size; (try simp at hz4); (try have hy4a : w.heap.size < w4.heap.size := by omega); (try have hy4b : w.heap.size + 1 < w4.heap.size := by omega); (try have hy4c : w.heap.size + 1 + 1 < w4.heap.size := by omega); (try have hy4d : w.heap.size + 1 + 1 + 1 < w4.heap.size := by omega)
  go_wp2_with fail
  go_region
  go_wp2_with fail
  have e0 : w4.cell? ⟨w.heap.size + 1 + 1, 0, none⟩ = some (.int .i64 sA) := by go_simp
  have e1 : w4.cell? ⟨w.heap.size + 1 + 1, 1, none⟩ = some (.int .i64 sL) := by go_simp
  refine bodyPost_ret (v := .tuple #[.int .i64 sS, .agg #[.int .i64 sA, .int .i64 sL], .int .i64 0]) (by simp [results, Try.results20, go_sem, e0, e1]) rfl ⟨rfl, ?_⟩
  (repeat (first | exact Below.refl _ _ | assumption | refine Below.drew ?_ | refine Below.setCell ?_ (by first | omega | (simp; done) | (simp; omega)) _ | refine Below.alloc ?_ (by first | omega | (simp; done) | (simp; omega)) _ | refine below_on ?_ (by assumption) (by first | omega | (simp; done) | (simp; omega))))

theorem Step_any (r p a l at_ free size : Int) (w : World) :
    Calls Try.prog 20 #[.agg #[.int .i64 r, .int .i64 p], .agg #[.int .i64 a, .int .i64 l], .int .i64 at_, .int .i64 free, .int .i64 size] w (Ret w (stepV r p a l at_ free size)) := by
  unfold stepV
  cases h1 : slopeB r p
  · exact Step_bad1 r p a l at_ free size w h1
  cases h2 : stateB a l
  · exact Step_bad2 r p a l at_ free size w h1 h2
  cases h3 : argB at_ free size
  · exact Step_bad3 r p a l at_ free size w h1 h2 h3
  cases h4 : stateB (stepAt r p a l at_ free size) (stepLevel r p a l at_ free size)
  · exact Step_bad4 r p a l at_ free size w h1 h2 h3 h4
  · exact Step_ok r p a l at_ free size w h1 h2 h3 h4
end Go.Proofs.Ytjepnlebmgkomaa
