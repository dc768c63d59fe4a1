/-
  The walk of the reference's Step, its last ways.
-/
import Derived.Test.YtjepnlebmgkomaaCreditE
namespace Go.Proofs.Ytjepnlebmgkomaa
open Go.RowKit

set_option maxHeartbeats 1000000 in
theorem RefStep_busy_high_big (r p a l at_ free size : Int) (w : World) (h1 : slopeB r p = true) (h2 : stateB a l = true) (h3 : argB at_ free size = true) (hc : at_ ≤ a) (hu : 0 ≤ l + r * (max a free - a)) (h4 : stateB (max a free + size * p) (l + r * (max a free - a) + (r * p - 1048576) * size) = false) :
    Calls Try.prog 21 #[.agg #[.int .i64 r, .int .i64 p], .agg #[.int .i64 a, .int .i64 l], .int .i64 at_, .int .i64 free, .int .i64 size] w (Ret w (noStep 6)) := by
  obtain ⟨g1, g2, g3, g4⟩ := argB_parts h3
  obtain ⟨r1, r2, p1, p2, rp⟩ := slopeB_iff.1 h1
  obtain ⟨a1, a2, l1, l2⟩ := stateB_iff.1 h2
  obtain ⟨t1, t2⟩ := timeB_iff.1 g1
  obtain ⟨f1, f2⟩ := timeB_iff.1 g2
  have k1 : insideB at_ 0 1073741824 = true := insideB_iff.2 ⟨t1, t2⟩
  have k2 : insideB free 0 1073741824 = true := insideB_iff.2 ⟨f1, f2⟩
  have k3 : insideB size 1 1542 = true := insideB_iff.2 ⟨g3, g4⟩
  have H1 := hide h1
  have H2 := hide h2
  have H4 := hide h4
  clear h1 h2 h3 g1 g2 h4
  obtain ⟨m3, m4⟩ := mul_bound (x := r) (y := max a free - a) (a := 1048576) (b := 1073741824) (by omega) (by omega) (by omega) (by omega)
  obtain ⟨m5, m6⟩ := mul_bound (x := size) (y := p) (a := 1542) (b := 1000) (by omega) (by omega) (by omega) (by omega)
  obtain ⟨m7, m8⟩ := mul_bound (x := r) (y := p) (a := 1048576) (b := 1000) (by omega) (by omega) (by omega) (by omega)
  obtain ⟨m9, m10⟩ := mul_bound (x := 1048576 - r * p) (y := size) (a := 1048576) (b := 1542) (by omega) (by omega) (by omega) (by omega)
  rw [show (1048576 - r * p) * size = -((r * p - 1048576) * size) by rw [← Int.neg_mul]; congr 1; omega] at m9 m10
  go_enter Try.func21, Try.ntmps21
  go_wp2_with fail
  refine (right_is _ H1.out).mono ?_
  rintro e w1 ⟨rfl, hb1⟩
  (try replace hb1 := below_undrew hb1); (try replace hb1 := below_undrewN hb1); obtain ⟨hc1, hf1⟩ := below_cells hb1; have hz1 := hb1.size; (try simp at hz1); (try have hy1a : w.heap.size < w1.heap.size := by omega); (try have hy1b : w.heap.size + 1 < w1.heap.size := by omega); (try have hy1c : w.heap.size + 1 + 1 < w1.heap.size := by omega); (try have hy1d : w.heap.size + 1 + 1 + 1 < w1.heap.size := by omega)
  go_wp2_with fail
  refine (rightState_is _ H2.out).mono ?_
  rintro e w2 ⟨rfl, hb2⟩
  (try replace hb2 := below_undrew hb2); (try replace hb2 := below_undrewN hb2); obtain ⟨hc2, hf2⟩ := below_cells hb2; have hz2 := hb2.size; (try simp at hz2); (try have hy2a : w.heap.size < w2.heap.size := by omega); (try have hy2b : w.heap.size + 1 < w2.heap.size := by omega); (try have hy2c : w.heap.size + 1 + 1 < w2.heap.size := by omega); (try have hy2d : w.heap.size + 1 + 1 + 1 < w2.heap.size := by omega)
  go_wp2_with (go_at_call 32; refine (in_any _ _ _ _).mono ?_; rintro e w' ⟨rfl, rfl⟩)
  go_region
  go_wp2_with fail
  refine (up_in _ _ _ _ _ (by omega) (by omega) (by omega) (by omega)).mono ?_
  rintro e w3 ⟨rfl, hb3⟩
  (try replace hb3 := below_undrew hb3); (try replace hb3 := below_undrewN hb3); obtain ⟨hc3, hf3⟩ := below_cells hb3; have hz3 := hb3.size; (try simp at hz3); (try have hy3a : w.heap.size < w3.heap.size := by omega); (try have hy3b : w.heap.size + 1 < w3.heap.size := by omega); (try have hy3c : w.heap.size + 1 + 1 < w3.heap.size := by omega); (try have hy3d : w.heap.size + 1 + 1 + 1 < w3.heap.size := by omega)
  go_wp2_with fail
  refine (up_in _ _ _ _ _ (by omega) (by omega) (by omega) (by omega)).mono ?_
  rintro e w4 ⟨rfl, hb4⟩
  (try replace hb4 := below_undrew hb4); (try replace hb4 := below_undrewN hb4); obtain ⟨hc4, hf4⟩ := below_cells hb4; have hz4 := hb4.size; (try simp at hz4); (try have hy4a : w.heap.size < w4.heap.size := by omega); (try have hy4b : w.heap.size + 1 < w4.heap.size := by omega); (try have hy4c : w.heap.size + 1 + 1 < w4.heap.size := by omega); (try have hy4d : w.heap.size + 1 + 1 + 1 < w4.heap.size := by omega)
  go_wp2_with fail
  refine (rightState_is _ H4.out).mono ?_
  rintro e w5 ⟨rfl, hb5⟩
  (try replace hb5 := below_undrew hb5); (try replace hb5 := below_undrewN hb5); obtain ⟨hc5, hf5⟩ := below_cells hb5; have hz5 := hb5.size; (try simp at hz5); (try have hy5a : w.heap.size < w5.heap.size := by omega); (try have hy5b : w.heap.size + 1 < w5.heap.size := by omega); (try have hy5c : w.heap.size + 1 + 1 < w5.heap.size := by omega); (try have hy5d : w.heap.size + 1 + 1 + 1 < w5.heap.size := by omega)
  go_wp2_with fail
  have e0 : w5.cell? ⟨w.heap.size + 1 + 1, 0, none⟩ = some (.int .i64 0) := by go_simp
  have e1 : w5.cell? ⟨w.heap.size + 1 + 1, 1, none⟩ = some (.int .i64 0) := by go_simp
  refine bodyPost_ret (v := noStep 6) (by simp [noStep, results, Try.results21, go_sem, e0, e1]) rfl ⟨rfl, ?_⟩
  (repeat (first | exact Below.refl _ _ | assumption | refine Below.drew ?_ | refine Below.setCell ?_ (by first | omega | (simp; done) | (simp; omega)) _ | refine Below.alloc ?_ (by first | omega | (simp; done) | (simp; omega)) _ | refine below_on ?_ (by assumption) (by first | omega | (simp; done) | (simp; omega))))
set_option maxHeartbeats 1000000 in
theorem RefStep_busy_high_ok (r p a l at_ free size : Int) (w : World) (h1 : slopeB r p = true) (h2 : stateB a l = true) (h3 : argB at_ free size = true) (hc : at_ ≤ a) (hu : 0 ≤ l + r * (max a free - a)) (h4 : stateB (max a free + size * p) (l + r * (max a free - a) + (r * p - 1048576) * size) = true) :
    Calls Try.prog 21 #[.agg #[.int .i64 r, .int .i64 p], .agg #[.int .i64 a, .int .i64 l], .int .i64 at_, .int .i64 free, .int .i64 size] w (Ret w (.tuple #[.int .i64 (max a free), .agg #[.int .i64 (max a free + size * p), .int .i64 (l + r * (max a free - a) + (r * p - 1048576) * size)], .int .i64 0])) := by
  obtain ⟨g1, g2, g3, g4⟩ := argB_parts h3
  obtain ⟨r1, r2, p1, p2, rp⟩ := slopeB_iff.1 h1
  obtain ⟨a1, a2, l1, l2⟩ := stateB_iff.1 h2
  obtain ⟨t1, t2⟩ := timeB_iff.1 g1
  obtain ⟨f1, f2⟩ := timeB_iff.1 g2
  have k1 : insideB at_ 0 1073741824 = true := insideB_iff.2 ⟨t1, t2⟩
  have k2 : insideB free 0 1073741824 = true := insideB_iff.2 ⟨f1, f2⟩
  have k3 : insideB size 1 1542 = true := insideB_iff.2 ⟨g3, g4⟩
  have H1 := hide h1
  have H2 := hide h2
  have H4 := hide h4
  clear h1 h2 h3 g1 g2 h4
  obtain ⟨m3, m4⟩ := mul_bound (x := r) (y := max a free - a) (a := 1048576) (b := 1073741824) (by omega) (by omega) (by omega) (by omega)
  obtain ⟨m5, m6⟩ := mul_bound (x := size) (y := p) (a := 1542) (b := 1000) (by omega) (by omega) (by omega) (by omega)
  obtain ⟨m7, m8⟩ := mul_bound (x := r) (y := p) (a := 1048576) (b := 1000) (by omega) (by omega) (by omega) (by omega)
  obtain ⟨m9, m10⟩ := mul_bound (x := 1048576 - r * p) (y := size) (a := 1048576) (b := 1542) (by omega) (by omega) (by omega) (by omega)
  rw [show (1048576 - r * p) * size = -((r * p - 1048576) * size) by rw [← Int.neg_mul]; congr 1; omega] at m9 m10
  go_enter Try.func21, Try.ntmps21
  go_wp2_with fail
  refine (right_is _ H1.out).mono ?_
  rintro e w1 ⟨rfl, hb1⟩
  (try replace hb1 := below_undrew hb1); (try replace hb1 := below_undrewN hb1); obtain ⟨hc1, hf1⟩ := below_cells hb1; have hz1 := hb1.size; (try simp at hz1); (try have hy1a : w.heap.size < w1.heap.size := by omega); (try have hy1b : w.heap.size + 1 < w1.heap.size := by omega); (try have hy1c : w.heap.size + 1 + 1 < w1.heap.size := by omega); (try have hy1d : w.heap.size + 1 + 1 + 1 < w1.heap.size := by omega)
  go_wp2_with fail
  refine (rightState_is _ H2.out).mono ?_
  rintro e w2 ⟨rfl, hb2⟩
  (try replace hb2 := below_undrew hb2); (try replace hb2 := below_undrewN hb2); obtain ⟨hc2, hf2⟩ := below_cells hb2; have hz2 := hb2.size; (try simp at hz2); (try have hy2a : w.heap.size < w2.heap.size := by omega); (try have hy2b : w.heap.size + 1 < w2.heap.size := by omega); (try have hy2c : w.heap.size + 1 + 1 < w2.heap.size := by omega); (try have hy2d : w.heap.size + 1 + 1 + 1 < w2.heap.size := by omega)
  go_wp2_with (go_at_call 32; refine (in_any _ _ _ _).mono ?_; rintro e w' ⟨rfl, rfl⟩)
  go_region
  go_wp2_with fail
  refine (up_in _ _ _ _ _ (by omega) (by omega) (by omega) (by omega)).mono ?_
  rintro e w3 ⟨rfl, hb3⟩
  (try replace hb3 := below_undrew hb3); (try replace hb3 := below_undrewN hb3); obtain ⟨hc3, hf3⟩ := below_cells hb3; have hz3 := hb3.size; (try simp at hz3); (try have hy3a : w.heap.size < w3.heap.size := by omega); (try have hy3b : w.heap.size + 1 < w3.heap.size := by omega); (try have hy3c : w.heap.size + 1 + 1 < w3.heap.size := by omega); (try have hy3d : w.heap.size + 1 + 1 + 1 < w3.heap.size := by omega)
  go_wp2_with fail
  refine (up_in _ _ _ _ _ (by omega) (by omega) (by omega) (by omega)).mono ?_
  rintro e w4 ⟨rfl, hb4⟩
  (try replace hb4 := below_undrew hb4); (try replace hb4 := below_undrewN hb4); obtain ⟨hc4, hf4⟩ := below_cells hb4; have hz4 := hb4.size; (try simp at hz4); (try have hy4a : w.heap.size < w4.heap.size := by omega); (try have hy4b : w.heap.size + 1 < w4.heap.size := by omega); (try have hy4c : w.heap.size + 1 + 1 < w4.heap.size := by omega); (try have hy4d : w.heap.size + 1 + 1 + 1 < w4.heap.size := by omega)
  go_wp2_with fail
  refine (rightState_is _ H4.out).mono ?_
  rintro e w5 ⟨rfl, hb5⟩
  (try replace hb5 := below_undrew hb5); (try replace hb5 := below_undrewN hb5); obtain ⟨hc5, hf5⟩ := below_cells hb5; have hz5 := hb5.size; (try simp at hz5); (try have hy5a : w.heap.size < w5.heap.size := by omega); (try have hy5b : w.heap.size + 1 < w5.heap.size := by omega); (try have hy5c : w.heap.size + 1 + 1 < w5.heap.size := by omega); (try have hy5d : w.heap.size + 1 + 1 + 1 < w5.heap.size := by omega)
  go_wp2_with fail
  go_region
  go_wp2_with fail
  have e0 : w5.cell? ⟨w.heap.size + 1 + 1, 0, none⟩ = some (.int .i64 0) := by go_simp
  have e1 : w5.cell? ⟨w.heap.size + 1 + 1, 1, none⟩ = some (.int .i64 0) := by go_simp
  refine bodyPost_ret (v := .tuple #[.int .i64 (max a free), .agg #[.int .i64 (max a free + size * p), .int .i64 (l + r * (max a free - a) + (r * p - 1048576) * size)], .int .i64 0]) (by simp [results, Try.results21, go_sem, e0, e1]) rfl ⟨rfl, ?_⟩
  (repeat (first | exact Below.refl _ _ | assumption | refine Below.drew ?_ | refine Below.setCell ?_ (by first | omega | (simp; done) | (simp; omega)) _ | refine Below.alloc ?_ (by first | omega | (simp; done) | (simp; omega)) _ | refine below_on ?_ (by assumption) (by first | omega | (simp; done) | (simp; omega))))
set_option maxHeartbeats 1000000 in
theorem RefStep_busy_low_big (r p a l at_ free size : Int) (w : World) (h1 : slopeB r p = true) (h2 : stateB a l = true) (h3 : argB at_ free size = true) (hc : at_ ≤ a) (hu : l + r * (max a free - a) < 0) (h4 : stateB (a + (-l + r - 1) / r + size * p) (l + r * (a + (-l + r - 1) / r - a) + (r * p - 1048576) * size) = false) :
    Calls Try.prog 21 #[.agg #[.int .i64 r, .int .i64 p], .agg #[.int .i64 a, .int .i64 l], .int .i64 at_, .int .i64 free, .int .i64 size] w (Ret w (noStep 6)) := by
  obtain ⟨g1, g2, g3, g4⟩ := argB_parts h3
  obtain ⟨r1, r2, p1, p2, rp⟩ := slopeB_iff.1 h1
  obtain ⟨a1, a2, l1, l2⟩ := stateB_iff.1 h2
  obtain ⟨t1, t2⟩ := timeB_iff.1 g1
  obtain ⟨f1, f2⟩ := timeB_iff.1 g2
  have k1 : insideB at_ 0 1073741824 = true := insideB_iff.2 ⟨t1, t2⟩
  have k2 : insideB free 0 1073741824 = true := insideB_iff.2 ⟨f1, f2⟩
  have k3 : insideB size 1 1542 = true := insideB_iff.2 ⟨g3, g4⟩
  have H1 := hide h1
  have H2 := hide h2
  have H4 := hide h4
  clear h1 h2 h3 g1 g2 h4
  obtain ⟨m3, m4⟩ := mul_bound (x := r) (y := max a free - a) (a := 1048576) (b := 1073741824) (by omega) (by omega) (by omega) (by omega)
  obtain ⟨m5, m6⟩ := mul_bound (x := size) (y := p) (a := 1542) (b := 1000) (by omega) (by omega) (by omega) (by omega)
  obtain ⟨m7, m8⟩ := mul_bound (x := r) (y := p) (a := 1048576) (b := 1000) (by omega) (by omega) (by omega) (by omega)
  obtain ⟨m9, m10⟩ := mul_bound (x := 1048576 - r * p) (y := size) (a := 1048576) (b := 1542) (by omega) (by omega) (by omega) (by omega)
  rw [show (1048576 - r * p) * size = -((r * p - 1048576) * size) by rw [← Int.neg_mul]; congr 1; omega] at m9 m10
  have q0 : 0 ≤ (-l + r - 1) / r := Int.ediv_nonneg (by omega) (by omega)
  have q1 : (-l + r - 1) / r ≤ (-l + r - 1) := Int.ediv_le_self _ (by omega)
  obtain ⟨m11, m12⟩ := mul_bound (x := r) (y := a + (-l + r - 1) / r - a) (a := 1048576) (b := 4294967296) (by omega) (by omega) (by omega) (by omega)
  have hr0 : (r == 0) = false := by simp; omega
  go_enter Try.func21, Try.ntmps21
  go_wp2_with fail
  refine (right_is _ H1.out).mono ?_
  rintro e w1 ⟨rfl, hb1⟩
  (try replace hb1 := below_undrew hb1); (try replace hb1 := below_undrewN hb1); obtain ⟨hc1, hf1⟩ := below_cells hb1; have hz1 := hb1.size; (try simp at hz1); (try have hy1a : w.heap.size < w1.heap.size := by omega); (try have hy1b : w.heap.size + 1 < w1.heap.size := by omega); (try have hy1c : w.heap.size + 1 + 1 < w1.heap.size := by omega); (try have hy1d : w.heap.size + 1 + 1 + 1 < w1.heap.size := by omega)
  go_wp2_with fail
  refine (rightState_is _ H2.out).mono ?_
  rintro e w2 ⟨rfl, hb2⟩
  (try replace hb2 := below_undrew hb2); (try replace hb2 := below_undrewN hb2); obtain ⟨hc2, hf2⟩ := below_cells hb2; have hz2 := hb2.size; (try simp at hz2); (try have hy2a : w.heap.size < w2.heap.size := by omega); (try have hy2b : w.heap.size + 1 < w2.heap.size := by omega); (try have hy2c : w.heap.size + 1 + 1 < w2.heap.size := by omega); (try have hy2d : w.heap.size + 1 + 1 + 1 < w2.heap.size := by omega)
  go_wp2_with (go_at_call 32; refine (in_any _ _ _ _).mono ?_; rintro e w' ⟨rfl, rfl⟩)
  go_region
  go_wp2_with fail
  refine (up_in _ _ _ _ _ (by omega) (by omega) (by omega) (by omega)).mono ?_
  rintro e w3 ⟨rfl, hb3⟩
  (try replace hb3 := below_undrew hb3); (try replace hb3 := below_undrewN hb3); obtain ⟨hc3, hf3⟩ := below_cells hb3; have hz3 := hb3.size; (try simp at hz3); (try have hy3a : w.heap.size < w3.heap.size := by omega); (try have hy3b : w.heap.size + 1 < w3.heap.size := by omega); (try have hy3c : w.heap.size + 1 + 1 < w3.heap.size := by omega); (try have hy3d : w.heap.size + 1 + 1 + 1 < w3.heap.size := by omega)
  go_wp2_with fail
  refine (up_in _ _ _ _ _ (by omega) (by omega) (by omega) (by omega)).mono ?_
  rintro e w4 ⟨rfl, hb4⟩
  (try replace hb4 := below_undrew hb4); (try replace hb4 := below_undrewN hb4); obtain ⟨hc4, hf4⟩ := below_cells hb4; have hz4 := hb4.size; (try simp at hz4); (try have hy4a : w.heap.size < w4.heap.size := by omega); (try have hy4b : w.heap.size + 1 < w4.heap.size := by omega); (try have hy4c : w.heap.size + 1 + 1 < w4.heap.size := by omega); (try have hy4d : w.heap.size + 1 + 1 + 1 < w4.heap.size := by omega)
  go_wp2_with fail
  refine (rightState_is _ H4.out).mono ?_
  rintro e w5 ⟨rfl, hb5⟩
  (try replace hb5 := below_undrew hb5); (try replace hb5 := below_undrewN hb5); obtain ⟨hc5, hf5⟩ := below_cells hb5; have hz5 := hb5.size; (try simp at hz5); (try have hy5a : w.heap.size < w5.heap.size := by omega); (try have hy5b : w.heap.size + 1 < w5.heap.size := by omega); (try have hy5c : w.heap.size + 1 + 1 < w5.heap.size := by omega); (try have hy5d : w.heap.size + 1 + 1 + 1 < w5.heap.size := by omega)
  go_wp2_with fail
  have e0 : w5.cell? ⟨w.heap.size + 1 + 1, 0, none⟩ = some (.int .i64 0) := by go_simp
  have e1 : w5.cell? ⟨w.heap.size + 1 + 1, 1, none⟩ = some (.int .i64 0) := by go_simp
  refine bodyPost_ret (v := noStep 6) (by simp [noStep, results, Try.results21, go_sem, e0, e1]) rfl ⟨rfl, ?_⟩
  (repeat (first | exact Below.refl _ _ | assumption | refine Below.drew ?_ | refine Below.setCell ?_ (by first | omega | (simp; done) | (simp; omega)) _ | refine Below.alloc ?_ (by first | omega | (simp; done) | (simp; omega)) _ | refine below_on ?_ (by assumption) (by first | omega | (simp; done) | (simp; omega))))
set_option maxHeartbeats 1000000 in
theorem RefStep_busy_low_ok (r p a l at_ free size : Int) (w : World) (h1 : slopeB r p = true) (h2 : stateB a l = true) (h3 : argB at_ free size = true) (hc : at_ ≤ a) (hu : l + r * (max a free - a) < 0) (h4 : stateB (a + (-l + r - 1) / r + size * p) (l + r * (a + (-l + r - 1) / r - a) + (r * p - 1048576) * size) = true) :
    Calls Try.prog 21 #[.agg #[.int .i64 r, .int .i64 p], .agg #[.int .i64 a, .int .i64 l], .int .i64 at_, .int .i64 free, .int .i64 size] w (Ret w (.tuple #[.int .i64 (a + (-l + r - 1) / r), .agg #[.int .i64 (a + (-l + r - 1) / r + size * p), .int .i64 (l + r * (a + (-l + r - 1) / r - a) + (r * p - 1048576) * size)], .int .i64 0])) := by
  obtain ⟨g1, g2, g3, g4⟩ := argB_parts h3
  obtain ⟨r1, r2, p1, p2, rp⟩ := slopeB_iff.1 h1
  obtain ⟨a1, a2, l1, l2⟩ := stateB_iff.1 h2
  obtain ⟨t1, t2⟩ := timeB_iff.1 g1
  obtain ⟨f1, f2⟩ := timeB_iff.1 g2
  have k1 : insideB at_ 0 1073741824 = true := insideB_iff.2 ⟨t1, t2⟩
  have k2 : insideB free 0 1073741824 = true := insideB_iff.2 ⟨f1, f2⟩
  have k3 : insideB size 1 1542 = true := insideB_iff.2 ⟨g3, g4⟩
  have H1 := hide h1
  have H2 := hide h2
  have H4 := hide h4
  clear h1 h2 h3 g1 g2 h4
  obtain ⟨m3, m4⟩ := mul_bound (x := r) (y := max a free - a) (a := 1048576) (b := 1073741824) (by omega) (by omega) (by omega) (by omega)
  obtain ⟨m5, m6⟩ := mul_bound (x := size) (y := p) (a := 1542) (b := 1000) (by omega) (by omega) (by omega) (by omega)
  obtain ⟨m7, m8⟩ := mul_bound (x := r) (y := p) (a := 1048576) (b := 1000) (by omega) (by omega) (by omega) (by omega)
  obtain ⟨m9, m10⟩ := mul_bound (x := 1048576 - r * p) (y := size) (a := 1048576) (b := 1542) (by omega) (by omega) (by omega) (by omega)
  rw [show (1048576 - r * p) * size = -((r * p - 1048576) * size) by rw [← Int.neg_mul]; congr 1; omega] at m9 m10
  have q0 : 0 ≤ (-l + r - 1) / r := Int.ediv_nonneg (by omega) (by omega)
  have q1 : (-l + r - 1) / r ≤ (-l + r - 1) := Int.ediv_le_self _ (by omega)
  obtain ⟨m11, m12⟩ := mul_bound (x := r) (y := a + (-l + r - 1) / r - a) (a := 1048576) (b := 4294967296) (by omega) (by omega) (by omega) (by omega)
  have hr0 : (r == 0) = false := by simp; omega
  go_enter Try.func21, Try.ntmps21
  go_wp2_with fail
  refine (right_is _ H1.out).mono ?_
  rintro e w1 ⟨rfl, hb1⟩
  (try replace hb1 := below_undrew hb1); (try replace hb1 := below_undrewN hb1); obtain ⟨hc1, hf1⟩ := below_cells hb1; have hz1 := hb1.size; (try simp at hz1); (try have hy1a : w.heap.size < w1.heap.size := by omega); (try have hy1b : w.heap.size + 1 < w1.heap.size := by omega); (try have hy1c : w.heap.size + 1 + 1 < w1.heap.size := by omega); (try have hy1d : w.heap.size + 1 + 1 + 1 < w1.heap.size := by omega)
  go_wp2_with fail
  refine (rightState_is _ H2.out).mono ?_
  rintro e w2 ⟨rfl, hb2⟩
  (try replace hb2 := below_undrew hb2); (try replace hb2 := below_undrewN hb2); obtain ⟨hc2, hf2⟩ := below_cells hb2; have hz2 := hb2.size; (try simp at hz2); (try have hy2a : w.heap.size < w2.heap.size := by omega); (try have hy2b : w.heap.size + 1 < w2.heap.size := by omega); (try have hy2c : w.heap.size + 1 + 1 < w2.heap.size := by omega); (try have hy2d : w.heap.size + 1 + 1 + 1 < w2.heap.size := by omega)
  go_wp2_with (go_at_call 32; refine (in_any _ _ _ _).mono ?_; rintro e w' ⟨rfl, rfl⟩)
  go_region
  go_wp2_with fail
  refine (up_in _ _ _ _ _ (by omega) (by omega) (by omega) (by omega)).mono ?_
  rintro e w3 ⟨rfl, hb3⟩
  (try replace hb3 := below_undrew hb3); (try replace hb3 := below_undrewN hb3); obtain ⟨hc3, hf3⟩ := below_cells hb3; have hz3 := hb3.size; (try simp at hz3); (try have hy3a : w.heap.size < w3.heap.size := by omega); (try have hy3b : w.heap.size + 1 < w3.heap.size := by omega); (try have hy3c : w.heap.size + 1 + 1 < w3.heap.size := by omega); (try have hy3d : w.heap.size + 1 + 1 + 1 < w3.heap.size := by omega)
  go_wp2_with fail
  refine (up_in _ _ _ _ _ (by omega) (by omega) (by omega) (by omega)).mono ?_
  rintro e w4 ⟨rfl, hb4⟩
  (try replace hb4 := below_undrew hb4); (try replace hb4 := below_undrewN hb4); obtain ⟨hc4, hf4⟩ := below_cells hb4; have hz4 := hb4.size; (try simp at hz4); (try have hy4a : w.heap.size < w4.heap.size := by omega); (try have hy4b : w.heap.size + 1 < w4.heap.size := by omega); (try have hy4c : w.heap.size + 1 + 1 < w4.heap.size := by omega); (try have hy4d : w.heap.size + 1 + 1 + 1 < w4.heap.size := by omega)
  go_wp2_with fail
  refine (rightState_is _ H4.out).mono ?_
  rintro e w5 ⟨rfl, hb5⟩
  (try replace hb5 := below_undrew hb5); (try replace hb5 := below_undrewN hb5); obtain ⟨hc5, hf5⟩ := below_cells hb5; have hz5 := hb5.size; (try simp at hz5); (try have hy5a : w.heap.size < w5.heap.size := by omega); (try have hy5b : w.heap.size + 1 < w5.heap.size := by omega); (try have hy5c : w.heap.size + 1 + 1 < w5.heap.size := by omega); (try have hy5d : w.heap.size + 1 + 1 + 1 < w5.heap.size := by omega)
  go_wp2_with fail
  go_region
  go_wp2_with fail
  have e0 : w5.cell? ⟨w.heap.size + 1 + 1, 0, none⟩ = some (.int .i64 0) := by go_simp
  have e1 : w5.cell? ⟨w.heap.size + 1 + 1, 1, none⟩ = some (.int .i64 0) := by go_simp
  refine bodyPost_ret (v := .tuple #[.int .i64 (a + (-l + r - 1) / r), .agg #[.int .i64 (a + (-l + r - 1) / r + size * p), .int .i64 (l + r * (a + (-l + r - 1) / r - a) + (r * p - 1048576) * size)], .int .i64 0]) (by simp [results, Try.results21, go_sem, e0, e1]) rfl ⟨rfl, ?_⟩
  (repeat (first | exact Below.refl _ _ | assumption | refine Below.drew ?_ | refine Below.setCell ?_ (by first | omega | (simp; done) | (simp; omega)) _ | refine Below.alloc ?_ (by first | omega | (simp; done) | (simp; omega)) _ | refine below_on ?_ (by assumption) (by first | omega | (simp; done) | (simp; omega))))
end Go.Proofs.Ytjepnlebmgkomaa
