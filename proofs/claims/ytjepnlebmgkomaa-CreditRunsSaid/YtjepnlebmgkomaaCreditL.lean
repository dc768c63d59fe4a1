/-
  The walk of the reference's Run for credit.
-/
import Derived.Test.YtjepnlebmgkomaaCreditH
import Derived.Test.YtjepnlebmgkomaaCreditJ
import Derived.Deep.RegionWith
import Derived.Deep.RegionLaw
import Derived.Deep.RegionHeld3
import Derived.Deep.DeepCutAuto
import Derived.Deep.AppendLies
namespace Go.Proofs.Ytjepnlebmgkomaa
open Go.RowKit
set_option linter.unusedVariables false

theorem trB_is {A : Option Addr} {l : List (Int × Int)} {c : Nat} {w : World} {B : Nat} {e : Bool} (hA : Arr2 w B A l) (hB : B ≤ w.heap.size) (hm : l.length ≤ 9223372036854775807) (h : trB l = e) :
    Calls Try.prog 31 #[.slice A l.length c] w fun e' w' => e' = .returned (.bool e) ∧ w = w' := by rw [← h]; exact rightTrace_any A l c w (hA.more hB) hm

set_option maxHeartbeats 1000000 in
theorem RefRun_bad1 (r p : Int) (A Fa : Option Addr) (l : List (Int × Int)) (free : List Int) (c cf : Nat) (w : World) (hA : Arr2 w w.heap.size A l) (hF : Arr1 .i64 w w.heap.size Fa free) (hm : l.length ≤ 9223372036854775807) (hmf : free.length ≤ 9223372036854775807) (h1 : slopeB r p = false) :
    Calls Try.prog 13 #[.agg #[.int .i64 r, .int .i64 p], .slice A l.length c, .slice Fa free.length cf] w (RunPost w (450, [], 0, 0)) := by
  obtain ⟨n, hn⟩ : ∃ n, l.length = n := ⟨_, rfl⟩
  obtain ⟨nf, hnf⟩ : ∃ n, free.length = n := ⟨_, rfl⟩
  rw [hn] at hm
  rw [hnf] at hmf
  have HA := hide hA
  have HF := hide hF
  have HN := hide hn
  have HNF := hide hnf
  have H1 := hide h1
  rw [HN.out, HNF.out]
  clear hA hF hn hnf h1
  go_enter Try.func13, Try.ntmps13
  go_wp2_with fail
  refine (right_is _ H1.out).mono ?_
  rintro e w1 ⟨rfl, hb1⟩
  (try replace hb1 := below_undrew hb1); (try replace hb1 := below_undrewN hb1); obtain ⟨hc1, hf1⟩ := below_cells hb1; have hz1 := hb1.size; (try simp at hz1); (try have hy1a : w.heap.size < w1.heap.size := by omega); (try have hy1b : w.heap.size + 1 < w1.heap.size := by omega); (try have hy1c : w.heap.size + 1 + 1 < w1.heap.size := by omega); (try have hy1d : w.heap.size + 1 + 1 + 1 < w1.heap.size := by omega)
  go_wp2_with fail
  have e0 : w1.cell? ⟨w.heap.size + 1, 0, none⟩ = some (.int .i64 0) := by go_simp
  have e1 : w1.cell? ⟨w.heap.size + 1, 1, none⟩ = some (.int .i64 0) := by go_simp
  refine bodyPost_ret (v := noRun 450) (by simp [noRun, results, Try.results13, go_sem, e0, e1]) rfl (runPost_no ?_)
  (repeat (first | exact Below.refl _ _ | assumption | refine Below.drew ?_ | refine Below.setCell ?_ (by first | omega | (simp; done) | (simp; omega)) _ | refine Below.alloc ?_ (by first | omega | (simp; done) | (simp; omega)) _ | refine below_on ?_ (by assumption) (by first | omega | (simp; done) | (simp; omega))))

set_option maxHeartbeats 1000000 in
theorem RefRun_bad2 (r p : Int) (A Fa : Option Addr) (l : List (Int × Int)) (free : List Int) (c cf : Nat) (w : World) (hA : Arr2 w w.heap.size A l) (hF : Arr1 .i64 w w.heap.size Fa free) (hm : l.length ≤ 9223372036854775807) (hmf : free.length ≤ 9223372036854775807) (h1 : slopeB r p = true) (h2 : trB l = false) :
    Calls Try.prog 13 #[.agg #[.int .i64 r, .int .i64 p], .slice A l.length c, .slice Fa free.length cf] w (RunPost w (131, [], 0, 0)) := by
  obtain ⟨n, hn⟩ : ∃ n, l.length = n := ⟨_, rfl⟩
  obtain ⟨nf, hnf⟩ : ∃ n, free.length = n := ⟨_, rfl⟩
  rw [hn] at hm
  rw [hnf] at hmf
  have HA := hide hA
  have HF := hide hF
  have HN := hide hn
  have HNF := hide hnf
  have H1 := hide h1
  have HC : Hid (∀ W : World, Below w.heap.size w W → Calls Try.prog 31 #[.slice A n c] W fun e' w' => e' = .returned (.bool false) ∧ W = w') := hide fun W hb => by rw [← hn]; exact trB_is (hA.below hb (Nat.le_refl _)) hb.size (by omega) h2
  rw [HN.out, HNF.out]
  clear hA hF hn hnf h1 h2
  go_enter Try.func13, Try.ntmps13
  go_wp2_with fail
  refine (right_is _ H1.out).mono ?_
  rintro e w1 ⟨rfl, hb1⟩
  (try replace hb1 := below_undrew hb1); (try replace hb1 := below_undrewN hb1); obtain ⟨hc1, hf1⟩ := below_cells hb1; have hz1 := hb1.size; (try simp at hz1); (try have hy1a : w.heap.size < w1.heap.size := by omega); (try have hy1b : w.heap.size + 1 < w1.heap.size := by omega); (try have hy1c : w.heap.size + 1 + 1 < w1.heap.size := by omega); (try have hy1d : w.heap.size + 1 + 1 + 1 < w1.heap.size := by omega)
  go_wp2_with fail
  refine (HC.out _ ?_).mono ?_
  · (repeat (first | exact Below.refl _ _ | assumption | refine Below.drew ?_ | refine Below.setCell ?_ (by first | omega | (simp; done) | (simp; omega)) _ | refine Below.alloc ?_ (by first | omega | (simp; done) | (simp; omega)) _ | refine below_on ?_ (by assumption) (by first | omega | (simp; done) | (simp; omega))))
  rintro e w2 ⟨rfl, rfl⟩
  go_wp2_with fail
  have e0 : w1.cell? ⟨w.heap.size + 1, 0, none⟩ = some (.int .i64 0) := by go_simp
  have e1 : w1.cell? ⟨w.heap.size + 1, 1, none⟩ = some (.int .i64 0) := by go_simp
  refine bodyPost_ret (v := noRun 131) (by simp [noRun, results, Try.results13, go_sem, e0, e1]) rfl (runPost_no ?_)
  (repeat (first | exact Below.refl _ _ | assumption | refine Below.drew ?_ | refine Below.setCell ?_ (by first | omega | (simp; done) | (simp; omega)) _ | refine Below.alloc ?_ (by first | omega | (simp; done) | (simp; omega)) _ | refine below_on ?_ (by assumption) (by first | omega | (simp; done) | (simp; omega))))

set_option maxHeartbeats 1000000 in
theorem RefRun_bad3 (r p : Int) (A Fa : Option Addr) (l : List (Int × Int)) (free : List Int) (c cf : Nat) (w : World) (hA : Arr2 w w.heap.size A l) (hF : Arr1 .i64 w w.heap.size Fa free) (hm : l.length ≤ 9223372036854775807) (hmf : free.length ≤ 9223372036854775807) (h1 : slopeB r p = true) (h2 : trB l = true) (h3 : l.length < free.length) :
    Calls Try.prog 13 #[.agg #[.int .i64 r, .int .i64 p], .slice A l.length c, .slice Fa free.length cf] w (RunPost w (3, [], 0, 0)) := by
  obtain ⟨n, hn⟩ : ∃ n, l.length = n := ⟨_, rfl⟩
  obtain ⟨nf, hnf⟩ : ∃ n, free.length = n := ⟨_, rfl⟩
  rw [hn] at hm
  rw [hnf] at hmf
  rw [hn, hnf] at h3
  have HA := hide hA
  have HF := hide hF
  have HN := hide hn
  have HNF := hide hnf
  have H1 := hide h1
  have HC : Hid (∀ W : World, Below w.heap.size w W → Calls Try.prog 31 #[.slice A n c] W fun e' w' => e' = .returned (.bool true) ∧ W = w') := hide fun W hb => by rw [← hn]; exact trB_is (hA.below hb (Nat.le_refl _)) hb.size (by omega) h2
  rw [HN.out, HNF.out]
  clear hA hF hn hnf h1 h2
  have h3' : decide (n < nf) = true := by simp; omega
  go_enter Try.func13, Try.ntmps13
  go_wp2_with fail
  refine (right_is _ H1.out).mono ?_
  rintro e w1 ⟨rfl, hb1⟩
  (try replace hb1 := below_undrew hb1); (try replace hb1 := below_undrewN hb1); obtain ⟨hc1, hf1⟩ := below_cells hb1; have hz1 := hb1.size; (try simp at hz1); (try have hy1a : w.heap.size < w1.heap.size := by omega); (try have hy1b : w.heap.size + 1 < w1.heap.size := by omega); (try have hy1c : w.heap.size + 1 + 1 < w1.heap.size := by omega); (try have hy1d : w.heap.size + 1 + 1 + 1 < w1.heap.size := by omega)
  go_wp2_with fail
  refine (HC.out _ ?_).mono ?_
  · (repeat (first | exact Below.refl _ _ | assumption | refine Below.drew ?_ | refine Below.setCell ?_ (by first | omega | (simp; done) | (simp; omega)) _ | refine Below.alloc ?_ (by first | omega | (simp; done) | (simp; omega)) _ | refine below_on ?_ (by assumption) (by first | omega | (simp; done) | (simp; omega))))
  rintro e w2 ⟨rfl, rfl⟩
  go_wp2_with fail
  have e0 : w1.cell? ⟨w.heap.size + 1, 0, none⟩ = some (.int .i64 0) := by go_simp
  have e1 : w1.cell? ⟨w.heap.size + 1, 1, none⟩ = some (.int .i64 0) := by go_simp
  refine bodyPost_ret (v := noRun 3) (by simp [noRun, results, Try.results13, go_sem, e0, e1]) rfl (runPost_no ?_)
  (repeat (first | exact Below.refl _ _ | assumption | refine Below.drew ?_ | refine Below.setCell ?_ (by first | omega | (simp; done) | (simp; omega)) _ | refine Below.alloc ?_ (by first | omega | (simp; done) | (simp; omega)) _ | refine below_on ?_ (by assumption) (by first | omega | (simp; done) | (simp; omega))))

end Go.Proofs.Ytjepnlebmgkomaa
