/-
  The walk of credit.Run.
-/
import Derived.Test.YtjepnlebmgkomaaCreditI
import Derived.Test.YtjepnlebmgkomaaRunPlain
import Derived.Test.YtjepnlebmgkomaaTrace
namespace Go.Proofs.Ytjepnlebmgkomaa
open Go.RowKit
set_option linter.unusedVariables false

/-- What a run leaves: the starts in a slice, the last state, the error. -/
def RunPost (w : World) (R : Int × List Int × Int × Int) (e : Ending) (w' : World) : Prop :=
  ∃ A c, e = .returned (.tuple #[.slice A R.2.1.length c, .agg #[.int .i64 R.2.2.1, .int .i64 R.2.2.2], .int .i64 R.1]) ∧ Arr1 .i64 w' w'.heap.size A R.2.1 ∧ R.2.1.length ≤ c ∧ Below w.heap.size w w'
def noRun (e : Int) : Value := .tuple #[.slice none 0 0, .agg #[.int .i64 0, .int .i64 0], .int .i64 e]
theorem runPost_no {w w' : World} {e : Int} (h : Below w.heap.size w w') : RunPost w (e, [], 0, 0) (.returned (noRun e)) w' := ⟨none, 0, rfl, Arr1.nil, Nat.le_refl _, h⟩
theorem trE_is {A : Option Addr} {l : List (Int × Int)} {c : Nat} {w : World} {B : Nat} {e : Int} (hA : Arr2 w B A l) (hB : B ≤ w.heap.size) (hm : l.length ≤ 9223372036854775807) (h : trE l = e) :
    Calls Try.prog 26 #[.slice A l.length c] w (Ret w (.int .i64 e)) := by rw [← h]; exact checkTrace_any A l c w (hA.more hB) hm

set_option maxHeartbeats 1000000 in
theorem Run_bad1 (r p : Int) (A Fa : Option Addr) (l : List (Int × Int)) (free : List Int) (c cf : Nat) (w : World) (hA : Arr2 w w.heap.size A l) (hF : Arr1 .i64 w w.heap.size Fa free) (hm : l.length ≤ 9223372036854775807) (hmf : free.length ≤ 9223372036854775807) (h1 : slopeB r p = false) :
    Calls Try.prog 12 #[.agg #[.int .i64 r, .int .i64 p], .slice A l.length c, .slice Fa free.length cf] w (RunPost w (450, [], 0, 0)) := by
  obtain ⟨n, hn⟩ : ∃ n, l.length = n := ⟨_, rfl⟩
  obtain ⟨nf, hnf⟩ : ∃ n, free.length = n := ⟨_, rfl⟩
  rw [hn] at hm
  rw [hnf] at hmf
  have HA := hide hA
  have HF := hide hF
  have HN := hide hn
  have HNF := hide hnf
  have H1 := hide h1
  rw [HN.out, HNF.out]
  clear hA hF hn hnf h1
  go_enter Try.func12, Try.ntmps12
  go_wp2_with fail
  refine (check_no _ _ _ H1.out).mono ?_
  rintro e w1 ⟨rfl, hb1⟩
  (try replace hb1 := below_undrew hb1); (try replace hb1 := below_undrewN hb1); obtain ⟨hc1, hf1⟩ := below_cells hb1; have hz1 := hb1.size; (try simp at hz1); (try have hy1a : w.heap.size < w1.heap.size := by omega); (try have hy1b : w.heap.size + 1 < w1.heap.size := by omega); (try have hy1c : w.heap.size + 1 + 1 < w1.heap.size := by omega); (try have hy1d : w.heap.size + 1 + 1 + 1 < w1.heap.size := by omega)
  go_wp2_with fail
  have e0 : w1.cell? ⟨w.heap.size + 1, 0, none⟩ = some (.int .i64 0) := by go_simp
  have e1 : w1.cell? ⟨w.heap.size + 1, 1, none⟩ = some (.int .i64 0) := by go_simp
  refine bodyPost_ret (v := noRun 450) (by simp [noRun, results, Try.results12, go_sem, e0, e1]) rfl (runPost_no ?_)
  (repeat (first | exact Below.refl _ _ | assumption | refine Below.drew ?_ | refine Below.setCell ?_ (by first | omega | (simp; done) | (simp; omega)) _ | refine Below.alloc ?_ (by first | omega | (simp; done) | (simp; omega)) _ | refine below_on ?_ (by assumption) (by first | omega | (simp; done) | (simp; omega))))

set_option maxHeartbeats 1000000 in
theorem Run_bad2 (r p : Int) (A Fa : Option Addr) (l : List (Int × Int)) (free : List Int) (c cf : Nat) (w : World) (hA : Arr2 w w.heap.size A l) (hF : Arr1 .i64 w w.heap.size Fa free) (hm : l.length ≤ 9223372036854775807) (hmf : free.length ≤ 9223372036854775807) (h1 : slopeB r p = true) (h2 : trB l = false) :
    Calls Try.prog 12 #[.agg #[.int .i64 r, .int .i64 p], .slice A l.length c, .slice Fa free.length cf] w (RunPost w (131, [], 0, 0)) := by
  obtain ⟨n, hn⟩ : ∃ n, l.length = n := ⟨_, rfl⟩
  obtain ⟨nf, hnf⟩ : ∃ n, free.length = n := ⟨_, rfl⟩
  rw [hn] at hm
  rw [hnf] at hmf
  have HA := hide hA
  have HF := hide hF
  have HN := hide hn
  have HNF := hide hnf
  have H1 := hide h1
  have HC : Hid (∀ W : World, Below w.heap.size w W → Calls Try.prog 26 #[.slice A n c] W (Ret W (.int .i64 131))) := hide fun W hb => by rw [← hn]; exact trE_is (hA.below hb (Nat.le_refl _)) hb.size (by omega) (by simp [trE, h2])
  rw [HN.out, HNF.out]
  clear hA hF hn hnf h1 h2
  go_enter Try.func12, Try.ntmps12
  go_wp2_with fail
  refine (check_yes _ _ _ H1.out).mono ?_
  rintro e w1 ⟨rfl, hb1⟩
  (try replace hb1 := below_undrew hb1); (try replace hb1 := below_undrewN hb1); obtain ⟨hc1, hf1⟩ := below_cells hb1; have hz1 := hb1.size; (try simp at hz1); (try have hy1a : w.heap.size < w1.heap.size := by omega); (try have hy1b : w.heap.size + 1 < w1.heap.size := by omega); (try have hy1c : w.heap.size + 1 + 1 < w1.heap.size := by omega); (try have hy1d : w.heap.size + 1 + 1 + 1 < w1.heap.size := by omega)
  go_wp2_with fail
  refine (HC.out _ ?_).mono ?_
  · (repeat (first | exact Below.refl _ _ | assumption | refine Below.drew ?_ | refine Below.setCell ?_ (by first | omega | (simp; done) | (simp; omega)) _ | refine Below.alloc ?_ (by first | omega | (simp; done) | (simp; omega)) _ | refine below_on ?_ (by assumption) (by first | omega | (simp; done) | (simp; omega))))
  rintro e w2 ⟨rfl, hb2⟩
  (try replace hb2 := below_undrew hb2); (try replace hb2 := below_undrewN hb2); obtain ⟨hc2, hf2⟩ := below_cells hb2; have hz2 := hb2.size; (try simp at hz2); (try have hy2a : w.heap.size < w2.heap.size := by omega); (try have hy2b : w.heap.size + 1 < w2.heap.size := by omega); (try have hy2c : w.heap.size + 1 + 1 < w2.heap.size := by omega); (try have hy2d : w.heap.size + 1 + 1 + 1 < w2.heap.size := by omega)
  go_wp2_with fail
  have e0 : w2.cell? ⟨w.heap.size + 1, 0, none⟩ = some (.int .i64 0) := by go_simp
  have e1 : w2.cell? ⟨w.heap.size + 1, 1, none⟩ = some (.int .i64 0) := by go_simp
  refine bodyPost_ret (v := noRun 131) (by simp [noRun, results, Try.results12, go_sem, e0, e1]) rfl (runPost_no ?_)
  (repeat (first | exact Below.refl _ _ | assumption | refine Below.drew ?_ | refine Below.setCell ?_ (by first | omega | (simp; done) | (simp; omega)) _ | refine Below.alloc ?_ (by first | omega | (simp; done) | (simp; omega)) _ | refine below_on ?_ (by assumption) (by first | omega | (simp; done) | (simp; omega))))

set_option maxHeartbeats 1000000 in
theorem Run_bad3 (r p : Int) (A Fa : Option Addr) (l : List (Int × Int)) (free : List Int) (c cf : Nat) (w : World) (hA : Arr2 w w.heap.size A l) (hF : Arr1 .i64 w w.heap.size Fa free) (hm : l.length ≤ 9223372036854775807) (hmf : free.length ≤ 9223372036854775807) (h1 : slopeB r p = true) (h2 : trB l = true) (h3 : l.length < free.length) :
    Calls Try.prog 12 #[.agg #[.int .i64 r, .int .i64 p], .slice A l.length c, .slice Fa free.length cf] w (RunPost w (3, [], 0, 0)) := by
  obtain ⟨n, hn⟩ : ∃ n, l.length = n := ⟨_, rfl⟩
  obtain ⟨nf, hnf⟩ : ∃ n, free.length = n := ⟨_, rfl⟩
  rw [hn] at hm
  rw [hnf] at hmf
  rw [hn, hnf] at h3
  have HA := hide hA
  have HF := hide hF
  have HN := hide hn
  have HNF := hide hnf
  have H1 := hide h1
  have HC : Hid (∀ W : World, Below w.heap.size w W → Calls Try.prog 26 #[.slice A n c] W (Ret W (.int .i64 0))) := hide fun W hb => by rw [← hn]; exact trE_is (hA.below hb (Nat.le_refl _)) hb.size (by omega) (by simp [trE, h2])
  rw [HN.out, HNF.out]
  clear hA hF hn hnf h1 h2
  have h3' : decide (n < nf) = true := by simp; omega
  go_enter Try.func12, Try.ntmps12
  go_wp2_with fail
  refine (check_yes _ _ _ H1.out).mono ?_
  rintro e w1 ⟨rfl, hb1⟩
  (try replace hb1 := below_undrew hb1); (try replace hb1 := below_undrewN hb1); obtain ⟨hc1, hf1⟩ := below_cells hb1; have hz1 := hb1.size; (try simp at hz1); (try have hy1a : w.heap.size < w1.heap.size := by omega); (try have hy1b : w.heap.size + 1 < w1.heap.size := by omega); (try have hy1c : w.heap.size + 1 + 1 < w1.heap.size := by omega); (try have hy1d : w.heap.size + 1 + 1 + 1 < w1.heap.size := by omega)
  go_wp2_with fail
  refine (HC.out _ ?_).mono ?_
  · (repeat (first | exact Below.refl _ _ | assumption | refine Below.drew ?_ | refine Below.setCell ?_ (by first | omega | (simp; done) | (simp; omega)) _ | refine Below.alloc ?_ (by first | omega | (simp; done) | (simp; omega)) _ | refine below_on ?_ (by assumption) (by first | omega | (simp; done) | (simp; omega))))
  rintro e w2 ⟨rfl, hb2⟩
  (try replace hb2 := below_undrew hb2); (try replace hb2 := below_undrewN hb2); obtain ⟨hc2, hf2⟩ := below_cells hb2; have hz2 := hb2.size; (try simp at hz2); (try have hy2a : w.heap.size < w2.heap.size := by omega); (try have hy2b : w.heap.size + 1 < w2.heap.size := by omega); (try have hy2c : w.heap.size + 1 + 1 < w2.heap.size := by omega); (try have hy2d : w.heap.size + 1 + 1 + 1 < w2.heap.size := by omega)
  go_wp2_with fail
  have e0 : w2.cell? ⟨w.heap.size + 1, 0, none⟩ = some (.int .i64 0) := by go_simp
  have e1 : w2.cell? ⟨w.heap.size + 1, 1, none⟩ = some (.int .i64 0) := by go_simp
  refine bodyPost_ret (v := noRun 3) (by simp [noRun, results, Try.results12, go_sem, e0, e1]) rfl (runPost_no ?_)
  (repeat (first | exact Below.refl _ _ | assumption | refine Below.drew ?_ | refine Below.setCell ?_ (by first | omega | (simp; done) | (simp; omega)) _ | refine Below.alloc ?_ (by first | omega | (simp; done) | (simp; omega)) _ | refine below_on ?_ (by assumption) (by first | omega | (simp; done) | (simp; omega))))

end Go.Proofs.Ytjepnlebmgkomaa
