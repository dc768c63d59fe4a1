/-
  The walks of the reference's Same, Of and Trace, and of the law's chapter and trace.
-/
import Derived.Test.YtjepnlebmgkomaaDraft
import Derived.Test.YtjepnlebmgkomaaCreditPlain
namespace Go.Proofs.Ytjepnlebmgkomaa
open Go.RowKit
set_option linter.unusedVariables false

def sameB (a b : List Int) : Bool := decide (a = b)
set_option maxHeartbeats 1000000 in
theorem same_any (A B : Option Addr) (a b : List Int) (ca cb : Nat) (w : World) (hA : Arr1 .i64 w w.heap.size A a) (hB : Arr1 .i64 w w.heap.size B b) (hm : a.length ≤ 9223372036854775807) (hm' : b.length ≤ 9223372036854775807) :
    Calls Try.prog 14 #[.slice A a.length ca, .slice B b.length cb] w fun e w' => e = .returned (.bool (sameB a b)) ∧ Below w.heap.size w w' := by
  obtain ⟨n, hn⟩ : ∃ n, a.length = n := ⟨_, rfl⟩
  obtain ⟨m, hn'⟩ : ∃ n, b.length = n := ⟨_, rfl⟩
  rw [hn] at hm ⊢
  rw [hn'] at hm' ⊢
  have HA := hide hA
  have HB := hide hB
  have HN := hide hn
  have HM := hide hn'
  clear hA hB hn hn'
  by_cases hnm : n = m
  · subst hnm
    have ht : ((n : Int) != (n : Int)) = false := by simp
    go_enter Try.func14, Try.ntmps14
    go_wp2
    go_loopw [4, 5] (fun _ i wr => ∃ k : Nat, k ≤ n ∧ i = .int .i64 k ∧ Hid (∀ i, i < k → a[i]? = b[i]?) ∧ Below w.heap.size w wr) (fun _ i _ => n - (intOf i).toNat)
    case atStart => exact ⟨0, Nat.zero_le _, rfl, hide (fun i h => by omega), Below.refl _ _⟩
    case round =>
      obtain ⟨k, hk, rfl, HE, hb⟩ := hrel
      by_cases hlt : k < n
      · obtain ⟨x, hx⟩ := at_of_lt (l := a) (k := k) (by have := HN.out; omega)
        obtain ⟨y, hy⟩ := at_of_lt (l := b) (k := k) (by have := HM.out; omega)
        obtain ⟨b1, o1, rfl, hb1, g1⟩ := HA.out k _ hx
        obtain ⟨b2, o2, rfl, hb2, g2⟩ := HB.out k _ hy
        have g1' : wr.cell? ⟨b1, o1 + k, none⟩ = some (.int .i64 x) := (hb.cell (p := ⟨b1, o1 + k, none⟩) hb1).trans g1
        have g2' : wr.cell? ⟨b2, o2 + k, none⟩ = some (.int .i64 y) := (hb.cell (p := ⟨b2, o2 + k, none⟩) hb2).trans g2
        have HX := hide hx
        have HY := hide hy
        have zk : (k : Int) < (n : Int) := by omega
        clear g1 g2 hx hy
        by_cases hxy : x = y
        · subst hxy
          have hne : (x != x) = false := by simp
          go_wp2
          go_region
          go_wp2
          go_roundw
          case rel =>
            refine ⟨k + 1, by omega, by go_num, hide fun i hi => ?_, hb.drew⟩
            by_cases e : i = k
            · rw [e, HX.out, HY.out]
            · exact HE.out i (by omega)
          case measure => simp [intOf]; omega
        · have hne : (x != y) = true := by simp [hxy]
          have HXY := hide hxy
          clear hxy
          go_wp2
          go_region
          go_wp2
          go_ret
          refine ⟨ret_bool (decide_eq_false fun h => ?_).symm, hb.drew⟩
          have := HX.out
          rw [h, HY.out] at this
          injection this with this
          exact HXY.out this.symm
      · go_wp2
        go_ret
        refine ⟨ret_bool (decide_eq_true (List.ext_getElem? fun i => ?_)).symm, hb⟩
        rcases Nat.lt_or_ge i k with h | h
        · exact HE.out i h
        · rw [List.getElem?_eq_none (by have := HN.out; omega), List.getElem?_eq_none (by have := HM.out; omega)]
  · have ht : ((n : Int) != (m : Int)) = true := by simp; omega
    have HNM := hide hnm
    clear hnm
    go_enter Try.func14, Try.ntmps14
    go_wp2
    go_ret
    exact ⟨ret_bool (decide_eq_false fun h => HNM.out (by rw [← HN.out, ← HM.out, h])).symm, Below.refl _ _⟩

def ofP (per : Int) : Int := 1 + per % 1000
def ofR (rate per : Int) : Int := 1 + rate % (1048575 / ofP per)
theorem of_ok {rate per : Int} (h1 : 0 ≤ rate) (h3 : 0 ≤ per) : slopeB (ofR rate per) (ofP per) = true := by
  have p1 : 1 ≤ ofP per ∧ ofP per ≤ 1000 := by unfold ofP; omega
  have q1 : 1 ≤ 1048575 / ofP per := (Int.le_ediv_iff_mul_le (by omega)).2 (by omega)
  have q2 := Int.emod_nonneg rate (b := 1048575 / ofP per) (by omega)
  have q3 := Int.emod_lt_of_pos rate (b := 1048575 / ofP per) (by omega)
  have q4 : 1048575 / ofP per * ofP per ≤ 1048575 := Int.ediv_mul_le _ (by omega)
  have r1 : 1 ≤ ofR rate per ∧ ofR rate per ≤ 1048575 / ofP per := by unfold ofR; omega
  have q5 := Int.mul_le_mul_of_nonneg_right r1.2 (show 0 ≤ ofP per by omega)
  have q6 : 1048575 / ofP per ≤ 1048575 := Int.ediv_le_self _ (by omega)
  rw [slopeB_iff]
  omega
set_option maxHeartbeats 1000000 in
theorem of_any (rate per : Int) (w : World) (h1 : 0 ≤ rate) (h2 : rate ≤ 4294967295) (h3 : 0 ≤ per) (h4 : per ≤ 65535) :
    Calls Try.prog 9 #[.int .u32 rate, .int .u16 per] w (Ret w (.agg #[.int .i64 (ofR rate per), .int .i64 (ofP per)])) := by
  have p1 : 0 ≤ per % 1000 ∧ per % 1000 ≤ 999 := by omega
  have q1 : 1 ≤ 1048575 / (1 + per % 1000) := (Int.le_ediv_iff_mul_le (by omega)).2 (by omega)
  have q6 : 1048575 / (1 + per % 1000) ≤ 1048575 := Int.ediv_le_self _ (by omega)
  have q2 := Int.emod_nonneg rate (b := 1048575 / (1 + per % 1000)) (by omega)
  have q3 := Int.emod_lt_of_pos rate (b := 1048575 / (1 + per % 1000)) (by omega)
  have n1 : ((1 + per % 1000 : Int) == 0) = false := by simp; omega
  have n2 : ((1048575 / (1 + per % 1000) : Int) == 0) = false := by simp; omega
  go_enter Try.func9, Try.ntmps9
  go_wp2
  refine bodyPost_ret (v := .agg #[.int .i64 (ofR rate per), .int .i64 (ofP per)]) (by simp [results, Try.results9, go_sem, ofR, ofP]) rfl ⟨rfl, ?_⟩
  (repeat (first | exact Below.refl _ _ | assumption | refine Below.drew ?_ | refine Below.setCell ?_ (by first | omega | (simp; done) | (simp; omega)) _ | refine Below.alloc ?_ (by first | omega | (simp; done) | (simp; omega)) _ | refine below_on ?_ (by assumption) (by first | omega | (simp; done) | (simp; omega))))

set_option maxHeartbeats 1000000 in
theorem chapter_any (w : World) :
    Calls Try.prog 22 #[] w (Ret w (.agg #[.int .i64 131072, .int .i64 2])) := by
  go_enter Try.func22, Try.ntmps22
  go_wp2
  refine bodyPost_ret (v := .agg #[.int .i64 131072, .int .i64 2]) (by simp [results, Try.results22, go_sem]) rfl ⟨rfl, ?_⟩
  (repeat (first | exact Below.refl _ _ | assumption | refine Below.drew ?_ | refine Below.setCell ?_ (by first | omega | (simp; done) | (simp; omega)) _ | refine Below.alloc ?_ (by first | omega | (simp; done) | (simp; omega)) _ | refine below_on ?_ (by assumption) (by first | omega | (simp; done) | (simp; omega))))
end Go.Proofs.Ytjepnlebmgkomaa
