/-
  The walks of bucket.inside, bucket.CheckTrace and of the reference's RightTrace.
-/
import Derived.Test.YtjepnlebmgkomaaRows
import Derived.Test.YtjepnlebmgkomaaBase
import Derived.Test.YtjepnlebmgkomaaTracePlain
namespace Go.Proofs.Ytjepnlebmgkomaa
open Go.RowKit

set_option maxHeartbeats 400000 in
theorem inside_any (x lo hi : Int) (w : World) :
    Calls Try.prog 37 #[.int .i64 x, .int .i64 lo, .int .i64 hi] w fun e w' => e = .returned (.bool (insideB x lo hi)) ∧ w = w' := by
  have hs : insideB x lo hi = (decide (lo ≤ x) && decide (x ≤ hi)) := rfl
  have HS := hide hs
  clear hs
  by_cases h1 : lo ≤ x
  · by_cases h2 : x ≤ hi
    · go_enter Try.func37, Try.ntmps37
      go_wp2
      go_ret
      exact ⟨ret_bool (by rw [HS.out, decide_eq_true h1, decide_eq_true h2]; rfl), rfl⟩
    · go_enter Try.func37, Try.ntmps37
      go_wp2
      go_ret
      exact ⟨ret_bool (by rw [HS.out, decide_eq_true h1, decide_eq_false (by omega)]; rfl), rfl⟩
  · go_enter Try.func37, Try.ntmps37
    go_wp2
    go_ret
    exact ⟨ret_bool (by rw [HS.out, decide_eq_false (by omega)]; rfl), rfl⟩

set_option maxHeartbeats 400000 in
theorem checkTrace_any (A : Option Addr) (l : List (Int × Int)) (c : Nat) (w : World) (hA : Arr2 w w.heap.size A l) (hm : l.length ≤ 9223372036854775807) :
    Calls Try.prog 26 #[.slice A l.length c] w (Ret w (.int .i64 (trE l))) := by
  obtain ⟨n, hn⟩ : ∃ n, l.length = n := ⟨_, rfl⟩
  rw [hn] at hm ⊢
  have HA := hide hA
  have HN := hide hn
  clear hA hn
  by_cases hlong : 200 < n
  · have hlong' : decide ((200 : Int) < (n : Int)) = true := by simp; omega
    go_enter Try.func26, Try.ntmps26
    go_wp2
    go_ret
    exact ⟨ret_int (trE_long (by have := HN.out; omega)).symm, Below.refl _ _⟩
  · have hlong' : decide ((200 : Int) < (n : Int)) = false := by simp; omega
    go_enter Try.func26, Try.ntmps26
    go_wp2
    go_loopw [2, 3, 5, 11] (fun _ last _ i wr => ∃ (k : Nat) (la : Int), k ≤ n ∧ i = .int .i64 k ∧ last = .int .i64 la ∧ Hid (trOk 0 l = trOk la (l.drop k)) ∧ Below w.heap.size w wr) (fun _ _ _ i _ => n - (intOf i).toNat)
    case atStart => exact ⟨0, 0, Nat.zero_le _, rfl, rfl, hide (by simp), Below.refl _ _⟩
    case round =>
      obtain ⟨k, la, hk, rfl, rfl, HT, hb⟩ := hrel
      by_cases hlt : k < n
      · obtain ⟨⟨a, s⟩, hx⟩ := at_of_lt (l := l) (k := k) (by have := HN.out; omega)
        obtain ⟨b, off, rfl, hbb, g1, g2⟩ := HA.out k _ hx
        have g1' : wr.cell? ⟨b, off + k * 2, none⟩ = some (.int .i64 a) := (hb.cell (p := ⟨b, off + k * 2, none⟩) hbb).trans g1
        have g2' : wr.cell? ⟨b, off + k * 2 + 1, none⟩ = some (.int .i64 s) := (hb.cell (p := ⟨b, off + k * 2 + 1, none⟩) hbb).trans g2
        have HX := hide hx
        have hs := hb.size
        clear g1 g2 hx
        by_cases c1 : insideB a la 1099511627776 = true
        · by_cases c2 : insideB s 1 1048576 = true
          · go_wp2_with (go_at_call 37; refine (inside_any _ _ _ _).mono ?_; rintro e w' ⟨rfl, rfl⟩)
            go_roundw
            case rel =>
              refine ⟨k + 1, a, by omega, by go_num, rfl, hide (trOk_next HX.out HT.out ?_), hb.alloc hs _⟩
              simp [insideB] at c1 c2
              omega
            case measure => simp [intOf]; omega
          · have c2' : insideB s 1 1048576 = false := by simpa using c2
            clear c2
            go_wp2_with (go_at_call 37; refine (inside_any _ _ _ _).mono ?_; rintro e w' ⟨rfl, rfl⟩)
            go_ret
            refine ⟨ret_int (trE_no (trOk_stop HX.out HT.out ?_)).symm, hb.alloc hs _⟩
            simp [insideB] at c1 c2'
            omega
        · have c1' : insideB a la 1099511627776 = false := by simpa using c1
          clear c1
          go_wp2_with (go_at_call 37; refine (inside_any _ _ _ _).mono ?_; rintro e w' ⟨rfl, rfl⟩)
          go_ret
          refine ⟨ret_int (trE_no (trOk_stop HX.out HT.out ?_)).symm, hb.alloc hs _⟩
          simp [insideB] at c1'
          omega
      · go_wp2
        go_ret
        exact ⟨ret_int (trE_yes (by have := HN.out; omega) (trOk_end (by have := HN.out; omega) HT.out)).symm, hb⟩

set_option maxHeartbeats 1000000 in
theorem rightTrace_any (A : Option Addr) (l : List (Int × Int)) (c : Nat) (w : World) (hA : Arr2 w w.heap.size A l) (hm : l.length ≤ 9223372036854775807) :
    Calls Try.prog 31 #[.slice A l.length c] w fun e w' => e = .returned (.bool (trB l)) ∧ w = w' := by
  obtain ⟨n, hn⟩ : ∃ n, l.length = n := ⟨_, rfl⟩
  rw [hn] at hm ⊢
  have HA := hide hA
  have HN := hide hn
  clear hA hn
  by_cases hlong : 200 < n
  · have hlong' : decide ((200 : Int) < (n : Int)) = true := by simp; omega
    go_enter Try.func31, Try.ntmps31
    go_wp2
    go_ret
    exact ⟨ret_bool (trB_long (by have := HN.out; omega)).symm, rfl⟩
  · have hlong' : decide ((200 : Int) < (n : Int)) = false := by simp; omega
    go_enter Try.func31, Try.ntmps31
    go_wp2
    go_loop [2, 3, 4] (fun _ last i => ∃ (k : Nat) (la : Int), k ≤ n ∧ i = .int .i64 k ∧ last = .int .i64 la ∧ Hid (trOk 0 l = trOk la (l.drop k))) (fun _ _ i => n - (intOf i).toNat)
    case atStart => exact ⟨0, 0, Nat.zero_le _, rfl, rfl, hide (by simp)⟩
    case round =>
      obtain ⟨k, la, hk, rfl, rfl, HT⟩ := hrel
      by_cases hlt : k < n
      · obtain ⟨⟨a, s⟩, hx⟩ := at_of_lt (l := l) (k := k) (by have := HN.out; omega)
        obtain ⟨b, off, rfl, hbb, g1, g2⟩ := HA.out k _ hx
        dsimp only at g1 g2
        have HX := hide hx
        clear hx
        by_cases c1 : a < la
        · go_wp2
          go_ret
          exact ⟨ret_bool (trB_no (trOk_stop HX.out HT.out (by omega))).symm, rfl⟩
        · by_cases c2 : 1099511627776 < a
          · go_wp2
            go_ret
            exact ⟨ret_bool (trB_no (trOk_stop HX.out HT.out (by omega))).symm, rfl⟩
          · by_cases c3 : s < 1
            · go_wp2
              go_ret
              exact ⟨ret_bool (trB_no (trOk_stop HX.out HT.out (by omega))).symm, rfl⟩
            · by_cases c4 : 1048576 < s
              · go_wp2
                go_ret
                exact ⟨ret_bool (trB_no (trOk_stop HX.out HT.out (by omega))).symm, rfl⟩
              · go_wp2
                go_round
                case rel => exact ⟨k + 1, a, by omega, by go_num, rfl, hide (trOk_next HX.out HT.out (by omega))⟩
                case measure => simp [intOf]; omega
      · go_wp2
        go_ret
        exact ⟨ret_bool (trB_yes (by have := HN.out; omega) (trOk_end (by have := HN.out; omega) HT.out)).symm, rfl⟩
end Go.Proofs.Ytjepnlebmgkomaa
