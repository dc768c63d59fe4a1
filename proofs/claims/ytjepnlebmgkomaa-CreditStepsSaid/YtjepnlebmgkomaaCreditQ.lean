/-
  The walk of the law's runs.
-/
import Derived.Test.YtjepnlebmgkomaaCreditP
namespace Go.Proofs.Ytjepnlebmgkomaa
open Go.RowKit
set_option linter.unusedVariables false

def runsB (l : List (Int × Int)) (free : List Int) (at_ lev : Int) (want : List Int) : Bool := decide (runS 131072 2 l free = (0, want, at_, lev))

set_option maxHeartbeats 1000000 in
theorem runs_any (A Fa Wa : Option Addr) (l : List (Int × Int)) (free want : List Int) (c cf cw : Nat) (at_ lev : Int) (w : World) (hA : Arr2 w w.heap.size A l) (hF : Arr1 .i64 w w.heap.size Fa free) (hW : Arr1 .i64 w w.heap.size Wa want)
    (hm : l.length ≤ 9223372036854775807) (hmf : free.length ≤ 9223372036854775807) (hmw : want.length ≤ 9223372036854775807) :
    Calls Try.prog 24 #[.slice A l.length c, .slice Fa free.length cf, .int .i64 at_, .int .i64 lev, .slice Wa want.length cw] w (Ret w (.bool (runsB l free at_ lev want))) := by
  obtain ⟨R, hR⟩ : ∃ R, runS 131072 2 l free = R := ⟨_, rfl⟩
  have HRU : Hid (∀ W : World, Below w.heap.size w W → Calls Try.prog 12 #[.agg #[.int .i64 131072, .int .i64 2], .slice A l.length c, .slice Fa free.length cf] W (RunPost W R)) := hide fun W hb => by
    rw [← hR]; exact Run_any 131072 2 A Fa l free c cf W ((hA.below hb (Nat.le_refl _)).more hb.size) ((hF.below hb (Nat.le_refl _)).more hb.size) hm hmf
  have HSA : Hid (∀ (W : World) (B : Option Addr) (st : List Int) (d : Nat), Below w.heap.size w W → Arr1 .i64 W W.heap.size B st → st.length ≤ 9223372036854775807 → Calls Try.prog 14 #[.slice B st.length d, .slice Wa want.length cw] W fun e w' => e = .returned (.bool (sameB st want)) ∧ Below W.heap.size W w') := hide fun W B st d hb h1 h2 =>
    same_any B Wa st want d cw W h1 ((hW.below hb (Nat.le_refl _)).more hb.size) h2 hmw
  have HB : Hid (∀ b : Bool, (decide (R = (0, want, at_, lev)) = b) → runsB l free at_ lev want = b) := hide fun b hb => by rw [runsB, hR]; exact hb
  obtain ⟨b, hb⟩ : ∃ b, runsB l free at_ lev want = b := ⟨_, rfl⟩
  rw [hb]
  have HBB := hide hb
  have HRL : Hid (R.2.1.length ≤ 9223372036854775807) := hide (by rw [← hR]; exact runS_length l free)
  obtain ⟨n1, hn1⟩ : ∃ n, l.length = n := ⟨_, rfl⟩
  obtain ⟨n2, hn2⟩ : ∃ n, free.length = n := ⟨_, rfl⟩
  obtain ⟨n3, hn3⟩ : ∃ n, want.length = n := ⟨_, rfl⟩
  rw [hn1, hn2] at HRU
  rw [hn3] at HSA
  rw [hn1, hn2, hn3]
  obtain ⟨re, rs, ra, rl⟩ := R
  clear hR hb hA hF hW hm hmf hmw hn1 hn2 hn3
  go_enter Try.func24, Try.ntmps24
  go_wp2_with fail
  refine (chapter_any _).mono ?_
  rintro e w1 ⟨rfl, hb1⟩
  go_wp2_with fail
  refine (HRU.out _ hb1).mono ?_
  rintro e w2 ⟨B, d, rfl, hB, hd, hb2⟩
  dsimp only at hB hd ⊢
  have hL2 : Below w.heap.size w w2 := below_on hb1 hb2 hb1.size
  have HB2 := hide hB
  clear hB hb1 hb2
  have hsz2 := hL2.size
  by_cases c1 : re = 0
  · subst c1
    by_cases c2 : rs = want
    · have hs2 : sameB rs want = true := decide_eq_true c2
      have HC2 := hide c2
      clear c2
      by_cases c3 : ra = at_
      · subst c3
        by_cases c4 : rl = lev
        · subst c4
          go_wp2_with fail
          refine (HSA.out _ B rs d ?_ ?_ ?_).mono ?_
          · exact hL2.alloc hL2.size _
          · exact (HB2.out.alloc (Nat.le_refl _) _).more (by simp)
          · exact HRL.out
          rintro e w3 ⟨rfl, hb3⟩
          (try replace hb3 := below_undrew hb3); (try replace hb3 := below_undrewN hb3); obtain ⟨hc3, hf3⟩ := below_cells hb3; have hz3 := hb3.size; (try simp at hz3); (try have hy3a : w.heap.size < w3.heap.size := by omega); (try have hy3b : w.heap.size + 1 < w3.heap.size := by omega); (try have hy3c : w.heap.size + 1 + 1 < w3.heap.size := by omega); (try have hy3d : w.heap.size + 1 + 1 + 1 < w3.heap.size := by omega)
          have hq0 : w2.heap.size < w3.heap.size := by omega
          go_wp2_with fail
          go_ret
          refine ⟨ret_bool ((HB.out true ?_).symm.trans HBB.out), ?_⟩
          · exact decide_eq_true (by rw [HC2.out])
          · (repeat (first | exact Below.refl _ _ | assumption | refine Below.drew ?_ | refine Below.setCell ?_ (by first | omega | (simp; done) | (simp; omega)) _ | refine Below.alloc ?_ (by first | omega | (simp; done) | (simp; omega)) _ | refine below_on ?_ (by assumption) (by first | omega | (simp; done) | (simp; omega))))
        · have HNO := hide c4
          go_wp2_with fail
          refine (HSA.out _ B rs d ?_ ?_ ?_).mono ?_
          · exact hL2.alloc hL2.size _
          · exact (HB2.out.alloc (Nat.le_refl _) _).more (by simp)
          · exact HRL.out
          rintro e w3 ⟨rfl, hb3⟩
          (try replace hb3 := below_undrew hb3); (try replace hb3 := below_undrewN hb3); obtain ⟨hc3, hf3⟩ := below_cells hb3; have hz3 := hb3.size; (try simp at hz3); (try have hy3a : w.heap.size < w3.heap.size := by omega); (try have hy3b : w.heap.size + 1 < w3.heap.size := by omega); (try have hy3c : w.heap.size + 1 + 1 < w3.heap.size := by omega); (try have hy3d : w.heap.size + 1 + 1 + 1 < w3.heap.size := by omega)
          have hq0 : w2.heap.size < w3.heap.size := by omega
          go_wp2_with fail
          go_ret
          refine ⟨ret_bool ((HB.out false ?_).symm.trans HBB.out), ?_⟩
          · exact decide_eq_false fun h => by injection h with _ h; injection h with h1 h; injection h with h2 h3; exact HNO.out h3
          · (repeat (first | exact Below.refl _ _ | assumption | refine Below.drew ?_ | refine Below.setCell ?_ (by first | omega | (simp; done) | (simp; omega)) _ | refine Below.alloc ?_ (by first | omega | (simp; done) | (simp; omega)) _ | refine below_on ?_ (by assumption) (by first | omega | (simp; done) | (simp; omega))))
      · have HNO := hide c3
        go_wp2_with fail
        refine (HSA.out _ B rs d ?_ ?_ ?_).mono ?_
        · exact hL2.alloc hL2.size _
        · exact (HB2.out.alloc (Nat.le_refl _) _).more (by simp)
        · exact HRL.out
        rintro e w3 ⟨rfl, hb3⟩
        (try replace hb3 := below_undrew hb3); (try replace hb3 := below_undrewN hb3); obtain ⟨hc3, hf3⟩ := below_cells hb3; have hz3 := hb3.size; (try simp at hz3); (try have hy3a : w.heap.size < w3.heap.size := by omega); (try have hy3b : w.heap.size + 1 < w3.heap.size := by omega); (try have hy3c : w.heap.size + 1 + 1 < w3.heap.size := by omega); (try have hy3d : w.heap.size + 1 + 1 + 1 < w3.heap.size := by omega)
        have hq0 : w2.heap.size < w3.heap.size := by omega
        go_wp2_with fail
        go_ret
        refine ⟨ret_bool ((HB.out false ?_).symm.trans HBB.out), ?_⟩
        · exact decide_eq_false fun h => by injection h with _ h; injection h with h1 h; injection h with h2 h3; exact HNO.out h2
        · (repeat (first | exact Below.refl _ _ | assumption | refine Below.drew ?_ | refine Below.setCell ?_ (by first | omega | (simp; done) | (simp; omega)) _ | refine Below.alloc ?_ (by first | omega | (simp; done) | (simp; omega)) _ | refine below_on ?_ (by assumption) (by first | omega | (simp; done) | (simp; omega))))
    · have hs2 : sameB rs want = false := decide_eq_false c2
      have HNO := hide c2
      clear c2
      go_wp2_with fail
      refine (HSA.out _ B rs d ?_ ?_ ?_).mono ?_
      · exact hL2.alloc hL2.size _
      · exact (HB2.out.alloc (Nat.le_refl _) _).more (by simp)
      · exact HRL.out
      rintro e w3 ⟨rfl, hb3⟩
      (try replace hb3 := below_undrew hb3); (try replace hb3 := below_undrewN hb3); obtain ⟨hc3, hf3⟩ := below_cells hb3; have hz3 := hb3.size; (try simp at hz3); (try have hy3a : w.heap.size < w3.heap.size := by omega); (try have hy3b : w.heap.size + 1 < w3.heap.size := by omega); (try have hy3c : w.heap.size + 1 + 1 < w3.heap.size := by omega); (try have hy3d : w.heap.size + 1 + 1 + 1 < w3.heap.size := by omega)
      have hq0 : w2.heap.size < w3.heap.size := by omega
      go_wp2_with fail
      go_ret
      refine ⟨ret_bool ((HB.out false ?_).symm.trans HBB.out), ?_⟩
      · exact decide_eq_false fun h => by injection h with _ h; injection h with h1 h; injection h with h2 h3; exact HNO.out h1
      · (repeat (first | exact Below.refl _ _ | assumption | refine Below.drew ?_ | refine Below.setCell ?_ (by first | omega | (simp; done) | (simp; omega)) _ | refine Below.alloc ?_ (by first | omega | (simp; done) | (simp; omega)) _ | refine below_on ?_ (by assumption) (by first | omega | (simp; done) | (simp; omega))))
  · have HNO := hide c1
    have hq1 : (re == 0) = false := by simp [c1]
    clear c1
    go_wp2_with fail
    go_ret
    refine ⟨ret_bool ((HB.out false ?_).symm.trans HBB.out), hL2.alloc hL2.size _⟩
    exact decide_eq_false fun h => by injection h with h _; exact HNO.out h
end Go.Proofs.Ytjepnlebmgkomaa
