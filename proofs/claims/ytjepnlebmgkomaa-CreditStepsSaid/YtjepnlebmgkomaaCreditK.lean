/-
  The walk of credit.Run, its loops.
-/
import Derived.Test.YtjepnlebmgkomaaCreditJ
namespace Go.Proofs.Ytjepnlebmgkomaa
open Go.RowKit
set_option linter.unusedVariables false

set_option maxHeartbeats 4000000 in
theorem Run_main (r p : Int) (A Fa : Option Addr) (l : List (Int × Int)) (free : List Int) (c cf : Nat) (w : World) (hA : Arr2 w w.heap.size A l) (hF : Arr1 .i64 w w.heap.size Fa free) (hm : l.length ≤ 9223372036854775807) (hmf : free.length ≤ 9223372036854775807) (h1 : slopeB r p = true) (h2 : trB l = true) (h3 : ¬ l.length < free.length) :
    Calls Try.prog 12 #[.agg #[.int .i64 r, .int .i64 p], .slice A l.length c, .slice Fa free.length cf] w (RunPost w (runS r p l free)) := by
  obtain ⟨n, hn⟩ : ∃ n, l.length = n := ⟨_, rfl⟩
  obtain ⟨nf, hnf⟩ : ∃ n, free.length = n := ⟨_, rfl⟩
  rw [hn] at hm
  rw [hnf] at hmf
  have hn200 : n ≤ 200 := by
    simp [trB] at h2
    omega
  have h3' := h3
  rw [hn, hnf] at h3'
  have HA := hide hA
  have HF := hide hF
  have HN := hide hn
  have HNF := hide hnf
  have H1 := hide h1
  have HC : Hid (∀ W : World, Below w.heap.size w W → Calls Try.prog 26 #[.slice A n c] W (Ret W (.int .i64 0))) := hide fun W hb => by rw [← hn]; exact trE_is (hA.below hb (Nat.le_refl _)) hb.size (by omega) (by simp [trE, h2])
  have H4 : Hid (runArgs l free = false → runS r p l free = (2, [], 0, 0)) := hide fun h => runS_bad4 h1 h2 h3 h
  have H5 : Hid (runArgs l free = true → runFrom r p l free 0 0 = none → runS r p l free = (6, [], 0, 0)) := hide fun h h' => runS_bad5 h1 h2 h3 h h'
  have H6 : Hid (∀ s a b, runArgs l free = true → runFrom r p l free 0 0 = some (s, a, b) → runS r p l free = (0, s, a, b)) := hide fun s a b h h' => runS_ok h1 h2 h3 h h'
  have H2 : Hid (∀ (k : Nat) (t s : Int), l[k]? = some (t, s) → 1 ≤ s) := hide fun k t s hx => trB_size h2 hx
  obtain ⟨R, hR⟩ : ∃ R, R = runS r p l free := ⟨_, rfl⟩
  rw [← hR]
  have HR := hide hR
  clear hR
  rw [HN.out, HNF.out]
  clear hA hF hn hnf h1 h2 h3
  have hlen : decide (n < nf) = false := by simp; omega
  go_enter Try.func12, Try.ntmps12
  go_wp2_with fail
  refine (check_yes _ _ _ H1.out).mono ?_
  rintro e w1 ⟨rfl, hb1⟩
  (try replace hb1 := below_undrew hb1); (try replace hb1 := below_undrewN hb1); obtain ⟨hc1, hf1⟩ := below_cells hb1; have hz1 := hb1.size; (try simp at hz1); (try have hy1a : w.heap.size < w1.heap.size := by omega); (try have hy1b : w.heap.size + 1 < w1.heap.size := by omega); (try have hy1c : w.heap.size + 1 + 1 < w1.heap.size := by omega); (try have hy1d : w.heap.size + 1 + 1 + 1 < w1.heap.size := by omega)
  go_wp2_with fail
  refine (HC.out _ ?_).mono ?_
  · (repeat (first | exact Below.refl _ _ | assumption | refine Below.drew ?_ | refine Below.setCell ?_ (by first | omega | (simp; done) | (simp; omega)) _ | refine Below.alloc ?_ (by first | omega | (simp; done) | (simp; omega)) _ | refine below_on ?_ (by assumption) (by first | omega | (simp; done) | (simp; omega))))
  rintro e w2 ⟨rfl, hb2⟩
  (try replace hb2 := below_undrew hb2); (try replace hb2 := below_undrewN hb2); obtain ⟨hc2, hf2⟩ := below_cells hb2; have hz2 := hb2.size; (try simp at hz2); (try have hy2a : w.heap.size < w2.heap.size := by omega); (try have hy2b : w.heap.size + 1 < w2.heap.size := by omega); (try have hy2c : w.heap.size + 1 + 1 < w2.heap.size := by omega); (try have hy2d : w.heap.size + 1 + 1 + 1 < w2.heap.size := by omega)
  have B0 : Blk w2 w.heap.size 23 #[.int .i64 r, .int .i64 p] := (((Blk.new w _ _).alloc _).below hb1 (by first | omega | (simp; done) | (simp; omega))).below hb2 (by omega)
  have B1 : Blk w2 (w.heap.size + 1) 40 #[.int .i64 0, .int .i64 0] := ((Blk.new' _ _ _ (by simp)).below hb1 (by first | omega | (simp; done) | (simp; omega))).below hb2 (by omega)
  have hL2 : Below w.heap.size w w2 := by (repeat (first | exact Below.refl _ _ | assumption | refine Below.drew ?_ | refine Below.setCell ?_ (by first | omega | (simp; done) | (simp; omega)) _ | refine Below.alloc ?_ (by first | omega | (simp; done) | (simp; omega)) _ | refine below_on ?_ (by assumption) (by first | omega | (simp; done) | (simp; omega))))
  have HB0 := hide B0
  have HB1 := hide B1
  clear B0 B1 hb1 hb2 hc1 hf1 hz1 hy1a hy1b hc2 hf2 hz2 hy2a hy2b w1
  go_wp2_with fail
  go_loopw [6, 8, 12, 41] (fun _ _ _ i wr => ∃ k : Nat, k ≤ n ∧ i = .int .i64 k ∧ Hid (Passed okFrame l k) ∧ Hid (Blk wr w.heap.size 23 #[.int .i64 r, .int .i64 p]) ∧ Hid (Blk wr (w.heap.size + 1) 40 #[.int .i64 0, .int .i64 0]) ∧ Below w.heap.size w wr) (fun _ _ _ i _ => n - (intOf i).toNat)
  case atStart => exact ⟨0, Nat.zero_le _, rfl, hide (passed_zero _ _), HB0, HB1, hL2⟩
  case round =>
    clear HB0 HB1 hL2
    obtain ⟨k, hk, rfl, HP, HB0, HB1, hb⟩ := hrel
    have hs := hb.size
    have s1 := HB1.out.lt
    by_cases hlt : k < n
    · obtain ⟨⟨t, s⟩, hx⟩ := at_of_lt (l := l) (k := k) (by have := HN.out; omega)
      obtain ⟨b, off, rfl, hbb, g1, g2⟩ := HA.out k _ hx
      have g1' : wr.cell? ⟨b, off + k * 2, none⟩ = some (.int .i64 t) := (hb.cell (p := ⟨b, off + k * 2, none⟩) hbb).trans g1
      have g2' : wr.cell? ⟨b, off + k * 2 + 1, none⟩ = some (.int .i64 s) := (hb.cell (p := ⟨b, off + k * 2 + 1, none⟩) hbb).trans g2
      have HX := hide hx
      clear g1 g2 hx
      have e0 : wr.cell? ⟨w.heap.size + 1, 0, none⟩ = some (.int .i64 0) := HB1.out.cell 0
      have e1 : wr.cell? ⟨w.heap.size + 1, 1, none⟩ = some (.int .i64 0) := HB1.out.cell 1
      have f0 := HB1.out.frozen 0
      have f1 := HB1.out.frozen 1
      by_cases c1 : timeB t = true
      · by_cases c2 : 1542 < s
        · go_wp2_with (go_at_call 27; refine (timed_any _ _).mono ?_; rintro e w' ⟨rfl, rfl⟩)
          have HE := HR.out.trans (H4.out (by rw [runArgs, all_bad HX.out (by rw [okFrame, c1, decide_eq_false (by omega)]; rfl)]; rfl))
          rw [HE]
          refine bodyPost_ret (v := noRun 2) (by simp [noRun, results, Try.results12, go_sem, e0, e1, s1]) rfl (runPost_no ?_)
          (repeat (first | exact Below.refl _ _ | assumption | refine Below.drew ?_ | refine Below.setCell ?_ (by first | omega | (simp; done) | (simp; omega)) _ | refine Below.alloc ?_ (by first | omega | (simp; done) | (simp; omega)) _ | refine below_on ?_ (by assumption) (by first | omega | (simp; done) | (simp; omega))))
        · go_wp2_with (go_at_call 27; refine (timed_any _ _).mono ?_; rintro e w' ⟨rfl, rfl⟩)
          go_roundw
          case rel => exact ⟨k + 1, by omega, by go_num, hide (passed_next HP.out HX.out (by rw [okFrame, c1, decide_eq_true (by omega)]; rfl)), hide (HB0.out.alloc _), hide (HB1.out.alloc _), hb.alloc hs _⟩
          case measure => simp [intOf]; omega
      · have c1' : timeB t = false := by simpa using c1
        clear c1
        go_wp2_with (go_at_call 27; refine (timed_any _ _).mono ?_; rintro e w' ⟨rfl, rfl⟩)
        have HE := HR.out.trans (H4.out (by rw [runArgs, all_bad HX.out (by rw [okFrame, c1']; rfl)]; rfl))
        rw [HE]
        refine bodyPost_ret (v := noRun 2) (by simp [noRun, results, Try.results12, go_sem, e0, e1, s1]) rfl (runPost_no ?_)
        (repeat (first | exact Below.refl _ _ | assumption | refine Below.drew ?_ | refine Below.setCell ?_ (by first | omega | (simp; done) | (simp; omega)) _ | refine Below.alloc ?_ (by first | omega | (simp; done) | (simp; omega)) _ | refine below_on ?_ (by assumption) (by first | omega | (simp; done) | (simp; omega))))
    · have HP1 : Hid (l.all okFrame = true) := hide (passed_all HP.out (by have := HN.out; omega))
      clear HP
      go_wp2_with fail
      obtain ⟨w3, hw3⟩ : ∃ w3 : World, w3 = wr := ⟨_, rfl⟩
      subst hw3
      go_loop [6, 8, 14, 58] (fun _ _ _ i => ∃ k : Nat, k ≤ nf ∧ i = .int .i64 k ∧ Hid (Passed timeB free k)) (fun _ _ _ i => nf - (intOf i).toNat)
      case atStart => exact ⟨0, Nat.zero_le _, rfl, hide (passed_zero _ _)⟩
      case round =>
        obtain ⟨k2, hk2, rfl, HQ⟩ := hrel
        by_cases hlt2 : k2 < nf
        · obtain ⟨f, hx⟩ := at_of_lt (l := free) (k := k2) (by have := HNF.out; omega)
          obtain ⟨b, off, rfl, hbb, g1⟩ := HF.out k2 _ hx
          have g1' : w3.cell? ⟨b, off + k2, none⟩ = some (.int .i64 f) := (hb.cell (p := ⟨b, off + k2, none⟩) hbb).trans g1
          have HX := hide hx
          clear g1 hx
          have e0 : w3.cell? ⟨w.heap.size + 1, 0, none⟩ = some (.int .i64 0) := HB1.out.cell 0
          have e1 : w3.cell? ⟨w.heap.size + 1, 1, none⟩ = some (.int .i64 0) := HB1.out.cell 1
          have f0 := HB1.out.frozen 0
          have f1 := HB1.out.frozen 1
          by_cases c1 : timeB f = true
          · go_wp2_with (go_at_call 27; refine (timed_any _ _).mono ?_; rintro e w' ⟨rfl, rfl⟩)
            go_round
            case rel => exact ⟨k2 + 1, by omega, by go_num, hide (passed_next HQ.out HX.out c1)⟩
            case measure => simp [intOf]; omega
          · have c1' : timeB f = false := by simpa using c1
            clear c1
            go_wp2_with (go_at_call 27; refine (timed_any _ _).mono ?_; rintro e w' ⟨rfl, rfl⟩)
            have HE := HR.out.trans (H4.out (by rw [runArgs, all_bad HX.out c1', Bool.and_false]))
            rw [HE]
            refine bodyPost_ret (v := noRun 2) (by simp [noRun, results, Try.results12, go_sem, e0, e1]) rfl (runPost_no ?_)
            (repeat (first | exact Below.refl _ _ | assumption | refine Below.drew ?_ | refine Below.setCell ?_ (by first | omega | (simp; done) | (simp; omega)) _ | refine Below.alloc ?_ (by first | omega | (simp; done) | (simp; omega)) _ | refine below_on ?_ (by assumption) (by first | omega | (simp; done) | (simp; omega))))
        · have HP2 : Hid (runArgs l free = true) := hide (by rw [runArgs, HP1.out, passed_all HQ.out (by have := HNF.out; omega)]; rfl)
          clear HQ HP1
          go_wp2_with fail
          go_loopw [6, 8, 18, 19, 20, 70] (fun _ _ _ _ _ i wr => ∃ (k : Nat) (got : List Int) (a b : Int) (Ag : Option Addr) (cg : Nat), k ≤ n ∧ i = .int .i64 k ∧ Hid (RunAt r p l free k got a b) ∧ Hid (Blk wr w3.heap.size 29 #[.slice Ag got.length cg]) ∧
            Hid (wr.ownsRow (w3.heap.size + 1 + 1) 3 1 (.slice Ag got.length cg) got.length (got.map (Value.int .i64))) ∧ Hid (Blk wr (w3.heap.size + 1) 40 #[.int .i64 a, .int .i64 b]) ∧ Below w3.heap.size w3 wr ∧ w3.heap.size + 1 + 1 ≤ wr.heap.size) (fun _ _ _ _ _ i _ => n - (intOf i).toNat)
          case atStart => exact ⟨0, [], 0, 0, none, 0, Nat.zero_le _, rfl, hide (runAt_zero _ _ _ _), hide ((Blk.new _ _ _).alloc _), hide (World.ownsRow_nil _ _ _ _), hide (Blk.new' _ _ _ (by simp)), ((Below.refl _ _).alloc (Nat.le_refl _) _).alloc (by first | omega | (simp; done) | (simp; omega)) _, (by first | omega | (simp; done) | (simp; omega))⟩
          case round =>
            obtain ⟨k3, got, a, b, Ag, cg, hk3, rfl, HT, HG, HO, HS, hb3, hs3⟩ := hrel
            by_cases hlt3 : k3 < n
            · obtain ⟨⟨t, s⟩, hx⟩ := at_of_lt (l := l) (k := k3) (by have := HN.out; omega)
              obtain ⟨ba, off, rfl, hbb, g1, g2⟩ := HA.out k3 _ hx
              have g1' : wr.cell? ⟨ba, off + k3 * 2, none⟩ = some (.int .i64 t) := (hb3.cell (p := ⟨ba, off + k3 * 2, none⟩) (by simp; omega)).trans ((hb.cell (p := ⟨ba, off + k3 * 2, none⟩) hbb).trans g1)
              have g2' : wr.cell? ⟨ba, off + k3 * 2 + 1, none⟩ = some (.int .i64 s) := (hb3.cell (p := ⟨ba, off + k3 * 2 + 1, none⟩) (by simp; omega)).trans ((hb.cell (p := ⟨ba, off + k3 * 2 + 1, none⟩) hbb).trans g2)
              obtain ⟨v1, v2⟩ := runArgs_frame HP2.out hx
              have v3 := runArgs_free k3 HP2.out
              have v4 := H2.out k3 t s hx
              have HX := hide hx
              clear g1 g2 hx
              have B0 := HB0.out.below hb3 (by omega)
              have B1 := HB1.out.below hb3 (by omega)
              have r0 : wr.cell? ⟨w.heap.size, 0, none⟩ = some (.int .i64 r) := B0.cell 0
              have r1 : wr.cell? ⟨w.heap.size, 1, none⟩ = some (.int .i64 p) := B0.cell 1
              have s0 : wr.cell? ⟨w3.heap.size + 1, 0, none⟩ = some (.int .i64 a) := HS.out.cell 0
              have s1' : wr.cell? ⟨w3.heap.size + 1, 1, none⟩ = some (.int .i64 b) := HS.out.cell 1
              have z0 : w.heap.size < wr.heap.size := by omega
              have z1 : w3.heap.size + 1 < wr.heap.size := by omega
              have HB1' := hide B1
              clear B0 B1
              have hgl : got.length ≤ 200 := by have := HT.out.1; omega
              obtain ⟨f, hfe⟩ : ∃ f, freeAt free k3 = f := ⟨_, rfl⟩
              have HST : Hid (∀ W : World, Calls Try.prog 29 #[.agg #[.int .i64 r, .int .i64 p], .agg #[.int .i64 a, .int .i64 b], .int .i64 t, .int .i64 f, .int .i64 s] W (Ret W (.tuple #[.int .i64 (stepStart r a b t f), .agg #[.int .i64 (stepAt r p a b t f s), .int .i64 (stepLevel r p a b t f s)]]))) := hide fun W => step_any r p a b t f s W H1.out HT.out.2.1 v1 (by rw [← hfe]; exact v3) v4 v2
              have HFE := hide hfe
              clear v1 v2 v3 v4 hfe
              by_cases hf3 : k3 < nf
              · obtain ⟨f', hx2⟩ := at_of_lt (l := free) (k := k3) (by have := HNF.out; omega)
                obtain rfl : f' = f := by rw [← HFE.out]; exact (freeAt_in hx2).symm
                obtain ⟨bf, offf, rfl, hbf, g3⟩ := HF.out k3 _ hx2
                have g3' : wr.cell? ⟨bf, offf + k3, none⟩ = some (.int .i64 f') := (hb3.cell (p := ⟨bf, offf + k3, none⟩) (by simp; omega)).trans ((hb.cell (p := ⟨bf, offf + k3, none⟩) hbf).trans g3)
                have zf : bf < wr.heap.size := by omega
                clear hx2 g3
                go_wp2_with fail
                refine (HST.out _).mono ?_
                rintro e w4 ⟨rfl, hb4⟩
                have hz4 := hb4.size
                simp at hz4
                go_wp2_with fail
                refine (collect_any _ _ _ a b _ w3.heap.size (w3.heap.size + 1 + 1) Ag cg got ((HG.out.alloc _).below hb4 (by first | omega | (simp; done) | (simp; omega))) ((HS.out.alloc _).below hb4 (by first | omega | (simp; done) | (simp; omega))) (by omega) (own_keep (HO.out.alloc _) hb4 (Nat.le_refl _)) (by omega) (by omega)).mono ?_
                rintro e w5 ⟨rfl, ⟨A5, c5, hG5, hO5⟩, hS5, hb5⟩
                have hL5 : Below w3.heap.size w3 w5 := (below_on (hb3.alloc (by omega) _) hb4 (by first | omega | (simp; done) | (simp; omega))).trans hb5
                have hB5 := ((HB1'.out.alloc _).below hb4 (by first | omega | (simp; done) | (simp; omega))).below hb5 (by omega)
                have hz5 := hb5.size
                clear hb4 hb5
                have HG5 := hide hG5
                have HO5 := hide hO5
                have HS5 := hide hS5
                have HB5 := hide hB5
                clear hG5 hO5 hS5 hB5
                cases hst : stateB (stepAt r p a b t f' s) (stepLevel r p a b t f' s)
                · have e0 : w5.cell? ⟨w.heap.size + 1, 0, none⟩ = some (.int .i64 0) := HB5.out.cell 0
                  have e1 : w5.cell? ⟨w.heap.size + 1, 1, none⟩ = some (.int .i64 0) := HB5.out.cell 1
                  have f0 := HB5.out.frozen 0
                  have f1 := HB5.out.frozen 1
                  have HE := HR.out.trans (H5.out HP2.out (runAt_big HT.out HX.out (by rw [HFE.out]; exact hst)))
                  have HE' := hide HE
                  clear HE hst
                  go_wp2_with fail
                  rw [HE'.out]
                  refine bodyPost_ret (v := noRun 6) (by simp [noRun, results, Try.results12, go_sem, e0, e1]) rfl (runPost_no ?_)
                  refine Below.setCell (Below.setCell (below_on hb hL5 (by omega)) (by first | omega | (simp; done) | (simp; omega)) _) (by first | omega | (simp; done) | (simp; omega)) _
                · have HN1 := hide (runAt_next HT.out HX.out (by rw [HFE.out]; exact hst))
                  clear hst
                  go_wp2_with fail
                  go_roundw
                  case rel =>
                    rw [HFE.out] at HN1
                    exact ⟨k3 + 1, got ++ [stepStart r a b t f'], stepAt r p a b t f' s, stepLevel r p a b t f' s, A5, c5, by omega, by go_num, HN1, hide (by rw [List.length_append]; exact HG5.out), hide (by rw [List.length_append]; exact HO5.out), HS5, hL5, by omega⟩
                  case measure => simp [intOf]; omega
              · obtain rfl : f = 0 := by rw [← HFE.out]; exact freeAt_out (by have := HNF.out; omega)
                go_wp2_with fail
                refine (HST.out _).mono ?_
                rintro e w4 ⟨rfl, hb4⟩
                have hz4 := hb4.size
                simp at hz4
                go_wp2_with fail
                refine (collect_any _ _ _ a b _ w3.heap.size (w3.heap.size + 1 + 1) Ag cg got ((HG.out.alloc _).below hb4 (by first | omega | (simp; done) | (simp; omega))) ((HS.out.alloc _).below hb4 (by first | omega | (simp; done) | (simp; omega))) (by omega) (own_keep (HO.out.alloc _) hb4 (Nat.le_refl _)) (by omega) (by omega)).mono ?_
                rintro e w5 ⟨rfl, ⟨A5, c5, hG5, hO5⟩, hS5, hb5⟩
                have hL5 : Below w3.heap.size w3 w5 := (below_on (hb3.alloc (by omega) _) hb4 (by first | omega | (simp; done) | (simp; omega))).trans hb5
                have hB5 := ((HB1'.out.alloc _).below hb4 (by first | omega | (simp; done) | (simp; omega))).below hb5 (by omega)
                have hz5 := hb5.size
                clear hb4 hb5
                have HG5 := hide hG5
                have HO5 := hide hO5
                have HS5 := hide hS5
                have HB5 := hide hB5
                clear hG5 hO5 hS5 hB5
                cases hst : stateB (stepAt r p a b t 0 s) (stepLevel r p a b t 0 s)
                · have e0 : w5.cell? ⟨w.heap.size + 1, 0, none⟩ = some (.int .i64 0) := HB5.out.cell 0
                  have e1 : w5.cell? ⟨w.heap.size + 1, 1, none⟩ = some (.int .i64 0) := HB5.out.cell 1
                  have f0 := HB5.out.frozen 0
                  have f1 := HB5.out.frozen 1
                  have HE := HR.out.trans (H5.out HP2.out (runAt_big HT.out HX.out (by rw [HFE.out]; exact hst)))
                  have HE' := hide HE
                  clear HE hst
                  go_wp2_with fail
                  rw [HE'.out]
                  refine bodyPost_ret (v := noRun 6) (by simp [noRun, results, Try.results12, go_sem, e0, e1]) rfl (runPost_no ?_)
                  refine Below.setCell (Below.setCell (below_on hb hL5 (by omega)) (by first | omega | (simp; done) | (simp; omega)) _) (by first | omega | (simp; done) | (simp; omega)) _
                · have HN1 := hide (runAt_next HT.out HX.out (by rw [HFE.out]; exact hst))
                  clear hst
                  go_wp2_with fail
                  go_roundw
                  case rel =>
                    rw [HFE.out] at HN1
                    exact ⟨k3 + 1, got ++ [stepStart r a b t 0], stepAt r p a b t 0 s, stepLevel r p a b t 0 s, A5, c5, by omega, by go_num, HN1, hide (by rw [List.length_append]; exact HG5.out), hide (by rw [List.length_append]; exact HO5.out), HS5, hL5, by omega⟩
                  case measure => simp [intOf]; omega
            · have B1 := HB1.out.below hb3 (by omega)
              have e0 : wr.cell? ⟨w.heap.size + 1, 0, none⟩ = some (.int .i64 0) := B1.cell 0
              have e1 : wr.cell? ⟨w.heap.size + 1, 1, none⟩ = some (.int .i64 0) := B1.cell 1
              have f0 := B1.frozen 0
              have f1 := B1.frozen 1
              have q0 : wr.cell? ⟨w3.heap.size, 0, none⟩ = some (.slice Ag got.length cg) := HG.out.cell 0
              have q1 : wr.cell? ⟨w3.heap.size + 1, 0, none⟩ = some (.int .i64 a) := HS.out.cell 0
              have q2 : wr.cell? ⟨w3.heap.size + 1, 1, none⟩ = some (.int .i64 b) := HS.out.cell 1
              clear B1
              go_wp2_with fail
              go_region
              go_wp2_with fail
              have HE := HR.out.trans (H6.out _ _ _ HP2.out (runAt_end HT.out (by have := HN.out; omega)))
              rw [HE]
              refine bodyPost_ret (v := .tuple #[.slice Ag got.length cg, .agg #[.int .i64 a, .int .i64 b], .int .i64 0]) (by simp [results, Try.results12, go_sem, e0, e1]) rfl ⟨Ag, cg, rfl, ?_, ?_, ?_⟩
              · refine Arr1.drew (Arr1.keep (own_arr1 (own_set (a := ⟨w.heap.size + 1, 1, none⟩) (own_set (a := ⟨w.heap.size + 1, 0, none⟩) HO.out (by simp; omega) _) (by simp; omega) _)) fun _ _ => rfl)
              · obtain ⟨A', c', h', hle, _⟩ := own_form HO.out
                injection h' with _ _ h'
                simp only [h']
                exact hle
              · exact Below.drew (Below.setCell (Below.setCell (below_on hb hb3 (by omega)) (by first | omega | (simp; done) | (simp; omega)) _) (by first | omega | (simp; done) | (simp; omega)) _)

theorem Run_any (r p : Int) (A Fa : Option Addr) (l : List (Int × Int)) (free : List Int) (c cf : Nat) (w : World) (hA : Arr2 w w.heap.size A l) (hF : Arr1 .i64 w w.heap.size Fa free) (hm : l.length ≤ 9223372036854775807) (hmf : free.length ≤ 9223372036854775807) :
    Calls Try.prog 12 #[.agg #[.int .i64 r, .int .i64 p], .slice A l.length c, .slice Fa free.length cf] w (RunPost w (runS r p l free)) := by
  cases h1 : slopeB r p
  · rw [runS_bad1 h1]
    exact Run_bad1 r p A Fa l free c cf w hA hF hm hmf h1
  cases h2 : trB l
  · rw [runS_bad2 h1 h2]
    exact Run_bad2 r p A Fa l free c cf w hA hF hm hmf h1 h2
  by_cases h3 : l.length < free.length
  · rw [runS_bad3 h1 h2 h3]
    exact Run_bad3 r p A Fa l free c cf w hA hF hm hmf h1 h2 h3
  · exact Run_main r p A Fa l free c cf w hA hF hm hmf h1 h2 h3
end Go.Proofs.Ytjepnlebmgkomaa
