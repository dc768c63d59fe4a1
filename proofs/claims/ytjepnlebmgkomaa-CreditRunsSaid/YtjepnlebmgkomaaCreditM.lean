/-
  The walk of the reference's Run for credit, its loops.
-/
import Derived.Test.YtjepnlebmgkomaaCreditL
namespace Go.Proofs.Ytjepnlebmgkomaa
open Go.RowKit
set_option linter.unusedVariables false

set_option maxHeartbeats 4000000 in
theorem RefRun_main (r p : Int) (A Fa : Option Addr) (l : List (Int × Int)) (free : List Int) (c cf : Nat) (w : World) (hA : Arr2 w w.heap.size A l) (hF : Arr1 .i64 w w.heap.size Fa free) (hm : l.length ≤ 9223372036854775807) (hmf : free.length ≤ 9223372036854775807) (h1 : slopeB r p = true) (h2 : trB l = true) (h3 : ¬ l.length < free.length) :
    Calls Try.prog 13 #[.agg #[.int .i64 r, .int .i64 p], .slice A l.length c, .slice Fa free.length cf] w (RunPost w (runS r p l free)) := by
  obtain ⟨n, hn⟩ : ∃ n, l.length = n := ⟨_, rfl⟩
  obtain ⟨nf, hnf⟩ : ∃ n, free.length = n := ⟨_, rfl⟩
  rw [hn] at hm
  rw [hnf] at hmf
  have hn200 : n ≤ 200 := by
    simp [trB] at h2
    omega
  have h3' := h3
  rw [hn, hnf] at h3'
  have HA := hide hA
  have HF := hide hF
  have HN := hide hn
  have HNF := hide hnf
  have H1 := hide h1
  have HC : Hid (∀ W : World, Below w.heap.size w W → Calls Try.prog 31 #[.slice A n c] W fun e' w' => e' = .returned (.bool true) ∧ W = w') := hide fun W hb => by rw [← hn]; exact trB_is (hA.below hb (Nat.le_refl _)) hb.size (by omega) h2
  have H4 : Hid (runArgs l free = false → runS r p l free = (2, [], 0, 0)) := hide fun h => runS_bad4 h1 h2 h3 h
  have H5 : Hid (runArgs l free = true → runFrom r p l free 0 0 = none → runS r p l free = (6, [], 0, 0)) := hide fun h h' => runS_bad5 h1 h2 h3 h h'
  have H6 : Hid (∀ s a b, runArgs l free = true → runFrom r p l free 0 0 = some (s, a, b) → runS r p l free = (0, s, a, b)) := hide fun s a b h h' => runS_ok h1 h2 h3 h h'
  have H2 : Hid (∀ (k : Nat) (t s : Int), l[k]? = some (t, s) → 1 ≤ s) := hide fun k t s hx => trB_size h2 hx
  have H7 : Hid (∀ (k : Nat) (t s : Int), l[k]? = some (t, s) → 0 ≤ t) := hide fun k t s hx => trB_at h2 hx
  obtain ⟨R, hR⟩ : ∃ R, R = runS r p l free := ⟨_, rfl⟩
  rw [← hR]
  have HR := hide hR
  clear hR
  rw [HN.out, HNF.out]
  clear hA hF hn hnf h1 h2 h3
  have hlen : decide (n < nf) = false := by simp; omega
  go_enter Try.func13, Try.ntmps13
  go_wp2_with fail
  refine (right_is _ H1.out).mono ?_
  rintro e w1 ⟨rfl, hb1⟩
  (try replace hb1 := below_undrew hb1); (try replace hb1 := below_undrewN hb1); obtain ⟨hc1, hf1⟩ := below_cells hb1; have hz1 := hb1.size; (try simp at hz1); (try have hy1a : w.heap.size < w1.heap.size := by omega); (try have hy1b : w.heap.size + 1 < w1.heap.size := by omega); (try have hy1c : w.heap.size + 1 + 1 < w1.heap.size := by omega); (try have hy1d : w.heap.size + 1 + 1 + 1 < w1.heap.size := by omega)
  go_wp2_with fail
  refine (HC.out _ ?_).mono ?_
  · (repeat (first | exact Below.refl _ _ | assumption | refine Below.drew ?_ | refine Below.setCell ?_ (by first | omega | (simp; done) | (simp; omega)) _ | refine Below.alloc ?_ (by first | omega | (simp; done) | (simp; omega)) _ | refine below_on ?_ (by assumption) (by first | omega | (simp; done) | (simp; omega))))
  rintro e w2 ⟨rfl, rfl⟩
  have B0 : Blk w1 w.heap.size 23 #[.int .i64 r, .int .i64 p] := ((Blk.new w _ _).alloc _).below hb1 (by first | omega | (simp; done) | (simp; omega))
  have B1 : Blk w1 (w.heap.size + 1) 40 #[.int .i64 0, .int .i64 0] := (Blk.new' _ _ _ (by simp)).below hb1 (by first | omega | (simp; done) | (simp; omega))
  have hb : Below w.heap.size w w1 := by (repeat (first | exact Below.refl _ _ | assumption | refine Below.drew ?_ | refine Below.setCell ?_ (by first | omega | (simp; done) | (simp; omega)) _ | refine Below.alloc ?_ (by first | omega | (simp; done) | (simp; omega)) _ | refine below_on ?_ (by assumption) (by first | omega | (simp; done) | (simp; omega))))
  have HB0 := hide B0
  have HB1 := hide B1
  clear B0 B1 hb1 hc1 hf1 hz1 hy1a hy1b
  have hs := hb.size
  have s1 := HB1.out.lt
  go_wp2_with fail
  go_loop [6, 8, 9] (fun _ _ i => ∃ k : Nat, k ≤ n ∧ i = .int .i64 k ∧ Hid (Passed okFrame l k) ∧ Hid (Passed timeB free k)) (fun _ _ i => n - (intOf i).toNat)
  case atStart => exact ⟨0, Nat.zero_le _, rfl, hide (passed_zero _ _), hide (passed_zero _ _)⟩
  case round =>
    obtain ⟨k, hk, rfl, HP, HQ⟩ := hrel
    by_cases hlt : k < n
    · obtain ⟨⟨t, s⟩, hx⟩ := at_of_lt (l := l) (k := k) (by have := HN.out; omega)
      obtain ⟨b, off, rfl, hbb, g1, g2⟩ := HA.out k _ hx
      have g1' : w1.cell? ⟨b, off + k * 2, none⟩ = some (.int .i64 t) := (hb.cell (p := ⟨b, off + k * 2, none⟩) hbb).trans g1
      have g2' : w1.cell? ⟨b, off + k * 2 + 1, none⟩ = some (.int .i64 s) := (hb.cell (p := ⟨b, off + k * 2 + 1, none⟩) hbb).trans g2
      have u1 := H7.out k t s hx
      have HX := hide hx
      clear g1 g2 hx
      have e0 : w1.cell? ⟨w.heap.size + 1, 0, none⟩ = some (.int .i64 0) := HB1.out.cell 0
      have e1 : w1.cell? ⟨w.heap.size + 1, 1, none⟩ = some (.int .i64 0) := HB1.out.cell 1
      have f0 := HB1.out.frozen 0
      have f1 := HB1.out.frozen 1
      by_cases c1 : 1073741824 < t
      · go_wp2_with (go_at_call 32; refine (in_any _ _ _ _).mono ?_; rintro e w' ⟨rfl, rfl⟩)
        have HE := HR.out.trans (H4.out (by rw [runArgs, all_bad HX.out (by rw [okFrame, show timeB t = false by rw [Bool.eq_false_iff]; intro h; have := timeB_iff.1 h; omega]; rfl)]; rfl))
        rw [HE]
        refine bodyPost_ret (v := noRun 2) (by simp [noRun, results, Try.results13, go_sem, e0, e1]) rfl (runPost_no ?_)
        (repeat (first | exact Below.refl _ _ | assumption | refine Below.drew ?_ | refine Below.setCell ?_ (by first | omega | (simp; done) | (simp; omega)) _ | refine Below.alloc ?_ (by first | omega | (simp; done) | (simp; omega)) _ | refine below_on ?_ (by assumption) (by first | omega | (simp; done) | (simp; omega))))
      by_cases c2 : 1542 < s
      · go_wp2_with (go_at_call 32; refine (in_any _ _ _ _).mono ?_; rintro e w' ⟨rfl, rfl⟩)
        have HE := HR.out.trans (H4.out (by rw [runArgs, all_bad HX.out (by rw [okFrame, decide_eq_false (show ¬ s ≤ 1542 by omega), Bool.and_false])]; rfl))
        rw [HE]
        refine bodyPost_ret (v := noRun 2) (by simp [noRun, results, Try.results13, go_sem, e0, e1]) rfl (runPost_no ?_)
        (repeat (first | exact Below.refl _ _ | assumption | refine Below.drew ?_ | refine Below.setCell ?_ (by first | omega | (simp; done) | (simp; omega)) _ | refine Below.alloc ?_ (by first | omega | (simp; done) | (simp; omega)) _ | refine below_on ?_ (by assumption) (by first | omega | (simp; done) | (simp; omega))))
      by_cases hf3 : k < nf
      · obtain ⟨f, hx2⟩ := at_of_lt (l := free) (k := k) (by have := HNF.out; omega)
        obtain ⟨bf, offf, rfl, hbf, g3⟩ := HF.out k _ hx2
        have g3' : w1.cell? ⟨bf, offf + k, none⟩ = some (.int .i64 f) := (hb.cell (p := ⟨bf, offf + k, none⟩) hbf).trans g3
        have HX2 := hide hx2
        clear hx2 g3
        by_cases c3 : insideB f 0 1073741824 = true
        · have HQN : Hid (Passed timeB free (k + 1)) := hide (passed_next HQ.out HX2.out (by rw [timeB_iff]; exact insideB_iff.1 c3))
          go_wp2_with (go_at_call 32; refine (in_any _ _ _ _).mono ?_; rintro e w' ⟨rfl, rfl⟩)
          go_round
          case rel => exact ⟨k + 1, by omega, by go_num, hide (passed_next HP.out HX.out (by rw [okFrame, timeB_iff.2 ⟨u1, by omega⟩, decide_eq_true (by omega)]; rfl)), HQN⟩
          case measure => simp [intOf]; omega
        · have c3' : insideB f 0 1073741824 = false := by simpa using c3
          clear c3
          go_wp2_with (go_at_call 32; refine (in_any _ _ _ _).mono ?_; rintro e w' ⟨rfl, rfl⟩)
          have HE := HR.out.trans (H4.out (by rw [runArgs, all_bad HX2.out (show timeB f = false by rw [Bool.eq_false_iff]; intro h; rw [insideB_iff.2 (timeB_iff.1 h)] at c3'; cases c3'), Bool.and_false]))
          rw [HE]
          refine bodyPost_ret (v := noRun 2) (by simp [noRun, results, Try.results13, go_sem, e0, e1]) rfl (runPost_no ?_)
          (repeat (first | exact Below.refl _ _ | assumption | refine Below.drew ?_ | refine Below.setCell ?_ (by first | omega | (simp; done) | (simp; omega)) _ | refine Below.alloc ?_ (by first | omega | (simp; done) | (simp; omega)) _ | refine below_on ?_ (by assumption) (by first | omega | (simp; done) | (simp; omega))))
      · have HQN : Hid (Passed timeB free (k + 1)) := hide fun i x hi hx => HQ.out i x (by have := (List.getElem?_eq_some_iff.1 hx).1; have := HNF.out; omega) hx
        have hf3' : decide (k < nf) = false := by simp; omega
        go_wp2_with (go_at_call 32; refine (in_any _ _ _ _).mono ?_; rintro e w' ⟨rfl, rfl⟩)
        go_round
        case rel => exact ⟨k + 1, by omega, by go_num, hide (passed_next HP.out HX.out (by rw [okFrame, timeB_iff.2 ⟨u1, by omega⟩, decide_eq_true (by omega)]; rfl)), HQN⟩
        case measure => simp [intOf]; omega
    · have HP2 : Hid (runArgs l free = true) := hide (by rw [runArgs, passed_all HP.out (by have := HN.out; omega), passed_all HQ.out (by have := HN.out; have := HNF.out; omega)]; rfl)
      clear HP HQ
      go_wp2_with fail
      go_loopw [6, 8, 10, 12, 13, 14, 15, 16] (fun _ _ st i _ _ _ _ wr => ∃ (k : Nat) (got : List Int) (a b : Int) (Ag : Option Addr) (cg : Nat), k ≤ n ∧ i = .int .i64 k ∧ st = .slice Ag got.length cg ∧ Hid (RunAt r p l free k got a b) ∧
        Hid (wr.ownsRow (w1.heap.size + 1) 3 1 (.slice Ag got.length cg) got.length (got.map (Value.int .i64))) ∧ Hid (Blk wr w1.heap.size 40 #[.int .i64 a, .int .i64 b]) ∧ Below w1.heap.size w1 wr ∧ w1.heap.size + 1 ≤ wr.heap.size) (fun _ _ _ i _ _ _ _ _ => n - (intOf i).toNat)
      case atStart => exact ⟨0, [], 0, 0, none, 0, Nat.zero_le _, rfl, rfl, hide (runAt_zero _ _ _ _), hide (World.ownsRow_nil _ _ _ _), hide (Blk.new _ _ _), (Below.refl _ _).alloc (Nat.le_refl _) _, (by first | omega | (simp; done) | (simp; omega))⟩
      case round =>
        obtain ⟨k3, got, a, b, Ag, cg, hk3, rfl, rfl, HT, HO, HS, hb3, hs3⟩ := hrel
        by_cases hlt3 : k3 < n
        · obtain ⟨⟨t, s⟩, hx⟩ := at_of_lt (l := l) (k := k3) (by have := HN.out; omega)
          obtain ⟨ba, off, rfl, hbb, g1, g2⟩ := HA.out k3 _ hx
          have g1' : wr.cell? ⟨ba, off + k3 * 2, none⟩ = some (.int .i64 t) := (hb3.cell (p := ⟨ba, off + k3 * 2, none⟩) (by simp; omega)).trans ((hb.cell (p := ⟨ba, off + k3 * 2, none⟩) hbb).trans g1)
          have g2' : wr.cell? ⟨ba, off + k3 * 2 + 1, none⟩ = some (.int .i64 s) := (hb3.cell (p := ⟨ba, off + k3 * 2 + 1, none⟩) (by simp; omega)).trans ((hb.cell (p := ⟨ba, off + k3 * 2 + 1, none⟩) hbb).trans g2)
          obtain ⟨v1, v2⟩ := runArgs_frame HP2.out hx
          have v3 := runArgs_free k3 HP2.out
          have v4 := H2.out k3 t s hx
          have HX := hide hx
          clear g1 g2 hx
          have B0 := HB0.out.below hb3 (by omega)
          have B1 := HB1.out.below hb3 (by omega)
          have r0 : wr.cell? ⟨w.heap.size, 0, none⟩ = some (.int .i64 r) := B0.cell 0
          have r1 : wr.cell? ⟨w.heap.size, 1, none⟩ = some (.int .i64 p) := B0.cell 1
          have s0 : wr.cell? ⟨w1.heap.size, 0, none⟩ = some (.int .i64 a) := HS.out.cell 0
          have s1' : wr.cell? ⟨w1.heap.size, 1, none⟩ = some (.int .i64 b) := HS.out.cell 1
          have z0 : w.heap.size < wr.heap.size := by omega
          have z1 : w1.heap.size < wr.heap.size := by omega
          have zb : ba < wr.heap.size := by omega
          have zk : (k3 : Int) < (n : Int) := by omega
          have HB1' := hide B1
          clear B0 B1
          have hgl : got.length ≤ 200 := by have := HT.out.1; omega
          obtain ⟨f, hfe⟩ : ∃ f, freeAt free k3 = f := ⟨_, rfl⟩
          obtain ⟨q0, q1, q2, q3, hq⟩ : ∃ q0 q1 q2 q3, stepV r p a b t f s = .tuple #[.int .i64 q0, .agg #[.int .i64 q1, .int .i64 q2], .int .i64 q3] ∧ ((stateB (stepAt r p a b t f s) (stepLevel r p a b t f s) = false ∧ q3 = 6) ∨ (stateB (stepAt r p a b t f s) (stepLevel r p a b t f s) = true ∧ q3 = 0 ∧ q0 = stepStart r a b t f ∧ q1 = stepAt r p a b t f s ∧ q2 = stepLevel r p a b t f s)) := by
            have h3 : argB t f s = true := by rw [argB, v1, ← hfe, v3, insideB_iff.2 ⟨v4, v2⟩]; rfl
            rw [stepV, H1.out, HT.out.2.1, h3]
            cases hst : stateB (stepAt r p a b t f s) (stepLevel r p a b t f s)
            · exact ⟨0, 0, 0, 6, rfl, .inl ⟨rfl, rfl⟩⟩
            · exact ⟨_, _, _, 0, rfl, .inr ⟨rfl, rfl, rfl, rfl, rfl⟩⟩
          have HST : Hid (∀ W : World, Calls Try.prog 21 #[.agg #[.int .i64 r, .int .i64 p], .agg #[.int .i64 a, .int .i64 b], .int .i64 t, .int .i64 f, .int .i64 s] W (Ret W (.tuple #[.int .i64 q0, .agg #[.int .i64 q1, .int .i64 q2], .int .i64 q3]))) := hide fun W => by rw [← hq.1]; exact RefStep_any r p a b t f s W
          have HQ := hide hq.2
          have HFE := hide hfe
          clear v1 v2 v3 v4 hfe hq
          go_upto_if 76 with (fail)
          go_cut [13] (fun s13 wx => s13 = .int .i64 f ∧ wr = wx)
          case first =>
            by_cases hf3 : k3 < nf
            · obtain ⟨f', hx2⟩ := at_of_lt (l := free) (k := k3) (by have := HNF.out; omega)
              obtain rfl : f' = f := by rw [← HFE.out]; exact (freeAt_in hx2).symm
              obtain ⟨bf, offf, rfl, hbf, g3⟩ := HF.out k3 _ hx2
              have g3' : wr.cell? ⟨bf, offf + k3, none⟩ = some (.int .i64 f') := (hb3.cell (p := ⟨bf, offf + k3, none⟩) (by simp; omega)).trans ((hb.cell (p := ⟨bf, offf + k3, none⟩) hbf).trans g3)
              clear hx2 g3
              go_wp2_with fail
              go_meet
              exact ⟨rfl, rfl⟩
            · obtain rfl : f = 0 := by rw [← HFE.out]; exact freeAt_out (by have := HNF.out; omega)
              go_wp2_with fail
              go_meet
              exact ⟨rfl, rfl⟩
          case rest =>
            obtain ⟨rfl, rfl⟩ := hcut
            go_upto_region 20 with (fail)
            go_cut [14, 15, 16] (fun s14 s15 s16 wx => s14 = .int .i64 q0 ∧ s16 = .int .i64 q3 ∧ ∃ X : Nat, s15 = .pointer (some ⟨X, 0, none⟩) ∧ wr.heap.size ≤ X ∧ Blk wx X 40 #[.int .i64 q1, .int .i64 q2] ∧ Below wr.heap.size wr wx)
            case first =>
              go_region_held3 (fun w' => w'.cell? ⟨w.heap.size, 0, none⟩ = some (.int .i64 r) ∧ w'.cell? ⟨w.heap.size, 1, none⟩ = some (.int .i64 p) ∧ w'.cell? ⟨w1.heap.size, 0, none⟩ = some (.int .i64 a) ∧ w'.cell? ⟨w1.heap.size, 1, none⟩ = some (.int .i64 b) ∧ w'.cell? ⟨ba, off + k3 * 2, none⟩ = some (.int .i64 t) ∧ w'.cell? ⟨ba, off + k3 * 2 + 1, none⟩ = some (.int .i64 s))
                (first | go_keep | ((try dsimp only); ((repeat' apply And.intro) <;> (first | go_keep | assumption | go_simp))))
                ((go_at_call 21; refine (HST.out _).mono ?_; rintro e w4 ⟨rfl, hb4⟩; obtain ⟨hc4, hf4⟩ := below_cells hb4; have hz4 := hb4.size; (try simp at hz4); (try have hy4 : wr.heap.size < w4.heap.size := by omega); have y0 : w.heap.size < w4.heap.size := (by omega); have y1 : w1.heap.size < w4.heap.size := (by omega); have y2 : ba < w4.heap.size := (by omega); have c0 : w4.cell? ⟨w.heap.size, 0, none⟩ = some (.int .i64 r) := (hb4.cell (p := ⟨w.heap.size, 0, none⟩) (by first | omega | (simp; done) | (simp; omega))).trans (by go_simp); have c1 : w4.cell? ⟨w.heap.size, 1, none⟩ = some (.int .i64 p) := (hb4.cell (p := ⟨w.heap.size, 1, none⟩) (by first | omega | (simp; done) | (simp; omega))).trans (by go_simp); have c2 : w4.cell? ⟨w1.heap.size, 0, none⟩ = some (.int .i64 a) := (hb4.cell (p := ⟨w1.heap.size, 0, none⟩) (by first | omega | (simp; done) | (simp; omega))).trans (by go_simp); have c3 : w4.cell? ⟨w1.heap.size, 1, none⟩ = some (.int .i64 b) := (hb4.cell (p := ⟨w1.heap.size, 1, none⟩) (by first | omega | (simp; done) | (simp; omega))).trans (by go_simp); have c4 : w4.cell? ⟨ba, off + k3 * 2, none⟩ = some (.int .i64 t) := (hb4.cell (p := ⟨ba, off + k3 * 2, none⟩) (by first | omega | (simp; done) | (simp; omega))).trans (by go_simp); have c5 : w4.cell? ⟨ba, off + k3 * 2 + 1, none⟩ = some (.int .i64 s) := (hb4.cell (p := ⟨ba, off + k3 * 2 + 1, none⟩) (by first | omega | (simp; done) | (simp; omega))).trans (by go_simp)))
              all_goals
                go_wp2_with fail
                go_meet
              · refine ⟨rfl, rfl, w4.heap.size, rfl, by omega, ?_, ?_⟩
                · exact Blk.new _ _ _
                · exact Below.alloc (below_undrew hb4) (by omega) _
              · refine ⟨rfl, rfl, wr.heap.size, rfl, Nat.le_refl _, ?_, ?_⟩
                · exact (((Blk.new wr _ _).below (below_undrew hb4) (by first | omega | (simp; done) | (simp; omega))).set_ 0 _).set_ 1 _
                · exact Below.setCell (Below.setCell (below_on ((Below.refl _ _).alloc (Nat.le_refl _) _) (below_undrew hb4) (by first | omega | (simp; done) | (simp; omega))) (by first | omega | (simp; done) | (simp; omega)) _) (by first | omega | (simp; done) | (simp; omega)) _
            case rest =>
              obtain ⟨rfl, rfl, X, rfl, hX, hBX, hb5⟩ := hcut
              have HBX := hide hBX
              clear hBX
              rcases HQ.out with ⟨hst, rfl⟩ | ⟨hst, rfl, hq0, hq1, hq2⟩
              · have HE := hide (HR.out.trans (H5.out HP2.out (runAt_big HT.out HX.out (by rw [HFE.out]; exact hst))))
                clear hst
                have B1 := HB1'.out.below hb5 (by omega)
                have e0 : wc.cell? ⟨w.heap.size + 1, 0, none⟩ = some (.int .i64 0) := B1.cell 0
                have e1 : wc.cell? ⟨w.heap.size + 1, 1, none⟩ = some (.int .i64 0) := B1.cell 1
                have f0 := B1.frozen 0
                have f1 := B1.frozen 1
                clear B1
                go_wp2_with fail
                rw [HE.out]
                refine bodyPost_ret (v := noRun 6) (by simp [noRun, results, Try.results13, go_sem, e0, e1]) rfl (runPost_no ?_)
                refine Below.setCell (Below.setCell (below_on (below_on hb hb3 (by omega)) hb5 (by omega)) (by first | omega | (simp; done) | (simp; omega)) _) (by first | omega | (simp; done) | (simp; omega)) _
              · have HN1 : Hid (RunAt r p l free (k3 + 1) (got ++ [q0]) q1 q2) := hide (by
                  have := runAt_next HT.out HX.out (by rw [HFE.out]; exact hst)
                  rw [HFE.out, ← hq0, ← hq1, ← hq2] at this
                  exact this)
                clear hst hq0 hq1 hq2 HQ
                obtain ⟨i0, hi0, hz0, hz1, hz2⟩ := info_parts int_info
                have hown := own_keep HO.out hb5 (Nat.le_refl _)
                have HS5 := HS.out.below hb5 (by omega)
                have x0 : wc.cell? ⟨X, 0, none⟩ = some (.int .i64 q1) := HBX.out.cell 0
                have x1 : wc.cell? ⟨X, 1, none⟩ = some (.int .i64 q2) := HBX.out.cell 1
                have y0 : wc.cell? ⟨w1.heap.size, 0, none⟩ = some (.int .i64 a) := HS5.cell 0
                have y1 : wc.cell? ⟨w1.heap.size, 1, none⟩ = some (.int .i64 b) := HS5.cell 1
                have hXlt := HBX.out.lt
                have hzc := hb5.size
                have hXr : ∀ k, (Value.slice Ag got.length cg).ownBlock = some k → w1.heap.size + 1 ≤ k ∧ k < wr.heap.size := fun k hk => own_lt HO.out hk
                have HXR := hide hXr
                have HOW := hide hown
                have HS6 := hide HS5
                clear hXr hown HS5
                have hXn : ¬ w1.heap.size = X := by omega
                have hXn' : ¬ X = w1.heap.size := by omega
                go_upto_region 23 with (fail)
                go_region_held3 (fun w' => w'.cell? ⟨X, 0, none⟩ = some (.int .i64 q1) ∧ w'.cell? ⟨X, 1, none⟩ = some (.int .i64 q2))
                    (go_keep)
                    ((refine step_append_lies _ (by rfl) _ _ _ (by rfl) (w1.heap.size + 1) 3 i0 (.int .i64 0) 1 8 Try.underlying29 hi0 hz0 hz1 hz2 rfl (by decide) (.slice Ag got.length cg) got.length (got.map (Value.int .i64)) (by rfl) ((HOW.out.alloc _).drew) ⟨wc.heap.size, 0, none⟩ 1 1 [.int .i64 q0] (by rfl) (by rfl) (World.news_of_block (cs := #[.int .i64 q0]) (t := 3) (fr := (0, 0)) (heap_alloc_new wc _)) (by simp [Value.oneCell']) (by omega) (by simp only [maxLen]; omega) (by omega) (by first | omega | (simp; done) | (simp; omega)) (wc.heap.size + 1) (by simp) ?_; intro g cap w6 hown6 hgr6 hat6 hlt6; have k0 : w6.cell? ⟨X, 0, none⟩ = some (.int .i64 q1) := ((HBX.out.alloc _).drew.grown hgr6 (fun e => by have := (HXR.out _ e.symm).2; omega)).cell 0; have k1 : w6.cell? ⟨X, 1, none⟩ = some (.int .i64 q2) := ((HBX.out.alloc _).drew.grown hgr6 (fun e => by have := (HXR.out _ e.symm).2; omega)).cell 1; have m0 : w6.cell? ⟨w1.heap.size, 0, none⟩ = some (.int .i64 a) := ((HS6.out.alloc _).drew.grown hgr6 (fun e => by have := (HXR.out _ e.symm).1; omega)).cell 0; have m1 : w6.cell? ⟨w1.heap.size, 1, none⟩ = some (.int .i64 b) := ((HS6.out.alloc _).drew.grown hgr6 (fun e => by have := (HXR.out _ e.symm).1; omega)).cell 1; have n0 := ((HS6.out.alloc _).drew.grown hgr6 (fun e => by have := (HXR.out _ e.symm).1; omega)).frozen 0; have n1 := ((HS6.out.alloc _).drew.grown hgr6 (fun e => by have := (HXR.out _ e.symm).1; omega)).frozen 1))
                go_wp2_with fail
                go_roundw
                case rel =>
                  have hbl : Blk w6 w1.heap.size 40 #[.int .i64 a, .int .i64 b] := (HS6.out.alloc _).drew.grown hgr6 (fun e => by have := (HXR.out _ e.symm).1; omega)
                  have hL6 : Below w1.heap.size w1 w6 := Below.grown (Below.drew (Below.alloc (below_on hb3 hb5 (by omega)) (by omega) _)) hgr6 (by first | omega | (simp; done) | (simp; omega)) (fun k hk => by have := (HXR.out _ hk).1; omega)
                  have hz6 := hgr6.size
                  simp at hz6
                  refine ⟨k3 + 1, got ++ [q0], q1, q2, some ⟨g, 0, none⟩, cap, by omega, by go_num, by rw [List.length_append]; rfl, HN1, hide ?_, hide ((hbl.set_ 0 _).set_ 1 _), ?_, ?_⟩
                  · rw [List.length_append, List.map_append, List.map_singleton]
                    exact own_set (a := ⟨w1.heap.size, 1, none⟩) (own_set (a := ⟨w1.heap.size, 0, none⟩) hown6 (by first | omega | (simp; done) | (simp; omega)) _) (by first | omega | (simp; done) | (simp; omega)) _
                  · exact Below.setCell (Below.setCell hL6 (by first | omega | (simp; done) | (simp; omega)) _) (by first | omega | (simp; done) | (simp; omega)) _
                  · first | omega | (simp; done) | (simp; omega)
                case measure => simp [intOf]; omega
        · have B1 := HB1.out.below hb3 (by omega)
          have e0 : wr.cell? ⟨w.heap.size + 1, 0, none⟩ = some (.int .i64 0) := B1.cell 0
          have e1 : wr.cell? ⟨w.heap.size + 1, 1, none⟩ = some (.int .i64 0) := B1.cell 1
          have f0 := B1.frozen 0
          have f1 := B1.frozen 1
          have q1 : wr.cell? ⟨w1.heap.size, 0, none⟩ = some (.int .i64 a) := HS.out.cell 0
          have q2 : wr.cell? ⟨w1.heap.size, 1, none⟩ = some (.int .i64 b) := HS.out.cell 1
          clear B1
          go_wp2_with fail
          go_region
          go_wp2_with fail
          have HE := HR.out.trans (H6.out _ _ _ HP2.out (runAt_end HT.out (by have := HN.out; omega)))
          rw [HE]
          refine bodyPost_ret (v := .tuple #[.slice Ag got.length cg, .agg #[.int .i64 a, .int .i64 b], .int .i64 0]) (by simp [results, Try.results13, go_sem, e0, e1]) rfl ⟨Ag, cg, rfl, ?_, ?_, ?_⟩
          · refine Arr1.drew (Arr1.keep (own_arr1 (own_set (a := ⟨w.heap.size + 1, 1, none⟩) (own_set (a := ⟨w.heap.size + 1, 0, none⟩) HO.out (by simp; omega) _) (by simp; omega) _)) fun _ _ => rfl)
          · obtain ⟨A', c', h', hle, _⟩ := own_form HO.out
            injection h' with _ _ h'
            simp only [h']
            exact hle
          · exact Below.drew (Below.setCell (Below.setCell (below_on hb hb3 (by omega)) (by first | omega | (simp; done) | (simp; omega)) _) (by first | omega | (simp; done) | (simp; omega)) _)

theorem RefRun_any (r p : Int) (A Fa : Option Addr) (l : List (Int × Int)) (free : List Int) (c cf : Nat) (w : World) (hA : Arr2 w w.heap.size A l) (hF : Arr1 .i64 w w.heap.size Fa free) (hm : l.length ≤ 9223372036854775807) (hmf : free.length ≤ 9223372036854775807) :
    Calls Try.prog 13 #[.agg #[.int .i64 r, .int .i64 p], .slice A l.length c, .slice Fa free.length cf] w (RunPost w (runS r p l free)) := by
  cases h1 : slopeB r p
  · rw [runS_bad1 h1]
    exact RefRun_bad1 r p A Fa l free c cf w hA hF hm hmf h1
  cases h2 : trB l
  · rw [runS_bad2 h1 h2]
    exact RefRun_bad2 r p A Fa l free c cf w hA hF hm hmf h1 h2
  by_cases h3 : l.length < free.length
  · rw [runS_bad3 h1 h2 h3]
    exact RefRun_bad3 r p A Fa l free c cf w hA hF hm hmf h1 h2 h3
  · exact RefRun_main r p A Fa l free c cf w hA hF hm hmf h1 h2 h3
end Go.Proofs.Ytjepnlebmgkomaa
