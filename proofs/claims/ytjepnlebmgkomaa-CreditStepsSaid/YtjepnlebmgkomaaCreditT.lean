/-
  The walk of CreditSteps: it returns true for every input.
-/
import Derived.Test.YtjepnlebmgkomaaCreditR
import Derived.Test.YtjepnlebmgkomaaCreditH
import Derived.Deep.QuietTactic
import Derived.BigQuiet
import Derived.Deep.RegionHeld3
import Derived.Deep.DeepCutAuto
namespace Go.Proofs.Ytjepnlebmgkomaa
open Go.RowKit
set_option linter.unusedVariables false

set_option maxHeartbeats 1000000 in
theorem refCheck_any (r p : Int) (w : World) : Calls Try.prog 17 #[.agg #[.int .i64 r, .int .i64 p]] w (Ret w (.int .i64 (slopeE r p))) := by
  cases h : slopeB r p
  all_goals
    have H := hide h
    have HE : Hid (slopeE r p = if slopeB r p = true then 0 else 450) := hide rfl
    clear h
    go_enter Try.func17, Try.ntmps17
    go_wp2_with fail
    refine (right_is _ H.out).mono ?_
    rintro e w1 ⟨rfl, hb1⟩
    go_wp2_with fail
    go_ret
    exact ⟨ret_int (by rw [HE.out, H.out]; rfl), below_on ((Below.refl _ _).alloc (Nat.le_refl _) _) hb1 (by first | omega | (simp; done) | (simp; omega))⟩
set_option maxHeartbeats 1000000 in
theorem refCheckState_any (r p : Int) (w : World) : Calls Try.prog 19 #[.agg #[.int .i64 r, .int .i64 p]] w (Ret w (.int .i64 (stateE r p))) := by
  cases h : stateB r p
  all_goals
    have H := hide h
    have HE : Hid (stateE r p = if stateB r p = true then 0 else 450) := hide rfl
    clear h
    go_enter Try.func19, Try.ntmps19
    go_wp2_with fail
    refine (rightState_is _ H.out).mono ?_
    rintro e w1 ⟨rfl, hb1⟩
    go_wp2_with fail
    go_ret
    exact ⟨ret_int (by rw [HE.out, H.out]; rfl), below_on ((Below.refl _ _).alloc (Nat.le_refl _) _) hb1 (by first | omega | (simp; done) | (simp; omega))⟩
theorem stepV_form (r p a l at_ free size : Int) : ∃ q0 q1 q2 q3 : Int, stepV r p a l at_ free size = .tuple #[.int .i64 q0, .agg #[.int .i64 q1, .int .i64 q2], .int .i64 q3] := by
  unfold stepV noStep
  split
  · exact ⟨_, _, _, _, rfl⟩
  split
  · exact ⟨_, _, _, _, rfl⟩
  split
  · exact ⟨_, _, _, _, rfl⟩
  split
  · exact ⟨_, _, _, _, rfl⟩
  · exact ⟨_, _, _, _, rfl⟩
theorem idx_s4 (v0 v1 v2 v3 v4 v5 v6 v7 : Int) (j : Nat) (hj : j < 4) : ∃ x y : Int, ∀ W : World, (Instr.index 48 (.agg #[.int .i64 v0, .int .i64 v1, .int .i64 v2, .int .i64 v3, .int .i64 v4, .int .i64 v5, .int .i64 v6, .int .i64 v7]) (.int .i64 (j : Int))).run Try.prog W = .ok (.agg #[.int .i64 x, .int .i64 y]) W := by
  rcases Nat.lt_or_ge j 1 with h | h
  · obtain rfl : j = 0 := by omega
    exact ⟨v0, v1, fun W => by kernel_rfl⟩
  rcases Nat.lt_or_ge j 2 with h | h
  · obtain rfl : j = 1 := by omega
    exact ⟨v2, v3, fun W => by kernel_rfl⟩
  rcases Nat.lt_or_ge j 3 with h | h
  · obtain rfl : j = 2 := by omega
    exact ⟨v4, v5, fun W => by kernel_rfl⟩
  obtain rfl : j = 3 := by omega
  exact ⟨v6, v7, fun W => by kernel_rfl⟩
theorem idx_c5 (v0 v1 v2 v3 v4 v5 v6 v7 v8 v9 : Int) (j : Nat) (hj : j < 5) : ∃ x y : Int, ∀ W : World, (Instr.index 49 (.agg #[.int .i64 v0, .int .i64 v1, .int .i64 v2, .int .i64 v3, .int .i64 v4, .int .i64 v5, .int .i64 v6, .int .i64 v7, .int .i64 v8, .int .i64 v9]) (.int .i64 (j : Int))).run Try.prog W = .ok (.agg #[.int .i64 x, .int .i64 y]) W := by
  rcases Nat.lt_or_ge j 1 with h | h
  · obtain rfl : j = 0 := by omega
    exact ⟨v0, v1, fun W => by kernel_rfl⟩
  rcases Nat.lt_or_ge j 2 with h | h
  · obtain rfl : j = 1 := by omega
    exact ⟨v2, v3, fun W => by kernel_rfl⟩
  rcases Nat.lt_or_ge j 3 with h | h
  · obtain rfl : j = 2 := by omega
    exact ⟨v4, v5, fun W => by kernel_rfl⟩
  rcases Nat.lt_or_ge j 4 with h | h
  · obtain rfl : j = 3 := by omega
    exact ⟨v6, v7, fun W => by kernel_rfl⟩
  obtain rfl : j = 4 := by omega
  exact ⟨v8, v9, fun W => by kernel_rfl⟩
theorem idx_x6 (v0 v1 v2 v3 v4 v5 v6 v7 v8 v9 v10 v11 v12 v13 v14 v15 v16 v17 : Int) (j : Nat) (hj : j < 6) : ∃ x y z : Int, ∀ W : World, (Instr.index 52 (.agg #[.int .i64 v0, .int .i64 v1, .int .i64 v2, .int .i64 v3, .int .i64 v4, .int .i64 v5, .int .i64 v6, .int .i64 v7, .int .i64 v8, .int .i64 v9, .int .i64 v10, .int .i64 v11, .int .i64 v12, .int .i64 v13, .int .i64 v14, .int .i64 v15, .int .i64 v16, .int .i64 v17]) (.int .i64 (j : Int))).run Try.prog W = .ok (.agg #[.int .i64 x, .int .i64 y, .int .i64 z]) W := by
  rcases Nat.lt_or_ge j 1 with h | h
  · obtain rfl : j = 0 := by omega
    exact ⟨v0, v1, v2, fun W => by kernel_rfl⟩
  rcases Nat.lt_or_ge j 2 with h | h
  · obtain rfl : j = 1 := by omega
    exact ⟨v3, v4, v5, fun W => by kernel_rfl⟩
  rcases Nat.lt_or_ge j 3 with h | h
  · obtain rfl : j = 2 := by omega
    exact ⟨v6, v7, v8, fun W => by kernel_rfl⟩
  rcases Nat.lt_or_ge j 4 with h | h
  · obtain rfl : j = 3 := by omega
    exact ⟨v9, v10, v11, fun W => by kernel_rfl⟩
  rcases Nat.lt_or_ge j 5 with h | h
  · obtain rfl : j = 4 := by omega
    exact ⟨v12, v13, v14, fun W => by kernel_rfl⟩
  obtain rfl : j = 5 := by omega
  exact ⟨v15, v16, v17, fun W => by kernel_rfl⟩

set_option maxRecDepth 100000 in
set_option maxHeartbeats 8000000 in
theorem creditSteps_walk (r p ca cl n0 n1 x0 x1 x2 : Int) (w : World) (hn0 : 0 ≤ n0 ∧ n0 ≤ 4294967295) (hn1 : 0 ≤ n1 ∧ n1 ≤ 4294967295) :
    Calls Try.prog 4 #[.agg #[.int .i64 r, .int .i64 p], .agg #[.int .i64 ca, .int .i64 cl], .agg #[.int .u32 n0, .int .u32 n1], .agg #[.int .i64 x0, .int .i64 x1, .int .i64 x2]] w (Ret w (.bool true)) := by
  go_enter Try.func4, Try.ntmps4
  go_wp2_with fail
  have hu1 : 0 ≤ IntKind.u16.wrap n1 ∧ IntKind.u16.wrap n1 ≤ 65535 := by
    rw [IntKind.wrap_u16]
    omega
  refine (of_any n0 (IntKind.u16.wrap n1) _ hn0.1 hn0.2 hu1.1 hu1.2).mono ?_
  generalize ofR n0 (IntKind.u16.wrap n1) = r2
  generalize ofP (IntKind.u16.wrap n1) = p2
  rintro e w1 ⟨rfl, hb1⟩
  have B0 : Blk w1 w.heap.size 23 #[.int .i64 r, .int .i64 p] := ((((Blk.new w _ _).alloc _).alloc _).alloc _).below hb1 (by first | omega | (simp; done) | (simp; omega))
  have B1 : Blk w1 (w.heap.size + 1) 40 #[.int .i64 ca, .int .i64 cl] := (((Blk.new' _ _ _ (by simp)).alloc _).alloc _).below hb1 (by first | omega | (simp; done) | (simp; omega))
  have B3 : Blk w1 (w.heap.size + 1 + 1 + 1) 47 #[.int .i64 x0, .int .i64 x1, .int .i64 x2] := (Blk.new' _ _ _ (by simp)).below hb1 (by first | omega | (simp; done) | (simp; omega))
  have hL1 : Below w.heap.size w w1 := by (repeat (first | exact Below.refl _ _ | assumption | refine Below.drew ?_ | refine Below.setCell ?_ (by first | omega | (simp; done) | (simp; omega)) _ | refine Below.alloc ?_ (by first | omega | (simp; done) | (simp; omega)) _ | refine below_on ?_ (by assumption) (by first | omega | (simp; done) | (simp; omega))))
  have z3 := B3.lt
  have a0 : w1.cell? ⟨w.heap.size, 0, none⟩ = some (.int .i64 r) := B0.cell 0
  have a1 : w1.cell? ⟨w.heap.size, 1, none⟩ = some (.int .i64 p) := B0.cell 1
  have a2 : w1.cell? ⟨w.heap.size + 1, 0, none⟩ = some (.int .i64 ca) := B1.cell 0
  have a3 : w1.cell? ⟨w.heap.size + 1, 1, none⟩ = some (.int .i64 cl) := B1.cell 1
  have y0 : w.heap.size < w1.heap.size := by omega
  have y1 : w.heap.size + 1 < w1.heap.size := by omega
  have HB1 := hide B1
  have HB3 := hide B3
  clear B0 B1 B3 hb1 hu1
  go_wp2_with fail
  generalize wrap64 ((IntKind.u64.wrap ca).tmod 99999) = ga
  generalize cl.tmod 1073741824 = gl
  obtain ⟨wo, hwo⟩ : ∃ wo : World, (w1.alloc (.cells #[.int .i64 r2, .int .i64 p2] 23)).alloc (.cells #[.int .i64 ga, .int .i64 gl] 40) = wo := ⟨_, rfl⟩
  rw [hwo]
  have HC0 : Hid (Blk wo (w.heap.size + 1) 40 #[.int .i64 ca, .int .i64 cl]) := hide (by rw [← hwo]; exact (HB1.out.alloc _).alloc _)
  have HX0 : Hid (Blk wo (w.heap.size + 1 + 1 + 1) 47 #[.int .i64 x0, .int .i64 x1, .int .i64 x2]) := hide (by rw [← hwo]; exact (HB3.out.alloc _).alloc _)
  have HG0 : Hid (Blk wo (w1.heap.size + 1) 40 #[.int .i64 ga, .int .i64 gl]) := hide (by rw [← hwo]; exact Blk.new' _ _ _ (by simp))
  have hL0 : Below w.heap.size w wo := by rw [← hwo]; exact Below.alloc (Below.alloc hL1 (by omega) _) (by first | omega | (simp; done) | (simp; omega)) _
  have so := HG0.out.lt
  clear hwo HB1 HB3 a0 a1 a2 a3 hL1
  go_loopw [8, 12, 14, 15, 16, 17, 19, 20, 21, 22, 23, 24, 25, 54] (fun _ _ _ _ _ _ _ _ _ _ _ _ _ i wr => ∃ j : Nat, j ≤ 4 ∧ i = .int .i64 j ∧ Below wo.heap.size wo wr) (fun _ _ _ _ _ _ _ _ _ _ _ _ _ i _ => 4 - (intOf i).toNat)
  case atStart => exact ⟨0, by omega, rfl, Below.refl _ _⟩
  case round =>
    obtain ⟨j, hj, rfl, hb2⟩ := hrel
    obtain ⟨w2, rfl⟩ : ∃ w2 : World, w2 = wr := ⟨_, rfl⟩
    have s2 := hb2.size
    by_cases hlt : j < 4
    · have hd : decide ((j : Int) < 4) = true := by simp; omega
      obtain ⟨rk, pk, hik⟩ := idx_s4 r p r2 p2 r p2 r2 p j hlt
      have C2 := HC0.out.below hb2 (by omega)
      have G2 := HG0.out.below hb2 (by omega)
      have b0 : w2.cell? ⟨w.heap.size + 1, 0, none⟩ = some (.int .i64 ca) := C2.cell 0
      have b1 : w2.cell? ⟨w.heap.size + 1, 1, none⟩ = some (.int .i64 cl) := C2.cell 1
      have b2 : w2.cell? ⟨w1.heap.size + 1, 0, none⟩ = some (.int .i64 ga) := G2.cell 0
      have b3 : w2.cell? ⟨w1.heap.size + 1, 1, none⟩ = some (.int .i64 gl) := G2.cell 1
      have t0 : w.heap.size + 1 < w2.heap.size := by omega
      have t1 : w1.heap.size + 1 < w2.heap.size := by omega
      clear C2 G2
      go_wp2_with fail
      clear hik b0 b1 b2 b3
      obtain ⟨w3, hw3⟩ : ∃ w3 : World, w2.alloc (.cells #[.int .i64 rk, .int .i64 pk] 23) = w3 := ⟨_, rfl⟩
      rw [hw3]
      have HS3 : Hid (Blk w3 w2.heap.size 23 #[.int .i64 rk, .int .i64 pk]) := hide (by rw [← hw3]; exact Blk.new _ _ _)
      have hL3 : Below wo.heap.size wo w3 := by rw [← hw3]; exact hb2.alloc s2 _
      have s3 := HS3.out.lt
      clear hw3
      go_loopw [8, 14, 15, 16, 17, 19, 20, 21, 22, 23, 24, 25, 71] (fun _ _ _ _ _ _ _ _ _ _ _ _ i wr => ∃ j : Nat, j ≤ 5 ∧ i = .int .i64 j ∧ Below w3.heap.size w3 wr) (fun _ _ _ _ _ _ _ _ _ _ _ _ i _ => 5 - (intOf i).toNat)
      case atStart => exact ⟨0, by omega, rfl, Below.refl _ _⟩
      case round =>
        obtain ⟨j2, hj2, rfl, hb4⟩ := hrel
        obtain ⟨w4, rfl⟩ : ∃ w4 : World, w4 = wr := ⟨_, rfl⟩
        have s4 := hb4.size
        by_cases hlt2 : j2 < 5
        · have hd2 : decide ((j2 : Int) < 5) = true := by simp; omega
          obtain ⟨sa, sl, hic⟩ := idx_c5 ca cl ga gl ca gl ga cl 0 0 j2 hlt2
          go_upto_region 9 with (fail)
          clear hic
          obtain ⟨w5, hw5⟩ : ∃ w5 : World, w4.alloc (.cells #[.int .i64 sa, .int .i64 sl] 40) = w5 := ⟨_, rfl⟩
          rw [hw5]
          have HK5 : Hid (Blk w5 w4.heap.size 40 #[.int .i64 sa, .int .i64 sl]) := hide (by rw [← hw5]; exact Blk.new _ _ _)
          have hL5 : Below w3.heap.size w3 w5 := by rw [← hw5]; exact hb4.alloc s4 _
          have s5 := HK5.out.lt
          have HS5 : Hid (Blk w5 w2.heap.size 23 #[.int .i64 rk, .int .i64 pk]) := hide (HS3.out.below hL5 (by omega))
          clear hw5
          have c0 : w5.cell? ⟨w2.heap.size, 0, none⟩ = some (.int .i64 rk) := HS5.out.cell 0
          have c1 : w5.cell? ⟨w2.heap.size, 1, none⟩ = some (.int .i64 pk) := HS5.out.cell 1
          have c2 : w5.cell? ⟨w4.heap.size, 0, none⟩ = some (.int .i64 sa) := HK5.out.cell 0
          have c3 : w5.cell? ⟨w4.heap.size, 1, none⟩ = some (.int .i64 sl) := HK5.out.cell 1
          have u0 : w2.heap.size < w5.heap.size := by omega
          have u1 : w4.heap.size < w5.heap.size := by omega
          have HK1 : Hid (∀ W : World, Calls Try.prog 16 #[.agg #[.int .i64 rk, .int .i64 pk]] W (Ret W (.int .i64 (slopeE rk pk)))) := hide fun W => check_any rk pk W
          have HK2 : Hid (∀ W : World, Calls Try.prog 17 #[.agg #[.int .i64 rk, .int .i64 pk]] W (Ret W (.int .i64 (slopeE rk pk)))) := hide fun W => refCheck_any rk pk W
          have HK3 : Hid (∀ W : World, Calls Try.prog 18 #[.agg #[.int .i64 sa, .int .i64 sl]] W (Ret W (.int .i64 (stateE sa sl)))) := hide fun W => checkState_any sa sl W
          have HK4 : Hid (∀ W : World, Calls Try.prog 19 #[.agg #[.int .i64 sa, .int .i64 sl]] W (Ret W (.int .i64 (stateE sa sl)))) := hide fun W => refCheckState_any sa sl W
          generalize slopeE rk pk = E1 at HK1 HK2
          generalize stateE sa sl = E2 at HK3 HK4
          have hE1 : (E1 != E1) = false := by simp
          have hE2 : (E2 != E2) = false := by simp
          go_cut [85] (fun s85 wx => s85 = .bool false ∧ Below w5.heap.size w5 wx)
          case first =>
            go_region_held3 (fun w' => w'.cell? ⟨w2.heap.size, 0, none⟩ = some (.int .i64 rk) ∧ w'.cell? ⟨w2.heap.size, 1, none⟩ = some (.int .i64 pk) ∧ w'.cell? ⟨w4.heap.size, 0, none⟩ = some (.int .i64 sa) ∧ w'.cell? ⟨w4.heap.size, 1, none⟩ = some (.int .i64 sl))
              (first | go_keep | ((try dsimp only); ((repeat' apply And.intro) <;> (first | go_keep | assumption | go_simp))))
              (first | (go_at_call 16; refine (HK1.out _).mono ?_; rintro e W1 ⟨rfl, hB1⟩; have hZ1 := hB1.size; (try simp at hZ1); have g10 : W1.cell? ⟨w2.heap.size, 0, none⟩ = some (.int .i64 rk) := (hB1.cell (p := ⟨w2.heap.size, 0, none⟩) (by first | omega | (simp; done) | (simp; omega))).trans (by go_simp); have g11 : W1.cell? ⟨w2.heap.size, 1, none⟩ = some (.int .i64 pk) := (hB1.cell (p := ⟨w2.heap.size, 1, none⟩) (by first | omega | (simp; done) | (simp; omega))).trans (by go_simp); have g12 : W1.cell? ⟨w4.heap.size, 0, none⟩ = some (.int .i64 sa) := (hB1.cell (p := ⟨w4.heap.size, 0, none⟩) (by first | omega | (simp; done) | (simp; omega))).trans (by go_simp); have g13 : W1.cell? ⟨w4.heap.size, 1, none⟩ = some (.int .i64 sl) := (hB1.cell (p := ⟨w4.heap.size, 1, none⟩) (by first | omega | (simp; done) | (simp; omega))).trans (by go_simp)) | (go_at_call 17; refine (HK2.out _).mono ?_; rintro e W2 ⟨rfl, hB2⟩; have hZ2 := hB2.size; (try simp at hZ2); have g20 : W2.cell? ⟨w2.heap.size, 0, none⟩ = some (.int .i64 rk) := (hB2.cell (p := ⟨w2.heap.size, 0, none⟩) (by first | omega | (simp; done) | (simp; omega))).trans (by go_simp); have g21 : W2.cell? ⟨w2.heap.size, 1, none⟩ = some (.int .i64 pk) := (hB2.cell (p := ⟨w2.heap.size, 1, none⟩) (by first | omega | (simp; done) | (simp; omega))).trans (by go_simp); have g22 : W2.cell? ⟨w4.heap.size, 0, none⟩ = some (.int .i64 sa) := (hB2.cell (p := ⟨w4.heap.size, 0, none⟩) (by first | omega | (simp; done) | (simp; omega))).trans (by go_simp); have g23 : W2.cell? ⟨w4.heap.size, 1, none⟩ = some (.int .i64 sl) := (hB2.cell (p := ⟨w4.heap.size, 1, none⟩) (by first | omega | (simp; done) | (simp; omega))).trans (by go_simp)) | (go_at_call 18; refine (HK3.out _).mono ?_; rintro e W3 ⟨rfl, hB3⟩; have hZ3 := hB3.size; (try simp at hZ3); have g30 : W3.cell? ⟨w2.heap.size, 0, none⟩ = some (.int .i64 rk) := (hB3.cell (p := ⟨w2.heap.size, 0, none⟩) (by first | omega | (simp; done) | (simp; omega))).trans (by go_simp); have g31 : W3.cell? ⟨w2.heap.size, 1, none⟩ = some (.int .i64 pk) := (hB3.cell (p := ⟨w2.heap.size, 1, none⟩) (by first | omega | (simp; done) | (simp; omega))).trans (by go_simp); have g32 : W3.cell? ⟨w4.heap.size, 0, none⟩ = some (.int .i64 sa) := (hB3.cell (p := ⟨w4.heap.size, 0, none⟩) (by first | omega | (simp; done) | (simp; omega))).trans (by go_simp); have g33 : W3.cell? ⟨w4.heap.size, 1, none⟩ = some (.int .i64 sl) := (hB3.cell (p := ⟨w4.heap.size, 1, none⟩) (by first | omega | (simp; done) | (simp; omega))).trans (by go_simp)) | (go_at_call 19; refine (HK4.out _).mono ?_; rintro e W4 ⟨rfl, hB4⟩; have hZ4 := hB4.size; (try simp at hZ4); have g40 : W4.cell? ⟨w2.heap.size, 0, none⟩ = some (.int .i64 rk) := (hB4.cell (p := ⟨w2.heap.size, 0, none⟩) (by first | omega | (simp; done) | (simp; omega))).trans (by go_simp); have g41 : W4.cell? ⟨w2.heap.size, 1, none⟩ = some (.int .i64 pk) := (hB4.cell (p := ⟨w2.heap.size, 1, none⟩) (by first | omega | (simp; done) | (simp; omega))).trans (by go_simp); have g42 : W4.cell? ⟨w4.heap.size, 0, none⟩ = some (.int .i64 sa) := (hB4.cell (p := ⟨w4.heap.size, 0, none⟩) (by first | omega | (simp; done) | (simp; omega))).trans (by go_simp); have g43 : W4.cell? ⟨w4.heap.size, 1, none⟩ = some (.int .i64 sl) := (hB4.cell (p := ⟨w4.heap.size, 1, none⟩) (by first | omega | (simp; done) | (simp; omega))).trans (by go_simp)))
            go_wp2_with fail
            go_meet
            (try replace hB1 := below_undrew hB1); (try replace hB2 := below_undrew hB2); (try replace hB3 := below_undrew hB3); (try replace hB4 := below_undrew hB4)
            refine ⟨rfl, ?_⟩
            exact below_on (below_on (below_on hB1 hB2 hB1.size) hB3 (by omega)) hB4 (by omega)
          case rest =>
            obtain ⟨rfl, hb6⟩ := hcut
            obtain ⟨w6, rfl⟩ : ∃ w6 : World, w6 = wc := ⟨_, rfl⟩
            have s6 := hb6.size
            have hO6 : Below wo.heap.size wo w6 := below_on (below_on hL3 hL5 (by omega)) hb6 (by omega)
            have X6 := HX0.out.below hO6 (by omega)
            have x60 : w6.cell? ⟨w.heap.size + 1 + 1 + 1, 0, none⟩ = some (.int .i64 x0) := X6.cell 0
            have x61 : w6.cell? ⟨w.heap.size + 1 + 1 + 1, 1, none⟩ = some (.int .i64 x1) := X6.cell 1
            have x62 : w6.cell? ⟨w.heap.size + 1 + 1 + 1, 2, none⟩ = some (.int .i64 x2) := X6.cell 2
            clear X6 c0 c1 c2 c3 HK1 HK2 HK3 HK4 hE1 hE2
            go_upto_region 11 with (fail)
            go_cut [15, 16, 17] (fun s15 s16 s17 wx => ∃ q1 q2 q3 : Int, s15 = .int .i64 q1 ∧ s16 = .int .i64 q2 ∧ s17 = .int .i64 q3 ∧ Below w6.heap.size w6 wx)
            case first =>
              go_quiet (fail)
              go_wp2_with fail
              go_meet
              exact ⟨_, _, _, rfl, rfl, rfl, below_drewN (Below.refl _ _) _⟩
            case rest =>
              obtain ⟨q1, q2, q3, rfl, rfl, rfl, hb7⟩ := hcut
              obtain ⟨w7, rfl⟩ : ∃ w7 : World, w7 = wc := ⟨_, rfl⟩
              have s7 := hb7.size
              have hO7 : Below wo.heap.size wo w7 := below_on hO6 hb7 (by omega)
              have h57 : Below w5.heap.size w5 w7 := below_on hb6 hb7 (by omega)
              have X7 := HX0.out.below hO7 (by omega)
              have x70 : w7.cell? ⟨w.heap.size + 1 + 1 + 1, 0, none⟩ = some (.int .i64 x0) := X7.cell 0
              have x71 : w7.cell? ⟨w.heap.size + 1 + 1 + 1, 1, none⟩ = some (.int .i64 x1) := X7.cell 1
              have x72 : w7.cell? ⟨w.heap.size + 1 + 1 + 1, 2, none⟩ = some (.int .i64 x2) := X7.cell 2
              have K7 := HK5.out.below h57 (by omega)
              have k70 : w7.cell? ⟨w4.heap.size, 0, none⟩ = some (.int .i64 sa) := K7.cell 0
              have HK7 := hide K7
              have HS7 := hide (HS5.out.below h57 (by omega))
              clear X7 K7 x60 x61 x62
              go_wp2_with fail
              clear x70 x71 x72 k70
              go_loopw [8, 19, 20, 21, 22, 23, 24, 25, 126] (fun _ _ _ _ _ _ _ _ i wr => ∃ j : Nat, j ≤ 6 ∧ i = .int .i64 j ∧ Below w7.heap.size w7 wr) (fun _ _ _ _ _ _ _ _ i _ => 6 - (intOf i).toNat)
              case atStart => exact ⟨0, by omega, rfl, Below.refl _ _⟩
              case round =>
                obtain ⟨j3, hj3, rfl, hb8⟩ := hrel
                obtain ⟨w8, rfl⟩ : ∃ w8 : World, w8 = wr := ⟨_, rfl⟩
                have s8 := hb8.size
                by_cases hlt3 : j3 < 6
                · obtain ⟨ya, yb, yc, hix⟩ := idx_x6 x0 x1 x2 q1 q2 q3 q1 0 q3 x0 q2 q3 q1 x1 q3 sa 0 x2 j3 hlt3
                  have K8 := HK7.out.below hb8 (by omega)
                  have S8 := HS7.out.below hb8 (by omega)
                  have e0 : w8.cell? ⟨w2.heap.size, 0, none⟩ = some (.int .i64 rk) := S8.cell 0
                  have e1 : w8.cell? ⟨w2.heap.size, 1, none⟩ = some (.int .i64 pk) := S8.cell 1
                  have e2 : w8.cell? ⟨w4.heap.size, 0, none⟩ = some (.int .i64 sa) := K8.cell 0
                  have e3 : w8.cell? ⟨w4.heap.size, 1, none⟩ = some (.int .i64 sl) := K8.cell 1
                  have u8 : w2.heap.size < w8.heap.size := by omega
                  have v8 : w4.heap.size < w8.heap.size := by omega
                  obtain ⟨o0, o1, o2, o3, ho⟩ := stepV_form rk pk sa sl ya yb yc
                  have HP : Hid (∀ W : World, Calls Try.prog 20 #[.agg #[.int .i64 rk, .int .i64 pk], .agg #[.int .i64 sa, .int .i64 sl], .int .i64 ya, .int .i64 yb, .int .i64 yc] W (Ret W (.tuple #[.int .i64 o0, .agg #[.int .i64 o1, .int .i64 o2], .int .i64 o3]))) := hide fun W => by rw [← ho]; exact Step_any rk pk sa sl ya yb yc W
                  have HQ : Hid (∀ W : World, Calls Try.prog 21 #[.agg #[.int .i64 rk, .int .i64 pk], .agg #[.int .i64 sa, .int .i64 sl], .int .i64 ya, .int .i64 yb, .int .i64 yc] W (Ret W (.tuple #[.int .i64 o0, .agg #[.int .i64 o1, .int .i64 o2], .int .i64 o3]))) := hide fun W => by rw [← ho]; exact RefStep_any rk pk sa sl ya yb yc W
                  have n0' : (o0 != o0) = false := by simp
                  have n3' : (o3 != o3) = false := by simp
                  clear ho K8 S8
                  go_wp2_with fail
                  clear hix
                  refine (HP.out _).mono ?_
                  rintro e w9 ⟨rfl, hb9⟩
                  obtain ⟨hc9, hf9⟩ := below_cells hb9
                  have s9 := hb9.size
                  simp at s9
                  have u9 : w2.heap.size < w9.heap.size := by omega
                  have v9 : w4.heap.size < w9.heap.size := by omega
                  have z9 : w8.heap.size < w9.heap.size := by omega
                  go_wp2_with fail
                  refine (HQ.out _).mono ?_
                  rintro e w10 ⟨rfl, hb10⟩
                  obtain ⟨hc10, hf10⟩ := below_cells hb10
                  have s10 := hb10.size
                  simp at s10
                  have z10 : w9.heap.size < w10.heap.size := by omega
                  go_wp2_with fail
                  go_roundw
                  case rel => exact ⟨j3 + 1, by omega, by go_num, below_on hb8 (Below.alloc (below_on (Below.alloc (below_on ((Below.refl _ _).alloc (Nat.le_refl _) _) hb9 (by first | omega | (simp; done) | (simp; omega))) (by omega) _) hb10 (by first | omega | (simp; done) | (simp; omega))) (by omega) _) (by omega)⟩
                  case measure => simp [intOf]; omega
                · go_wp2_with fail
                  go_roundw
                  case rel => exact ⟨j2 + 1, by omega, by go_num, below_on hL5 (below_on h57 hb8 (by omega)) (by omega)⟩
                  case measure => simp [intOf]; omega
        · go_wp2_with fail
          go_roundw
          case rel => exact ⟨j + 1, by omega, by go_num, below_on hL3 hb4 (by omega)⟩
          case measure => simp [intOf]; omega
    · go_wp2_with fail
      refine (works_any _).mono ?_
      rintro e w4 ⟨rfl, hb4⟩
      go_wp2_with fail
      go_ret
      exact ⟨rfl, below_on (below_on hL0 hb2 hL0.size) hb4 (by have := hL0.size; omega)⟩
end Go.Proofs.Ytjepnlebmgkomaa
