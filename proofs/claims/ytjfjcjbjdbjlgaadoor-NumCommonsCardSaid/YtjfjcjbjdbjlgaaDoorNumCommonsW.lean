/-
  The walk of NumCommons.
-/
import Derived.Test.YtjfjcjbjdbjlgaaDoorNumE
import Derived.Test.YtjfjcjbjdbjlgaaDoorFlat
namespace Go.Proofs.YtjfjcjbjdbjlgaaDoor
open Go.RowKit
set_option linter.unusedVariables false
set_option linter.unusedSimpArgs false

set_option maxRecDepth 100000 in
set_option maxHeartbeats 4000000 in
theorem numCommons_walk (n0 n1 u0 u1 : Int) (A : Option Addr) (l : List Int) (c : Nat) (w0 : World) (hT : Tab w0) (hA : Ro w0 A (l.map (Value.int .i64))) (hlc : l.length ≤ c) (hc : c ≤ 9223372036854775807) (h : 0 ≤ u0 ∧ u0 < 256 ∧ 0 ≤ u1 ∧ u1 < 256) :
    Calls Tryd.prog 5 #[.agg #[.int .i64 n0, .int .i64 n1], .agg #[.int .u8 u0, .int .u8 u1], .slice A l.length c] w0 (Ret w0 (.bool true)) := by
  refine enterK 115 Tryd.func5 rfl rfl rfl ?_
  intro a hF Q0 hR0 hN0
  have hM := Mem.start w0
  replace hM := hM.addOld 1 hA (Nat.le_refl _)
  refine wp_seq_k fun K1 hK1 => ?_
  refine wp_region_lit ?_
  refine wl (eN 3 2 (t := 22) (fun b => .pointer (some ⟨b, 0, none⟩)) #[.int .i64 n0, .int .i64 n1] hF hM (by kernel_rfl) (fun _ => by kernel_rfl) fun bb1 a w hF hM => ?_)
  refine wl (eN 4 3 (t := 23) (fun b => .pointer (some ⟨b, 0, none⟩)) #[.int .u8 u0, .int .u8 u1] hF hM (by kernel_rfl) (fun _ => by kernel_rfl) fun bb2 a w hF hM => ?_)
  refine sB 1 [(6, .bool false)] hF (by kernel_rfl) fun a hF => ?_
  refine wpList_nil ?_
  refine hK1 _ _ ?_
  refine wp_seq_k fun K2 hK2 => ?_
  refine wp_region_lit ?_
  refine sB 3 [(17, .slice A l.length c), (18, .slice A l.length c), (19, .int .i64 (l.length : Int))] hF (by kernel_rfl) fun a hF => ?_
  refine wl (eP 20 (v0 := .int .i64 (if 12 < (l.length : Int) then 12 else (l.length : Int))) (v := .int .i64 (min (l.length : Int) 12)) hF (by kernel_rfl) (fun _ => by kernel_rfl) (vi (min_if _ _)) fun a hF => ?_)
  obtain ⟨lsl, e_lsl⟩ : ∃ x : List Int, x = l.take ((min (l.length : Int) 12).toNat) := ⟨_, rfl⟩
  have len_lsl : (lsl.length : Int) = min (l.length : Int) 12 := by rw [e_lsl, List.length_take]; omega
  replace hM := hM.roMore 4 1 (xs' := (lsl.map (Value.int .i64))) rfl (by rw [e_lsl]; exact ints_sub _ _)
  refine wl (eM 21 (v := .slice A lsl.length c) hF hM (by kernel_rfl) (yld_slice0 (e := 3) (len := l.length) (cap := c) (m := lsl.length) (A := A) (i := min (l.length : Int) 12) hF rfl (by kernel_rfl) (by kernel_rfl) (by kernel_rfl) (by kernel_rfl) (by kernel_rfl) (by omega) (by omega)) fun a w hF hM => ?_)
  refine sB 1 [(2, .slice A lsl.length c)] hF (by kernel_rfl) fun a hF => ?_
  refine wpList_nil ?_
  refine hK2 _ _ ?_
  refine wp_seq_k fun K3 hK3 => ?_
  refine wp_region_lit ?_
  refine sB 2 [(22, .slice A lsl.length c), (23, .int .i64 (lsl.length : Int))] hF (by kernel_rfl) fun a hF => ?_
  refine wl (sMake 24 5 lsl.length (e := 3) (size := 1) (bytes := 8) (z := .int .i64 0) ((List.replicate lsl.length 0).map (Value.int .i64)) hF hM (by kernel_rfl) rfl (by kernel_rfl) (by kernel_rfl) (by kernel_rfl) (by rw [Nat.mul_one, List.map_replicate]; exact toList_madeCells_one _ _) (by omega) (by unfold maxLen; omega) fun bb3 a w hF hM => ?_)
  refine sB 1 [(7, .slice (some ⟨bb3, 0, none⟩) lsl.length lsl.length)] hF (by kernel_rfl) fun a hF => ?_
  refine wpList_nil ?_
  refine hK3 _ _ ?_
  refine wp_seq_k fun K4 hK4 => ?_
  refine wp_seq_k fun K5 hK5 => ?_
  refine wp_region_lit ?_
  refine sB 1 [(8, .int .i64 0)] hF (by kernel_rfl) fun a hF => ?_
  refine wpList_nil ?_
  refine hK5 _ _ ?_
  refine wp_block ?_
  refine wp_loop_k (G := Nat × List Int) (fun gg a w => Fr 115 [(8, some (.int .i64 (gg.1 : Int))), (2, some (.slice A lsl.length c)), (3, some (.pointer (some ⟨bb1, 0, none⟩))), (4, some (.pointer (some ⟨bb2, 0, none⟩))), (6, some (.bool false)), (7, some (.slice (some ⟨bb3, 0, none⟩) lsl.length lsl.length))] a ∧ Mem w0.heap.size w0 [(1, some (.ro A (l.map (Value.int .i64)))), (2, some (.row bb1 22 #[.int .i64 n0, .int .i64 n1])), (3, some (.row bb2 23 #[.int .u8 u0, .int .u8 u1])), (4, some (.ro A (lsl.map (Value.int .i64)))), (5, some (.own (.slice (some ⟨bb3, 0, none⟩) lsl.length lsl.length) 3 1 lsl.length (gg.2.map (Value.int .i64))))] w ∧ ((gg.1 : Int) ≤ (lsl.length : Int)) ∧ ((gg.2.length : Int) = (lsl.length : Int))) (fun gg => lsl.length - gg.1) (0, List.replicate lsl.length 0) ?_ ?_
  · refine ⟨(((((((Fr.nil hF).c hF (i := 7) rfl rfl).c hF (i := 6) rfl rfl).c hF (i := 4) rfl rfl).c hF (i := 3) rfl rfl).c hF (i := 2) rfl rfl).c hF (i := 8) rfl (vi (show (0 : Int) = (0 : Int) from by omega))), (hM.sub (((((Sub.nil.c (k := 5) rfl rfl).c (k := 4) rfl rfl).c (k := 3) rfl rfl).c (k := 2) rfl rfl).c (k := 1) rfl rfl)), (show (0 : Int) ≤ (lsl.length : Int) from by omega), (show ((List.replicate lsl.length 0).length : Int) = (lsl.length : Int) from by simp)⟩
  · intro gg a w hI
    intro K6 hK6
    obtain ⟨k, ss⟩ := gg
    try dsimp only at hI hK6
    obtain ⟨hF, hM, hz1, hz2⟩ := hI
    refine wp_seq_k fun K7 hK7 => ?_
    refine wp_seq_k fun K8 hK8 => ?_
    refine wp_region_lit ?_
    refine sB 4 [(25, .int .i64 (k : Int)), (26, .slice A lsl.length c), (27, .int .i64 (lsl.length : Int)), (28, .bool (decide ((k : Int) < (lsl.length : Int))))] hF (by kernel_rfl) fun a hF => ?_
    refine wpList_nil ?_
    refine hK8 _ _ ?_
    by_cases hz3 : (k : Int) < (lsl.length : Int)
    · skip
      replace hF := hF.c hF (i := 28) (v := .bool true) rfl (bT hz3)
      refine cT hF (by kernel_rfl) (by kernel_rfl) ?_
      refine wp_skip ?_
      refine hK7 _ _ ?_
      refine wp_seq_k fun K9 hK9 => ?_
      refine wp_block ?_
      refine wp_region_lit ?_
      refine sB 4 [(31, .slice (some ⟨bb3, 0, none⟩) lsl.length lsl.length), (32, .int .i64 (k : Int)), (33, .slice A lsl.length c), (34, .int .i64 (k : Int))] hF (by kernel_rfl) fun a hF => ?_
      refine wl (eM 35 (v := .pointer (some (ea A (k)))) hF hM (by kernel_rfl) (yld_ix (kd := .i64) (e := 3) (len := lsl.length) (cap := c) (i := (k : Int)) (size := 1) (A := A) hF rfl (by kernel_rfl) (by kernel_rfl) (by kernel_rfl) (by kernel_rfl) (by kernel_rfl) (roK 4 rfl) (by omega) (by omega) (by rw [List.length_map]; omega)) fun a w hF hM => ?_)
      refine wl (eM 36 (v := .int .i64 (nt lsl k)) hF hM (by kernel_rfl) (yld_ro1 (A := A) (j := k) hF rfl (by kernel_rfl) (by kernel_rfl) (roK 4 rfl) (by kernel_rfl) (nt_at (by omega))) fun a w hF hM => ?_)
      refine wl (eP 37 (v0 := .int .u64 (IntKind.u64.wrap (nt lsl k))) (v := .int .u64 (nt lsl k % 18446744073709551616)) hF (by kernel_rfl) (fun _ => by kernel_rfl) (vi (u64_wrap _)) fun a hF => ?_)
      refine wl (eM 38 (v := .int .u64 (nt lsl k % 18446744073709551616 % 60)) hF hM (by kernel_rfl) (yld_rem (nt lsl k % 18446744073709551616) 60 hF rfl (by kernel_rfl) (by kernel_rfl) (by kernel_rfl) (by decide) (Int.tmod_eq_emod_of_nonneg (by omega))) fun a w hF hM => ?_)
      refine wl (eP 39 (v0 := .int .i64 (IntKind.i64.wrap (nt lsl k % 18446744073709551616 % 60))) (v := .int .i64 (nt lsl k % 18446744073709551616 % 60)) hF (by kernel_rfl) (fun _ => by kernel_rfl) (vi (IntWalk.i64_in _ (by omega))) fun a hF => ?_)
      refine wl (eP 40 (v0 := .int .i64 (IntKind.i64.wrap (1 + nt lsl k % 18446744073709551616 % 60))) (v := .int .i64 (1 + nt lsl k % 18446744073709551616 % 60)) hF (by kernel_rfl) (fun _ => by kernel_rfl) (wi (by omega)) fun a hF => ?_)
      refine wl (eM 41 (v := .pointer (some (ea (some ⟨bb3, 0, none⟩) (k)))) hF hM (by kernel_rfl) (yld_ix (kd := .i64) (e := 3) (len := lsl.length) (cap := lsl.length) (i := (k : Int)) (size := 1) (A := (some ⟨bb3, 0, none⟩)) hF rfl (by kernel_rfl) (by kernel_rfl) (by kernel_rfl) (by kernel_rfl) (by kernel_rfl) (roO 5 rfl) (by omega) (by omega) (by rw [List.length_map]; omega)) fun a w hF hM => ?_)
      refine wl (sStoreO 5 (j := k) (A := (some ⟨bb3, 0, none⟩)) (((ss).set k (1 + nt lsl k % 18446744073709551616 % 60)).map (Value.int .i64)) hF hM (by kernel_rfl) rfl rfl (by kernel_rfl) (by kernel_rfl) rfl (by kernel_rfl) rfl rfl (by rw [List.length_map]; omega) (map_set' _ _ _ _) fun w hM => ?_)
      refine wpList_nil ?_
      refine hK9 _ _ ?_
      refine wp_region_lit ?_
      refine sB 1 [(29, .int .i64 (k : Int))] hF (by kernel_rfl) fun a hF => ?_
      refine wl (eP 30 (v0 := .int .i64 (IntKind.i64.wrap ((k : Int) + 1))) (v := .int .i64 ((k : Int) + 1)) hF (by kernel_rfl) (fun _ => by kernel_rfl) (wi (by omega)) fun a hF => ?_)
      refine sB 1 [(8, .int .i64 ((k : Int) + 1))] hF (by kernel_rfl) fun a hF => ?_
      refine wpList_nil ?_
      refine hK6 _ _ ⟨(k + 1, (ss).set k (1 + nt lsl k % 18446744073709551616 % 60)), ⟨(((((((Fr.nil hF).c hF (i := 7) rfl rfl).c hF (i := 6) rfl rfl).c hF (i := 4) rfl rfl).c hF (i := 3) rfl rfl).c hF (i := 2) rfl rfl).c hF (i := 8) rfl (vi (show ((k : Int) + 1 : Int) = ((k + 1) : Int) from by omega))), (hM.sub (((((Sub.nil.c (k := 5) rfl rfl).c (k := 4) rfl rfl).c (k := 3) rfl rfl).c (k := 2) rfl rfl).c (k := 1) rfl rfl)), (show ((k + 1) : Int) ≤ (lsl.length : Int) from by omega), (show (((ss).set k (1 + nt lsl k % 18446744073709551616 % 60)).length : Int) = (lsl.length : Int) from by first | omega | (simp; omega))⟩, (show lsl.length - (k + 1) < lsl.length - k from by omega)⟩
    · skip
      replace hF := hF.c hF (i := 28) (v := .bool false) rfl (bF hz3)
      refine cF hF (by kernel_rfl) (by kernel_rfl) ?_
      refine wp_exit ?_
      refine hK4 _ _ ?_
      refine wp_seq_k fun K10 hK10 => ?_
      refine wp_seq_k fun K11 hK11 => ?_
      refine rQ hM (by kernel_rfl) (by kernel_rfl) ?_
      refine eQL 42 2 0 (v := .agg #[.int .i64 n0, .int .i64 n1]) hF (by kernel_rfl) rfl rfl (by kernel_rfl) (by kernel_rfl) fun a hF => ?_
      refine eQ 43 (v0 := .pointer (some ⟨bb1, 0, none⟩)) (v := .pointer (some ⟨bb1, 0, none⟩)) hF (by kernel_rfl) (fun _ => by kernel_rfl) rfl fun a hF => ?_
      refine eQL 44 2 0 (v := .int .i64 n0) hF (by kernel_rfl) rfl rfl (by kernel_rfl) (by kernel_rfl) fun a hF => ?_
      refine eQ 45 (v0 := .pointer (some ⟨bb2, 0, none⟩)) (v := .pointer (some ⟨bb2, 0, none⟩)) hF (by kernel_rfl) (fun _ => by kernel_rfl) rfl fun a hF => ?_
      refine eQL 46 3 0 (v := .int .u8 u0) hF (by kernel_rfl) rfl rfl (by kernel_rfl) (by kernel_rfl) fun a hF => ?_
      refine eQ2 47 (v := .int .i64 (nearV n0 u0)) hF (by kernel_rfl) (yld_call (f := 11) (args := #[.int .i64 n0, .int .u8 u0]) hF (by kernel_rfl) (fun _ => by kernel_rfl) (fun w hM => near_w n0 u0 w (by omega))) fun a hF => ?_
      refine eQ 48 (v0 := .pointer (some ⟨bb1, 1, none⟩)) (v := .pointer (some ⟨bb1, 1, none⟩)) hF (by kernel_rfl) (fun _ => by kernel_rfl) rfl fun a hF => ?_
      refine eQL 49 2 1 (v := .int .i64 n1) hF (by kernel_rfl) rfl rfl (by kernel_rfl) (by kernel_rfl) fun a hF => ?_
      refine eQ 50 (v0 := .pointer (some ⟨bb2, 1, none⟩)) (v := .pointer (some ⟨bb2, 1, none⟩)) hF (by kernel_rfl) (fun _ => by kernel_rfl) rfl fun a hF => ?_
      refine eQL 51 3 1 (v := .int .u8 u1) hF (by kernel_rfl) rfl rfl (by kernel_rfl) (by kernel_rfl) fun a hF => ?_
      refine eQ2 52 (v := .int .i64 (nearV n1 u1)) hF (by kernel_rfl) (yld_call (f := 11) (args := #[.int .i64 n1, .int .u8 u1]) hF (by kernel_rfl) (fun _ => by kernel_rfl) (fun w hM => near_w n1 u1 w (by omega))) fun a hF => ?_
      refine eQ 53 (v0 := .agg #[.int .i64 (nearV n0 u0), .int .i64 (nearV n1 u1)]) (v := .agg #[.int .i64 (nearV n0 u0), .int .i64 (nearV n1 u1)]) hF (by kernel_rfl) (fun _ => by kernel_rfl) rfl fun a hF => ?_
      refine eQ 54 (v0 := .pointer (some ⟨bb1, 0, none⟩)) (v := .pointer (some ⟨bb1, 0, none⟩)) hF (by kernel_rfl) (fun _ => by kernel_rfl) rfl fun a hF => ?_
      refine eQL 55 2 0 (v := .int .i64 n0) hF (by kernel_rfl) rfl rfl (by kernel_rfl) (by kernel_rfl) fun a hF => ?_
      refine eQ 56 (v0 := .int .u64 (IntKind.u64.wrap n0)) (v := .int .u64 (n0 % 18446744073709551616)) hF (by kernel_rfl) (fun _ => by kernel_rfl) (vi (u64_wrap _)) fun a hF => ?_
      refine eQ2 57 (v := .int .u64 (n0 % 18446744073709551616 % 3000)) hF (by kernel_rfl) (yld_rem (n0 % 18446744073709551616) 3000 hF rfl (by kernel_rfl) (by kernel_rfl) (by kernel_rfl) (by decide) (Int.tmod_eq_emod_of_nonneg (by omega))) fun a hF => ?_
      refine eQ 58 (v0 := .int .i64 (IntKind.i64.wrap (n0 % 18446744073709551616 % 3000))) (v := .int .i64 (n0 % 18446744073709551616 % 3000)) hF (by kernel_rfl) (fun _ => by kernel_rfl) (vi (IntWalk.i64_in _ (by omega))) fun a hF => ?_
      refine eQ 59 (v0 := .pointer (some ⟨bb1, 1, none⟩)) (v := .pointer (some ⟨bb1, 1, none⟩)) hF (by kernel_rfl) (fun _ => by kernel_rfl) rfl fun a hF => ?_
      refine eQL 60 2 1 (v := .int .i64 n1) hF (by kernel_rfl) rfl rfl (by kernel_rfl) (by kernel_rfl) fun a hF => ?_
      refine eQ 61 (v0 := .int .u64 (IntKind.u64.wrap n1)) (v := .int .u64 (n1 % 18446744073709551616)) hF (by kernel_rfl) (fun _ => by kernel_rfl) (vi (u64_wrap _)) fun a hF => ?_
      refine eQ2 62 (v := .int .u64 (n1 % 18446744073709551616 % 3000)) hF (by kernel_rfl) (yld_rem (n1 % 18446744073709551616) 3000 hF rfl (by kernel_rfl) (by kernel_rfl) (by kernel_rfl) (by decide) (Int.tmod_eq_emod_of_nonneg (by omega))) fun a hF => ?_
      refine eQ 63 (v0 := .int .i64 (IntKind.i64.wrap (n1 % 18446744073709551616 % 3000))) (v := .int .i64 (n1 % 18446744073709551616 % 3000)) hF (by kernel_rfl) (fun _ => by kernel_rfl) (vi (IntWalk.i64_in _ (by omega))) fun a hF => ?_
      refine eQ 64 (v0 := .int .i64 (IntKind.i64.wrap (0 - n1 % 18446744073709551616 % 3000))) (v := .int .i64 (-(n1 % 18446744073709551616 % 3000))) hF (by kernel_rfl) (fun _ => by kernel_rfl) (vi (by rw [Int.zero_sub]; exact (w64 (by omega)))) fun a hF => ?_
      refine eQ 65 (v0 := .agg #[.int .i64 (n0 % 18446744073709551616 % 3000), .int .i64 (-(n1 % 18446744073709551616 % 3000))]) (v := .agg #[.int .i64 (n0 % 18446744073709551616 % 3000), .int .i64 (-(n1 % 18446744073709551616 % 3000))]) hF (by kernel_rfl) (fun _ => by kernel_rfl) rfl fun a hF => ?_
      refine eQ 66 (v0 := .agg #[.int .i64 n0, .int .i64 n1, .int .i64 (nearV n0 u0), .int .i64 (nearV n1 u1), .int .i64 (n0 % 18446744073709551616 % 3000), .int .i64 (-(n1 % 18446744073709551616 % 3000))]) (v := .agg #[.int .i64 n0, .int .i64 n1, .int .i64 (nearV n0 u0), .int .i64 (nearV n1 u1), .int .i64 (n0 % 18446744073709551616 % 3000), .int .i64 (-(n1 % 18446744073709551616 % 3000))]) hF (by kernel_rfl) (fun _ => by kernel_rfl) rfl fun a hF => ?_
      refine eQ 67 (v0 := .int .i64 0) (v := .int .i64 0) hF (by kernel_rfl) (fun _ => by kernel_rfl) rfl fun a hF => ?_
      refine wpQuiet_nil ?_
      intro w hM
      refine hK11 _ _ ?_
      refine wp_block ?_
      refine wp_loop_k (G := Nat) (fun gg a w => Fr 115 [(67, some (.int .i64 (gg : Int))), (2, some (.slice A lsl.length c)), (3, some (.pointer (some ⟨bb1, 0, none⟩))), (7, some (.slice (some ⟨bb3, 0, none⟩) lsl.length lsl.length)), (66, some (.agg #[.int .i64 n0, .int .i64 n1, .int .i64 (nearV n0 u0), .int .i64 (nearV n1 u1), .int .i64 (n0 % 18446744073709551616 % 3000), .int .i64 (-(n1 % 18446744073709551616 % 3000))]))] a ∧ Mem w0.heap.size w0 [(1, some (.ro A (l.map (Value.int .i64)))), (2, some (.row bb1 22 #[.int .i64 n0, .int .i64 n1])), (4, some (.ro A (lsl.map (Value.int .i64)))), (5, some (.own (.slice (some ⟨bb3, 0, none⟩) lsl.length lsl.length) 3 1 lsl.length (ss.map (Value.int .i64))))] w ∧ ((gg : Int) ≤ 3)) (fun gg => 3 - gg) (0) ?_ ?_
      · refine ⟨((((((Fr.nil hF).c hF (i := 66) rfl rfl).c hF (i := 7) rfl rfl).c hF (i := 3) rfl rfl).c hF (i := 2) rfl rfl).c hF (i := 67) rfl (vi (show (0 : Int) = (0 : Int) from by omega))), (hM.sub ((((Sub.nil.c (k := 5) rfl rfl).c (k := 4) rfl rfl).c (k := 2) rfl rfl).c (k := 1) rfl rfl)), (show (0 : Int) ≤ 3 from by omega)⟩
      · intro gg a w hI
        intro K12 hK12
        obtain ⟨k67, rfl⟩ : ∃ x, x = gg := ⟨_, rfl⟩
        try dsimp only at hI hK12
        obtain ⟨hF, hM, hz4⟩ := hI
        refine wp_seq_k fun K13 hK13 => ?_
        refine wp_region_lit ?_
        refine sB 1 [(68, .bool (decide ((k67 : Int) < 3)))] hF (by kernel_rfl) fun a hF => ?_
        refine wpList_nil ?_
        refine hK13 _ _ ?_
        refine wp_seq_k fun K14 hK14 => ?_
        by_cases hz5 : (k67 : Int) < 3
        · skip
          replace hF := hF.c hF (i := 68) (v := .bool true) rfl (bT hz5)
          refine cT hF (by kernel_rfl) (by kernel_rfl) ?_
          refine wp_skip ?_
          refine hK14 _ _ ?_
          refine wp_seq_k fun K15 hK15 => ?_
          refine wp_block ?_
          refine wp_seq_k fun K16 hK16 => ?_
          refine wp_region_lit ?_
          obtain ⟨ys2, hl2, hm2, hy2⟩ := idx_agg (P := Tryd.prog) (t := 26) (e := 22) (len := 3) (m := 2) (kd := .i64) [n0, n1, nearV n0 u0, nearV n1 u1, n0 % 18446744073709551616 % 3000, -(n1 % 18446744073709551616 % 3000)] ((k67 : Int)) (by kernel_rfl) (by kernel_rfl) (by omega) rfl
          obtain ⟨y2_0, y2_1, rfl⟩ := len2 hl2
          refine wl (eM 69 (v := .agg #[.int .i64 y2_0, .int .i64 y2_1]) hF hM (by kernel_rfl) (yld_index (X := .agg #[.int .i64 n0, .int .i64 n1, .int .i64 (nearV n0 u0), .int .i64 (nearV n1 u1), .int .i64 (n0 % 18446744073709551616 % 3000), .int .i64 (-(n1 % 18446744073709551616 % 3000))]) (I := .int .i64 ((k67 : Int))) hF rfl (by kernel_rfl) (by kernel_rfl) (by kernel_rfl) (fun w => hy2 w)) fun a w hF hM => ?_)
          refine wl (eN 10 6 (t := 22) (fun b => .pointer (some ⟨b, 0, none⟩)) #[.int .i64 0, .int .i64 0] hF hM (by kernel_rfl) (fun _ => by kernel_rfl) fun bb4 a w hF hM => ?_)
          refine wl (sStore (i := 6) (off := 0) (cs' := #[.int .i64 y2_0, .int .i64 y2_1]) hF hM (by kernel_rfl) rfl rfl (by kernel_rfl) (by kernel_rfl) rfl (by kernel_rfl) fun w hM => ?_)
          refine wpList_nil ?_
          refine hK16 _ _ ?_
          refine wp_seq_k fun K17 hK17 => ?_
          refine rQ hM (by kernel_rfl) (by kernel_rfl) ?_
          refine eQ 70 (v0 := .pointer (some ⟨bb4, 0, none⟩)) (v := .pointer (some ⟨bb4, 0, none⟩)) hF (by kernel_rfl) (fun _ => by kernel_rfl) rfl fun a hF => ?_
          refine eQL 71 6 0 (v := .int .i64 y2_0) hF (by kernel_rfl) rfl rfl (by kernel_rfl) (by kernel_rfl) fun a hF => ?_
          refine eQ 72 (v0 := .pointer (some ⟨bb4, 1, none⟩)) (v := .pointer (some ⟨bb4, 1, none⟩)) hF (by kernel_rfl) (fun _ => by kernel_rfl) rfl fun a hF => ?_
          refine eQL 73 6 1 (v := .int .i64 y2_1) hF (by kernel_rfl) rfl rfl (by kernel_rfl) (by kernel_rfl) fun a hF => ?_
          refine eQ2 74 (v := .int .i64 (gcV y2_0 y2_1)) hF (by kernel_rfl) (yld_call (f := 21) (args := #[.int .i64 y2_0, .int .i64 y2_1]) hF (by kernel_rfl) (fun _ => by kernel_rfl) (fun w hM => gcd_w y2_0 y2_1 w (hT.below (Nat.le_refl _) hM.bel))) fun a hF => ?_
          have := gcV_bd y2_0 y2_1
          refine eQ 75 (v0 := .pointer (some ⟨bb4, 0, none⟩)) (v := .pointer (some ⟨bb4, 0, none⟩)) hF (by kernel_rfl) (fun _ => by kernel_rfl) rfl fun a hF => ?_
          refine eQL 76 6 0 (v := .int .i64 y2_0) hF (by kernel_rfl) rfl rfl (by kernel_rfl) (by kernel_rfl) fun a hF => ?_
          refine eQ 77 (v0 := .pointer (some ⟨bb4, 1, none⟩)) (v := .pointer (some ⟨bb4, 1, none⟩)) hF (by kernel_rfl) (fun _ => by kernel_rfl) rfl fun a hF => ?_
          refine eQL 78 6 1 (v := .int .i64 y2_1) hF (by kernel_rfl) rfl rfl (by kernel_rfl) (by kernel_rfl) fun a hF => ?_
          refine eQ2 79 (v := .int .i64 (gcV y2_0 y2_1)) hF (by kernel_rfl) (yld_call (f := 22) (args := #[.int .i64 y2_0, .int .i64 y2_1]) hF (by kernel_rfl) (fun _ => by kernel_rfl) (fun w hM => rGcd_w y2_0 y2_1 w)) fun a hF => ?_
          have := gcV_bd y2_0 y2_1
          refine eQ 80 (v0 := .bool (!decide (gcV y2_0 y2_1 = gcV y2_0 y2_1))) (v := .bool false) hF (by kernel_rfl) (fun _ => by kernel_rfl) (nT (by omega)) fun a hF => ?_
          refine wpQuiet_nil ?_
          intro w hM
          refine hK17 _ _ ?_
          refine cF hF (by kernel_rfl) (by kernel_rfl) ?_
          refine wp_skip ?_
          refine hK15 _ _ ?_
          refine wp_region_lit ?_
          refine wl (eP 81 (v0 := .int .i64 (IntKind.i64.wrap ((k67 : Int) + 1))) (v := .int .i64 ((k67 : Int) + 1)) hF (by kernel_rfl) (fun _ => by kernel_rfl) (wi (by omega)) fun a hF => ?_)
          refine sB 1 [(67, .int .i64 ((k67 : Int) + 1))] hF (by kernel_rfl) fun a hF => ?_
          refine wpList_nil ?_
          refine hK12 _ _ ⟨(k67 + 1), ⟨((((((Fr.nil hF).c hF (i := 66) rfl rfl).c hF (i := 7) rfl rfl).c hF (i := 3) rfl rfl).c hF (i := 2) rfl rfl).c hF (i := 67) rfl (vi (show ((k67 : Int) + 1 : Int) = ((k67 + 1) : Int) from by omega))), (hM.sub ((((Sub.nil.c (k := 5) rfl rfl).c (k := 4) rfl rfl).c (k := 2) rfl rfl).c (k := 1) rfl rfl)), (show ((k67 + 1) : Int) ≤ 3 from by omega)⟩, (show 3 - (k67 + 1) < 3 - k67 from by omega)⟩
        · skip
          replace hF := hF.c hF (i := 68) (v := .bool false) rfl (bF hz5)
          refine cF hF (by kernel_rfl) (by kernel_rfl) ?_
          refine wp_exit ?_
          refine hK10 _ _ ?_
          refine wp_seq_k fun K18 hK18 => ?_
          refine wp_seq_k fun K19 hK19 => ?_
          refine rF (by kernel_rfl) (by kernel_rfl) (fun S a w => ∃ bb5 : Nat, ∃ AA6 : Option Addr, ∃ cc6 : Nat, ∃ bb7 : Nat, ∃ AA8 : Option Addr, ∃ cc8 : Nat, Fr 115 [(2, some (.slice A lsl.length c)), (3, some (.pointer (some ⟨bb1, 0, none⟩))), (7, some (.slice (some ⟨bb3, 0, none⟩) lsl.length lsl.length)), (82, (cond (S.getD 0 false) (some (.slice A lsl.length c)) none)), (83, (cond (S.getD 1 false) (some (.slice (some ⟨bb3, 0, none⟩) lsl.length lsl.length)) none)), (84, (cond (S.getD 2 false) (some (.slice (some ⟨bb5, 0, none⟩) 0 0)) none)), (85, (cond (S.getD 3 false) (some (.slice (some ⟨bb3, 0, none⟩) lsl.length lsl.length)) none)), (86, (cond (S.getD 4 false) (some (.slice AA6 lsl.length cc6)) none)), (87, (cond (S.getD 5 false) (some (.pointer (some ⟨bb1, 0, none⟩))) none)), (88, (cond (S.getD 6 false) (some (.int .i64 n0)) none)), (89, (cond (S.getD 7 false) (some (.slice (some ⟨bb7, 0, none⟩) 1 1)) none)), (90, (cond (S.getD 8 false) (some (.slice AA8 (lsl.length + 1) cc8)) none)), (91, (cond (S.getD 9 false) (some (.agg #[.slice A lsl.length c, .slice (some ⟨bb3, 0, none⟩) lsl.length lsl.length, .slice AA8 (lsl.length + 1) cc8])) none)), (92, (cond (S.getD 10 false) (some (.int .i64 0)) none))] a ∧ Mem w0.heap.size w0 [(1, some (.ro A (l.map (Value.int .i64)))), (2, some (.row bb1 22 #[.int .i64 n0, .int .i64 n1])), (4, some (.ro A (lsl.map (Value.int .i64)))), (5, some (.own (.slice (some ⟨bb3, 0, none⟩) lsl.length lsl.length) 3 1 lsl.length (ss.map (Value.int .i64)))), (7, (cond (S.getD 8 false) (some (.own (.slice AA8 (lsl.length + 1) cc8) 3 1 (lsl.length + 1) ((ss ++ [n0]).map (Value.int .i64)))) (cond (S.getD 4 false) (some (.own (.slice AA6 lsl.length cc6) 3 1 lsl.length (ss.map (Value.int .i64)))) (cond (S.getD 2 false) (some (.row bb5 3 #[])) none)))), (8, (cond (S.getD 7 false) (some (.row bb7 3 #[.int .i64 n0])) none))] w) ?_ ?_ ?_
          · exact ⟨0, none, 0, 0, none, 0, (((((((((((((((Fr.nil hF).co hF (i := 92) (by kernel_rfl)).co hF (i := 91) (by kernel_rfl)).co hF (i := 90) (by kernel_rfl)).co hF (i := 89) (by kernel_rfl)).co hF (i := 88) (by kernel_rfl)).co hF (i := 87) (by kernel_rfl)).co hF (i := 86) (by kernel_rfl)).co hF (i := 85) (by kernel_rfl)).co hF (i := 84) (by kernel_rfl)).co hF (i := 83) (by kernel_rfl)).co hF (i := 82) (by kernel_rfl)).co hF (i := 7) (by kernel_rfl)).co hF (i := 3) (by kernel_rfl)).co hF (i := 2) (by kernel_rfl)), hM.drew.sub ((((((Sub.nil.co (k := 8) (by kernel_rfl)).co (k := 7) (by kernel_rfl)).co (k := 5) (by kernel_rfl)).co (k := 4) (by kernel_rfl)).co (k := 2) (by kernel_rfl)).co (k := 1) (by kernel_rfl))⟩
          · refine stC ?_ (stC ?_ (stC ?_ (stC ?_ (stC ?_ (stC ?_ (stC ?_ (stC ?_ (stC ?_ (stC ?_ (stC ?_ (trivial)))))))))))
            · intro s0 s1 s2 s3 s4 s5 s6 s7 s8 s9 s10 hc hi hp a w hS
              obtain rfl : s0 = false := hi
              obtain ⟨bb5, AA6, cc6, bb7, AA8, cc8, hF, hM⟩ := hS
              refine eP 82 (v0 := .slice A lsl.length c) (v := .slice A lsl.length c) hF (by kernel_rfl) (fun _ => by kernel_rfl) rfl fun a hF => ?_
              exact ⟨bb5, AA6, cc6, bb7, AA8, cc8, ((hF.repl 3 (by kernel_rfl)).cast (by kernel_rfl)), (hM.cast (by kernel_rfl))⟩
            · intro s0 s1 s2 s3 s4 s5 s6 s7 s8 s9 s10 hc hi hp a w hS
              obtain rfl : s1 = false := hi
              obtain ⟨bb5, AA6, cc6, bb7, AA8, cc8, hF, hM⟩ := hS
              refine eP 83 (v0 := .slice (some ⟨bb3, 0, none⟩) lsl.length lsl.length) (v := .slice (some ⟨bb3, 0, none⟩) lsl.length lsl.length) hF (by kernel_rfl) (fun _ => by kernel_rfl) rfl fun a hF => ?_
              exact ⟨bb5, AA6, cc6, bb7, AA8, cc8, ((hF.repl 4 (by kernel_rfl)).cast (by kernel_rfl)), (hM.cast (by kernel_rfl))⟩
            · intro s0 s1 s2 s3 s4 s5 s6 s7 s8 s9 s10 hc hi hp a w hS
              obtain rfl : s2 = false := hi
              obtain rfl : s4 = false := hc.f 4 2 (by kernel_rfl) rfl
              obtain rfl : s8 = false := hc.f 8 4 (by kernel_rfl) rfl
              obtain ⟨bb5, AA6, cc6, bb7, AA8, cc8, hF, hM⟩ := hS
              refine eN 84 7 (t := 3) (fun b => .slice (some ⟨b, 0, none⟩) 0 0) #[] hF hM (by kernel_rfl) (fun _ => by kernel_rfl) fun bb5 a w hF hM => ?_
              exact ⟨bb5, AA6, cc6, bb7, AA8, cc8, ((hF.repl 5 (by kernel_rfl)).cast (by kernel_rfl)), ((hM.repl 4 (by kernel_rfl)).cast (by kernel_rfl))⟩
            · intro s0 s1 s2 s3 s4 s5 s6 s7 s8 s9 s10 hc hi hp a w hS
              obtain rfl : s3 = false := hi
              obtain ⟨bb5, AA6, cc6, bb7, AA8, cc8, hF, hM⟩ := hS
              refine eP 85 (v0 := .slice (some ⟨bb3, 0, none⟩) lsl.length lsl.length) (v := .slice (some ⟨bb3, 0, none⟩) lsl.length lsl.length) hF (by kernel_rfl) (fun _ => by kernel_rfl) rfl fun a hF => ?_
              exact ⟨bb5, AA6, cc6, bb7, AA8, cc8, ((hF.repl 6 (by kernel_rfl)).cast (by kernel_rfl)), (hM.cast (by kernel_rfl))⟩
            · intro s0 s1 s2 s3 s4 s5 s6 s7 s8 s9 s10 hc hi hp a w hS
              obtain rfl : s4 = false := hi
              obtain rfl : s3 = true := hp 3 (by kernel_rfl)
              obtain rfl : s2 = true := hp 2 (by kernel_rfl)
              obtain rfl : s8 = false := hc.f 8 4 (by kernel_rfl) rfl
              obtain ⟨bb5, AA6, cc6, bb7, AA8, cc8, hF, hM⟩ := hS
              refine sAppR0 86 7 (e := 3) (size := 1) (bytes := 8) (z := .int .i64 0) (m := lsl.length) (c := lsl.length) (news := (ss.map (Value.int .i64))) (ss.map (Value.int .i64)) hF hM (by kernel_rfl) rfl (by kernel_rfl) (by kernel_rfl) (by kernel_rfl) rfl rfl rfl (by first | (simp; done) | (simp; omega)) (roO 5 rfl) (ints_one _ _) (by omega) (by decide) rfl (own_nil hM (k := 5) rfl) fun AA6 cc6 a w hF hM => ?_
              exact ⟨bb5, AA6, cc6, bb7, AA8, cc8, ((hF.repl 7 (by kernel_rfl)).cast (by kernel_rfl)), ((hM.repl 4 (by kernel_rfl)).cast (by kernel_rfl))⟩
            · intro s0 s1 s2 s3 s4 s5 s6 s7 s8 s9 s10 hc hi hp a w hS
              obtain rfl : s5 = false := hi
              obtain ⟨bb5, AA6, cc6, bb7, AA8, cc8, hF, hM⟩ := hS
              refine eP 87 (v0 := .pointer (some ⟨bb1, 0, none⟩)) (v := .pointer (some ⟨bb1, 0, none⟩)) hF (by kernel_rfl) (fun _ => by kernel_rfl) rfl fun a hF => ?_
              exact ⟨bb5, AA6, cc6, bb7, AA8, cc8, ((hF.repl 8 (by kernel_rfl)).cast (by kernel_rfl)), (hM.cast (by kernel_rfl))⟩
            · intro s0 s1 s2 s3 s4 s5 s6 s7 s8 s9 s10 hc hi hp a w hS
              obtain rfl : s6 = false := hi
              obtain rfl : s5 = true := hp 5 (by kernel_rfl)
              obtain ⟨bb5, AA6, cc6, bb7, AA8, cc8, hF, hM⟩ := hS
              refine eL 88 2 0 (v := .int .i64 n0) hF hM (by kernel_rfl) rfl rfl (by kernel_rfl) (by kernel_rfl) fun a w hF hM => ?_
              exact ⟨bb5, AA6, cc6, bb7, AA8, cc8, ((hF.repl 9 (by kernel_rfl)).cast (by kernel_rfl)), (hM.cast (by kernel_rfl))⟩
            · intro s0 s1 s2 s3 s4 s5 s6 s7 s8 s9 s10 hc hi hp a w hS
              obtain rfl : s7 = false := hi
              obtain rfl : s6 = true := hp 6 (by kernel_rfl)
              obtain ⟨bb5, AA6, cc6, bb7, AA8, cc8, hF, hM⟩ := hS
              refine eN 89 8 (t := 3) (fun b => .slice (some ⟨b, 0, none⟩) 1 1) #[.int .i64 n0] hF hM (by kernel_rfl) (fun _ => by kernel_rfl) fun bb7 a w hF hM => ?_
              exact ⟨bb5, AA6, cc6, bb7, AA8, cc8, ((hF.repl 10 (by kernel_rfl)).cast (by kernel_rfl)), ((hM.repl 5 (by kernel_rfl)).cast (by kernel_rfl))⟩
            · intro s0 s1 s2 s3 s4 s5 s6 s7 s8 s9 s10 hc hi hp a w hS
              obtain rfl : s8 = false := hi
              obtain rfl : s7 = true := hp 7 (by kernel_rfl)
              obtain rfl : s4 = true := hp 4 (by kernel_rfl)
              obtain rfl : s2 = true := hc 4 2 (by kernel_rfl) rfl
              obtain rfl : s9 = false := hc.f 9 8 (by kernel_rfl) rfl
              obtain ⟨bb5, AA6, cc6, bb7, AA8, cc8, hF, hM⟩ := hS
              refine sApp 90 7 (e := 3) (size := 1) (bytes := 8) (z := .int .i64 0) (m := 1) (c := 1) (l := lsl.length) (cap := cc6) (A := AA6) (news := [.int .i64 n0]) ((ss ++ [n0]).map (Value.int .i64)) hF hM (by kernel_rfl) rfl (by kernel_rfl) (by kernel_rfl) (by kernel_rfl) rfl rfl rfl rfl (roR 8 rfl) (by simp [Value.oneCell']) (by omega) (by decide) (map_snoc' _ _ _) fun AA8 cc8 a w hF hM => ?_
              exact ⟨bb5, AA6, cc6, bb7, AA8, cc8, ((hF.repl 11 (by kernel_rfl)).cast (by kernel_rfl)), ((hM.repl 4 (by kernel_rfl)).cast (by kernel_rfl))⟩
            · intro s0 s1 s2 s3 s4 s5 s6 s7 s8 s9 s10 hc hi hp a w hS
              obtain rfl : s9 = false := hi
              obtain rfl : s8 = true := hp 8 (by kernel_rfl)
              obtain rfl : s4 = true := hc 8 4 (by kernel_rfl) rfl
              obtain rfl : s2 = true := hc 4 2 (by kernel_rfl) rfl
              obtain rfl : s1 = true := hp 1 (by kernel_rfl)
              obtain rfl : s0 = true := hp 0 (by kernel_rfl)
              obtain ⟨bb5, AA6, cc6, bb7, AA8, cc8, hF, hM⟩ := hS
              refine eP 91 (v0 := .agg #[.slice A lsl.length c, .slice (some ⟨bb3, 0, none⟩) lsl.length lsl.length, .slice AA8 (lsl.length + 1) cc8]) (v := .agg #[.slice A lsl.length c, .slice (some ⟨bb3, 0, none⟩) lsl.length lsl.length, .slice AA8 (lsl.length + 1) cc8]) hF (by kernel_rfl) (fun _ => by kernel_rfl) rfl fun a hF => ?_
              exact ⟨bb5, AA6, cc6, bb7, AA8, cc8, ((hF.repl 12 (by kernel_rfl)).cast (by kernel_rfl)), (hM.cast (by kernel_rfl))⟩
            · intro s0 s1 s2 s3 s4 s5 s6 s7 s8 s9 s10 hc hi hp a w hS
              obtain rfl : s10 = false := hi
              obtain ⟨bb5, AA6, cc6, bb7, AA8, cc8, hF, hM⟩ := hS
              refine eP 92 (v0 := .int .i64 0) (v := .int .i64 0) hF (by kernel_rfl) (fun _ => by kernel_rfl) rfl fun a hF => ?_
              exact ⟨bb5, AA6, cc6, bb7, AA8, cc8, ((hF.repl 13 (by kernel_rfl)).cast (by kernel_rfl)), (hM.cast (by kernel_rfl))⟩
          · intro a w hS
            obtain ⟨bb5, AA6, cc6, bb7, AA8, cc8, hF, hM⟩ := hS
            replace hF : Fr 115 [(2, some (.slice A lsl.length c)), (3, some (.pointer (some ⟨bb1, 0, none⟩))), (7, some (.slice (some ⟨bb3, 0, none⟩) lsl.length lsl.length)), (82, some (.slice A lsl.length c)), (83, some (.slice (some ⟨bb3, 0, none⟩) lsl.length lsl.length)), (84, some (.slice (some ⟨bb5, 0, none⟩) 0 0)), (85, some (.slice (some ⟨bb3, 0, none⟩) lsl.length lsl.length)), (86, some (.slice AA6 lsl.length cc6)), (87, some (.pointer (some ⟨bb1, 0, none⟩))), (88, some (.int .i64 n0)), (89, some (.slice (some ⟨bb7, 0, none⟩) 1 1)), (90, some (.slice AA8 (lsl.length + 1) cc8)), (91, some (.agg #[.slice A lsl.length c, .slice (some ⟨bb3, 0, none⟩) lsl.length lsl.length, .slice AA8 (lsl.length + 1) cc8])), (92, some (.int .i64 0))] a := hF.cast (by kernel_rfl)
            replace hM : Mem w0.heap.size w0 [(1, some (.ro A (l.map (Value.int .i64)))), (2, some (.row bb1 22 #[.int .i64 n0, .int .i64 n1])), (4, some (.ro A (lsl.map (Value.int .i64)))), (5, some (.own (.slice (some ⟨bb3, 0, none⟩) lsl.length lsl.length) 3 1 lsl.length (ss.map (Value.int .i64)))), (7, some (.own (.slice AA8 (lsl.length + 1) cc8) 3 1 (lsl.length + 1) ((ss ++ [n0]).map (Value.int .i64)))), (8, some (.row bb7 3 #[.int .i64 n0]))] w := hM.cast (by kernel_rfl)
            refine hK19 _ _ ?_
            refine wp_block ?_
            refine wp_loop_rounds 4 ?_
            refine rounds_k fun K20 hK20 => ?_
            refine wp_seq_k fun K21 hK21 => ?_
            refine wp_region_lit ?_
            refine wl (eP 93 (v0 := .bool (decide (0 < 3))) (v := .bool true) hF (by kernel_rfl) (fun _ => by kernel_rfl) (bT (by omega)) fun a hF => ?_)
            refine wpList_nil ?_
            refine hK21 _ _ ?_
            refine wp_seq_k fun K22 hK22 => ?_
            refine cT hF (by kernel_rfl) (by kernel_rfl) ?_
            refine wp_skip ?_
            refine hK22 _ _ ?_
            refine wp_seq_k fun K23 hK23 => ?_
            refine wp_block ?_
            refine wp_seq_k fun K24 hK24 => ?_
            refine wp_region_lit ?_
            refine sB 2 [(94, .slice A lsl.length c), (12, .slice A lsl.length c)] hF (by kernel_rfl) fun a hF => ?_
            refine wpList_nil ?_
            refine hK24 _ _ ?_
            refine wp_seq_k fun K25 hK25 => ?_
            refine wp_region_lit ?_
            refine sB 1 [(96, .slice A lsl.length c)] hF (by kernel_rfl) fun a hF => ?_
            refine wl (eM 97 (v := .tuple #[.int .i64 (lcV lsl), .bool (lcB lsl)]) hF hM (by kernel_rfl) (yld_call (f := 23) (args := #[.slice A lsl.length c]) hF (by kernel_rfl) (fun _ => by kernel_rfl) (fun w hM => lcm_w A lsl _ w (hM.ok 4 _ rfl) (by first | omega | (simp; done) | (simp; omega)) (hT.below (Nat.le_refl _) hM.bel))) fun a w hF hM => ?_)
            refine sB 5 [(95, .tuple #[.int .i64 (lcV lsl), .bool (lcB lsl)]), (98, .int .i64 (lcV lsl)), (99, .bool (lcB lsl)), (13, .int .i64 (lcV lsl)), (14, .bool (lcB lsl))] hF (by kernel_rfl) fun a hF => ?_
            refine wpList_nil ?_
            refine hK25 _ _ ?_
            refine wp_seq_k fun K26 hK26 => ?_
            refine wp_region_lit ?_
            refine sB 1 [(101, .slice A lsl.length c)] hF (by kernel_rfl) fun a hF => ?_
            refine wl (eM 102 (v := .tuple #[.int .i64 (lcV lsl), .bool (lcB lsl)]) hF hM (by kernel_rfl) (yld_call (f := 24) (args := #[.slice A lsl.length c]) hF (by kernel_rfl) (fun _ => by kernel_rfl) (fun w hM => rLcm_w A lsl _ w (hM.ok 4 _ rfl) (by first | omega | (simp; done) | (simp; omega)))) fun a w hF hM => ?_)
            refine sB 5 [(100, .tuple #[.int .i64 (lcV lsl), .bool (lcB lsl)]), (103, .int .i64 (lcV lsl)), (104, .bool (lcB lsl)), (15, .int .i64 (lcV lsl)), (16, .bool (lcB lsl))] hF (by kernel_rfl) fun a hF => ?_
            refine wpList_nil ?_
            refine hK26 _ _ ?_
            refine wp_seq_k fun K27 hK27 => ?_
            refine wp_region_lit ?_
            refine sB 2 [(105, .int .i64 (lcV lsl)), (106, .int .i64 (lcV lsl))] hF (by kernel_rfl) fun a hF => ?_
            refine wl (eP 107 (v0 := .bool (!decide (lcV lsl = lcV lsl))) (v := .bool false) hF (by kernel_rfl) (fun _ => by kernel_rfl) (nT (by omega)) fun a hF => ?_)
            refine sB 3 [(108, .bool false), (109, .bool (lcB lsl)), (110, .bool (lcB lsl))] hF (by kernel_rfl) fun a hF => ?_
            refine wl (eP 111 (v0 := .bool ((lcB lsl) != (lcB lsl))) (v := .bool false) hF (by kernel_rfl) (fun _ => by kernel_rfl) (congrArg Value.bool (by simp)) fun a hF => ?_)
            refine sB 1 [(112, .bool false)] hF (by kernel_rfl) fun a hF => ?_
            refine wpList_nil ?_
            refine hK27 _ _ ?_
            refine cF hF (by kernel_rfl) (by kernel_rfl) ?_
            refine wp_skip ?_
            refine hK23 _ _ ?_
            refine wp_region_lit ?_
            refine wl (eP 113 (v0 := .int .i64 (IntKind.i64.wrap (0 + 1))) (v := .int .i64 1) hF (by kernel_rfl) (fun _ => by kernel_rfl) (vi (by decide)) fun a hF => ?_)
            refine sB 1 [(92, .int .i64 1)] hF (by kernel_rfl) fun a hF => ?_
            refine wpList_nil ?_
            refine hK20 _ _ ?_
            refine rounds_k fun K28 hK28 => ?_
            refine wp_seq_k fun K29 hK29 => ?_
            refine wp_region_lit ?_
            refine wl (eP 93 (v0 := .bool (decide (1 < 3))) (v := .bool true) hF (by kernel_rfl) (fun _ => by kernel_rfl) (bT (by omega)) fun a hF => ?_)
            refine wpList_nil ?_
            refine hK29 _ _ ?_
            refine wp_seq_k fun K30 hK30 => ?_
            refine cT hF (by kernel_rfl) (by kernel_rfl) ?_
            refine wp_skip ?_
            refine hK30 _ _ ?_
            refine wp_seq_k fun K31 hK31 => ?_
            refine wp_block ?_
            refine wp_seq_k fun K32 hK32 => ?_
            refine wp_region_lit ?_
            refine sB 2 [(94, .slice (some ⟨bb3, 0, none⟩) lsl.length lsl.length), (12, .slice (some ⟨bb3, 0, none⟩) lsl.length lsl.length)] hF (by kernel_rfl) fun a hF => ?_
            refine wpList_nil ?_
            refine hK32 _ _ ?_
            refine wp_seq_k fun K33 hK33 => ?_
            refine wp_region_lit ?_
            refine sB 1 [(96, .slice (some ⟨bb3, 0, none⟩) lsl.length lsl.length)] hF (by kernel_rfl) fun a hF => ?_
            refine wl (eM 97 (v := .tuple #[.int .i64 (lcV ss), .bool (lcB ss)]) hF hM (by kernel_rfl) (yld_call (f := 23) (args := #[.slice (some ⟨bb3, 0, none⟩) lsl.length lsl.length]) hF (by kernel_rfl) (fun _ => by kernel_rfl) (fun w hM => (by rw [show lsl.length = ss.length from by first | omega | (simp; done) | (simp; omega)]; exact lcm_w (some ⟨bb3, 0, none⟩) ss _ w (ro_of_own (hM.ok 5 _ rfl)) (by first | omega | (simp; done) | (simp; omega)) (hT.below (Nat.le_refl _) hM.bel)))) fun a w hF hM => ?_)
            refine sB 5 [(95, .tuple #[.int .i64 (lcV ss), .bool (lcB ss)]), (98, .int .i64 (lcV ss)), (99, .bool (lcB ss)), (13, .int .i64 (lcV ss)), (14, .bool (lcB ss))] hF (by kernel_rfl) fun a hF => ?_
            refine wpList_nil ?_
            refine hK33 _ _ ?_
            refine wp_seq_k fun K34 hK34 => ?_
            refine wp_region_lit ?_
            refine sB 1 [(101, .slice (some ⟨bb3, 0, none⟩) lsl.length lsl.length)] hF (by kernel_rfl) fun a hF => ?_
            refine wl (eM 102 (v := .tuple #[.int .i64 (lcV ss), .bool (lcB ss)]) hF hM (by kernel_rfl) (yld_call (f := 24) (args := #[.slice (some ⟨bb3, 0, none⟩) lsl.length lsl.length]) hF (by kernel_rfl) (fun _ => by kernel_rfl) (fun w hM => (by rw [show lsl.length = ss.length from by first | omega | (simp; done) | (simp; omega)]; exact rLcm_w (some ⟨bb3, 0, none⟩) ss _ w (ro_of_own (hM.ok 5 _ rfl)) (by first | omega | (simp; done) | (simp; omega))))) fun a w hF hM => ?_)
            refine sB 5 [(100, .tuple #[.int .i64 (lcV ss), .bool (lcB ss)]), (103, .int .i64 (lcV ss)), (104, .bool (lcB ss)), (15, .int .i64 (lcV ss)), (16, .bool (lcB ss))] hF (by kernel_rfl) fun a hF => ?_
            refine wpList_nil ?_
            refine hK34 _ _ ?_
            refine wp_seq_k fun K35 hK35 => ?_
            refine wp_region_lit ?_
            refine sB 2 [(105, .int .i64 (lcV ss)), (106, .int .i64 (lcV ss))] hF (by kernel_rfl) fun a hF => ?_
            refine wl (eP 107 (v0 := .bool (!decide (lcV ss = lcV ss))) (v := .bool false) hF (by kernel_rfl) (fun _ => by kernel_rfl) (nT (by omega)) fun a hF => ?_)
            refine sB 3 [(108, .bool false), (109, .bool (lcB ss)), (110, .bool (lcB ss))] hF (by kernel_rfl) fun a hF => ?_
            refine wl (eP 111 (v0 := .bool ((lcB ss) != (lcB ss))) (v := .bool false) hF (by kernel_rfl) (fun _ => by kernel_rfl) (congrArg Value.bool (by simp)) fun a hF => ?_)
            refine sB 1 [(112, .bool false)] hF (by kernel_rfl) fun a hF => ?_
            refine wpList_nil ?_
            refine hK35 _ _ ?_
            refine cF hF (by kernel_rfl) (by kernel_rfl) ?_
            refine wp_skip ?_
            refine hK31 _ _ ?_
            refine wp_region_lit ?_
            refine wl (eP 113 (v0 := .int .i64 (IntKind.i64.wrap (1 + 1))) (v := .int .i64 2) hF (by kernel_rfl) (fun _ => by kernel_rfl) (vi (by decide)) fun a hF => ?_)
            refine sB 1 [(92, .int .i64 2)] hF (by kernel_rfl) fun a hF => ?_
            refine wpList_nil ?_
            refine hK28 _ _ ?_
            refine rounds_k fun K36 hK36 => ?_
            refine wp_seq_k fun K37 hK37 => ?_
            refine wp_region_lit ?_
            refine wl (eP 93 (v0 := .bool (decide (2 < 3))) (v := .bool true) hF (by kernel_rfl) (fun _ => by kernel_rfl) (bT (by omega)) fun a hF => ?_)
            refine wpList_nil ?_
            refine hK37 _ _ ?_
            refine wp_seq_k fun K38 hK38 => ?_
            refine cT hF (by kernel_rfl) (by kernel_rfl) ?_
            refine wp_skip ?_
            refine hK38 _ _ ?_
            refine wp_seq_k fun K39 hK39 => ?_
            refine wp_block ?_
            refine wp_seq_k fun K40 hK40 => ?_
            refine wp_region_lit ?_
            refine sB 2 [(94, .slice AA8 (lsl.length + 1) cc8), (12, .slice AA8 (lsl.length + 1) cc8)] hF (by kernel_rfl) fun a hF => ?_
            refine wpList_nil ?_
            refine hK40 _ _ ?_
            refine wp_seq_k fun K41 hK41 => ?_
            refine wp_region_lit ?_
            refine sB 1 [(96, .slice AA8 (lsl.length + 1) cc8)] hF (by kernel_rfl) fun a hF => ?_
            refine wl (eM 97 (v := .tuple #[.int .i64 (lcV (ss ++ [n0])), .bool (lcB (ss ++ [n0]))]) hF hM (by kernel_rfl) (yld_call (f := 23) (args := #[.slice AA8 (lsl.length + 1) cc8]) hF (by kernel_rfl) (fun _ => by kernel_rfl) (fun w hM => (by rw [show lsl.length + 1 = (ss ++ [n0]).length from by first | omega | (simp; done) | (simp; omega)]; exact lcm_w AA8 (ss ++ [n0]) _ w (ro_of_own (hM.ok 7 _ rfl)) (by first | omega | (simp; done) | (simp; omega)) (hT.below (Nat.le_refl _) hM.bel)))) fun a w hF hM => ?_)
            refine sB 5 [(95, .tuple #[.int .i64 (lcV (ss ++ [n0])), .bool (lcB (ss ++ [n0]))]), (98, .int .i64 (lcV (ss ++ [n0]))), (99, .bool (lcB (ss ++ [n0]))), (13, .int .i64 (lcV (ss ++ [n0]))), (14, .bool (lcB (ss ++ [n0])))] hF (by kernel_rfl) fun a hF => ?_
            refine wpList_nil ?_
            refine hK41 _ _ ?_
            refine wp_seq_k fun K42 hK42 => ?_
            refine wp_region_lit ?_
            refine sB 1 [(101, .slice AA8 (lsl.length + 1) cc8)] hF (by kernel_rfl) fun a hF => ?_
            refine wl (eM 102 (v := .tuple #[.int .i64 (lcV (ss ++ [n0])), .bool (lcB (ss ++ [n0]))]) hF hM (by kernel_rfl) (yld_call (f := 24) (args := #[.slice AA8 (lsl.length + 1) cc8]) hF (by kernel_rfl) (fun _ => by kernel_rfl) (fun w hM => (by rw [show lsl.length + 1 = (ss ++ [n0]).length from by first | omega | (simp; done) | (simp; omega)]; exact rLcm_w AA8 (ss ++ [n0]) _ w (ro_of_own (hM.ok 7 _ rfl)) (by first | omega | (simp; done) | (simp; omega))))) fun a w hF hM => ?_)
            refine sB 5 [(100, .tuple #[.int .i64 (lcV (ss ++ [n0])), .bool (lcB (ss ++ [n0]))]), (103, .int .i64 (lcV (ss ++ [n0]))), (104, .bool (lcB (ss ++ [n0]))), (15, .int .i64 (lcV (ss ++ [n0]))), (16, .bool (lcB (ss ++ [n0])))] hF (by kernel_rfl) fun a hF => ?_
            refine wpList_nil ?_
            refine hK42 _ _ ?_
            refine wp_seq_k fun K43 hK43 => ?_
            refine wp_region_lit ?_
            refine sB 2 [(105, .int .i64 (lcV (ss ++ [n0]))), (106, .int .i64 (lcV (ss ++ [n0])))] hF (by kernel_rfl) fun a hF => ?_
            refine wl (eP 107 (v0 := .bool (!decide (lcV (ss ++ [n0]) = lcV (ss ++ [n0])))) (v := .bool false) hF (by kernel_rfl) (fun _ => by kernel_rfl) (nT (by omega)) fun a hF => ?_)
            refine sB 3 [(108, .bool false), (109, .bool (lcB (ss ++ [n0]))), (110, .bool (lcB (ss ++ [n0])))] hF (by kernel_rfl) fun a hF => ?_
            refine wl (eP 111 (v0 := .bool ((lcB (ss ++ [n0])) != (lcB (ss ++ [n0])))) (v := .bool false) hF (by kernel_rfl) (fun _ => by kernel_rfl) (congrArg Value.bool (by simp)) fun a hF => ?_)
            refine sB 1 [(112, .bool false)] hF (by kernel_rfl) fun a hF => ?_
            refine wpList_nil ?_
            refine hK43 _ _ ?_
            refine cF hF (by kernel_rfl) (by kernel_rfl) ?_
            refine wp_skip ?_
            refine hK39 _ _ ?_
            refine wp_region_lit ?_
            refine wl (eP 113 (v0 := .int .i64 (IntKind.i64.wrap (2 + 1))) (v := .int .i64 3) hF (by kernel_rfl) (fun _ => by kernel_rfl) (vi (by decide)) fun a hF => ?_)
            refine sB 1 [(92, .int .i64 3)] hF (by kernel_rfl) fun a hF => ?_
            refine wpList_nil ?_
            refine hK36 _ _ ?_
            refine rounds_k fun K44 hK44 => ?_
            refine wp_seq_k fun K45 hK45 => ?_
            refine wp_region_lit ?_
            refine wl (eP 93 (v0 := .bool (decide (3 < 3))) (v := .bool false) hF (by kernel_rfl) (fun _ => by kernel_rfl) (bF (by omega)) fun a hF => ?_)
            refine wpList_nil ?_
            refine hK45 _ _ ?_
            refine wp_seq_k fun K46 hK46 => ?_
            refine cF hF (by kernel_rfl) (by kernel_rfl) ?_
            refine wp_exit ?_
            refine hK18 _ _ ?_
            refine wp_seq_k fun K47 hK47 => ?_
            refine wp_region_lit ?_
            refine wl (eM 114 (v := .bool true) hF hM (by kernel_rfl) (yld_call (f := 18) (args := #[]) hF (by kernel_rfl) (fun _ => by kernel_rfl) (fun w hM => works_w w (hT.below (Nat.le_refl _) hM.bel))) fun a w hF hM => ?_)
            refine sB 1 [(6, .bool true)] hF (by kernel_rfl) fun a hF => ?_
            refine wpList_nil ?_
            refine hK47 _ _ ?_
            refine wp_ret ?_
            refine hR0 _ _ ?_
            refine ret_of hF hM (.tmp rfl (.nil)) ?_
            exact ⟨rfl, hM.bel⟩

end Go.Proofs.YtjfjcjbjdbjlgaaDoor
