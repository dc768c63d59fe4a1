/-
  The walk of CurveDelays.
-/
import Derived.Test.YtoighcbbaacnaaaCurveJ
import Derived.Test.YtoighcbbaacnaaaOpen3
namespace Go.Proofs.Ytoighcbbaacnaaa
open Go.RowKit
set_option linter.unusedVariables false
set_option linter.unusedSimpArgs false

theorem rate_next {mm : List (Int × Int)} {x y : Int} (h : ∀ j, j < mm.length → 1 ≤ (pr mm j).2 ∧ (pr mm j).2 ≤ 2097152) (hy : 1 ≤ y ∧ y ≤ 2097152) : ∀ j, j < (mm ++ [(x, y)]).length → 1 ≤ (pr (mm ++ [(x, y)]) j).2 ∧ (pr (mm ++ [(x, y)]) j).2 ≤ 2097152 := fun j hj => by
  by_cases e : j < mm.length
  · rw [pr_app_left e]; exact h j e
  · have e : j = mm.length := by simp at hj; omega
    subst e
    rw [pr_app_here]; exact hy
set_option maxRecDepth 100000 in
set_option maxHeartbeats 8000000 in
theorem curveDelays_walk (A : Option Addr) (l : List (Int × Int)) (c : Nat) (Da : Option Addr) (ds : List D4) (cd : Nat) (sv0 sv1 n0 n1 b0 b1 : Int) (w0 : World) (hA : Ro w0 A (flat2 l)) (hlc : l.length ≤ c) (hc : c ≤ 9223372036854775807) (hln : A = none → l.length = 0 ∧ c = 0) (hD : Ro w0 Da (flat4 ds)) (hdb : ∀ k, k < ds.length → (0 ≤ dq1 ds k ∧ dq1 ds k < 4294967296) ∧ (0 ≤ dq2 ds k ∧ dq2 ds k < 4294967296)) (hdm : ds.length ≤ 9223372036854775807) (h : 0 ≤ n0 ∧ n0 < 4294967296 ∧ 0 ≤ n1 ∧ n1 < 4294967296) :
    Calls Try.prog 4 #[.slice A l.length c, .slice Da ds.length cd, .agg #[.int .i64 sv0, .int .i64 sv1], .agg #[.int .u32 n0, .int .u32 n1], .agg #[.int .i64 b0, .int .i64 b1]] w0 (Ret w0 (.bool true)) := by
  refine enterK 115 Try.func4 rfl rfl rfl ?_
  intro a hF Q0 hR0 hN0
  have hM := Mem.start w0
  replace hM := hM.addOld 1 hA (Nat.le_refl _)
  replace hM := hM.addOld 2 hD (Nat.le_refl _)
  refine wp_seq_k fun K1 hK1 => ?_
  refine wp_region_lit ?_
  refine wl (eN 7 3 (t := 23) (fun b => .pointer (some ⟨b, 0, none⟩)) #[.int .i64 sv0, .int .i64 sv1] hF hM (by kernel_rfl) (fun _ => by kernel_rfl) fun bb1 a w hF hM => ?_)
  refine wl (eN 8 4 (t := 37) (fun b => .pointer (some ⟨b, 0, none⟩)) #[.int .u32 n0, .int .u32 n1] hF hM (by kernel_rfl) (fun _ => by kernel_rfl) fun bb2 a w hF hM => ?_)
  refine wl (eN 9 5 (t := 39) (fun b => .pointer (some ⟨b, 0, none⟩)) #[.int .i64 b0, .int .i64 b1] hF hM (by kernel_rfl) (fun _ => by kernel_rfl) fun bb3 a w hF hM => ?_)
  refine sB 1 [(10, .bool false)] hF (by kernel_rfl) fun a hF => ?_
  refine wpList_nil ?_
  refine hK1 _ _ ?_
  refine wp_seq_k fun K2 hK2 => ?_
  refine wp_region_lit ?_
  refine sB 3 [(23, .slice A l.length c), (24, .slice A l.length c), (25, .int .i64 (l.length : Int))] hF (by kernel_rfl) fun a hF => ?_
  refine wl (eP 26 (v0 := .int .i64 (if 13 < (l.length : Int) then 13 else (l.length : Int))) (v := .int .i64 (min (l.length : Int) 13)) hF (by kernel_rfl) (fun _ => by kernel_rfl) (vi (min_if _ _)) fun a hF => ?_)
  obtain ⟨lsl, e_lsl⟩ : ∃ x : List (Int × Int), x = l.take ((min (l.length : Int) 13).toNat) := ⟨_, rfl⟩
  have len_lsl : (lsl.length : Int) = min (l.length : Int) 13 := by rw [e_lsl, List.length_take]; omega
  replace hM := hM.roMore 6 1 (xs' := (flat2 lsl)) rfl (by rw [e_lsl]; exact flat2_sub _ _)
  refine wl (eM 27 (v := .slice A lsl.length c) hF hM (by kernel_rfl) (yld_slice0 (e := 39) (len := l.length) (cap := c) (m := lsl.length) (A := A) (i := min (l.length : Int) 13) hF rfl (by kernel_rfl) (by kernel_rfl) (by kernel_rfl) (by kernel_rfl) (by kernel_rfl) (by omega) (by omega)) fun a w hF hM => ?_)
  refine sB 1 [(0, .slice A lsl.length c)] hF (by kernel_rfl) fun a hF => ?_
  refine wpList_nil ?_
  refine hK2 _ _ ?_
  refine wp_seq_k fun K3 hK3 => ?_
  refine wp_region_lit ?_
  refine sB 1 [(28, .pointer (some ⟨bb2, 0, none⟩))] hF (by kernel_rfl) fun a hF => ?_
  refine wl (eL 29 4 0 (v := .int .u32 n0) hF hM (by kernel_rfl) rfl rfl (by kernel_rfl) (by kernel_rfl) fun a w hF hM => ?_)
  refine sB 1 [(30, .pointer (some ⟨bb2, 1, none⟩))] hF (by kernel_rfl) fun a hF => ?_
  refine wl (eL 31 4 1 (v := .int .u32 n1) hF hM (by kernel_rfl) rfl rfl (by kernel_rfl) (by kernel_rfl) fun a w hF hM => ?_)
  refine wl (eM 32 (v := .agg #[.int .i64 (1 + n0 % 2097152), .int .i64 (n1 % 268435457)]) hF hM (by kernel_rfl) (yld_call (f := 13) (args := #[.int .u32 n0, .int .u32 n1]) hF (by kernel_rfl) (fun _ => by kernel_rfl) (fun w hM => rOf4_w n0 n1 w (by omega))) fun a w hF hM => ?_)
  refine wl (eN 11 7 (t := 23) (fun b => .pointer (some ⟨b, 0, none⟩)) #[.int .i64 0, .int .i64 0] hF hM (by kernel_rfl) (fun _ => by kernel_rfl) fun bb4 a w hF hM => ?_)
  refine wl (sStore (i := 7) (off := 0) (cs' := #[.int .i64 (1 + n0 % 2097152), .int .i64 (n1 % 268435457)]) hF hM (by kernel_rfl) rfl rfl (by kernel_rfl) (by kernel_rfl) rfl (by kernel_rfl) fun w hM => ?_)
  refine wpList_nil ?_
  refine hK3 _ _ ?_
  refine wp_seq_k fun K4 hK4 => ?_
  refine wp_region_lit ?_
  refine sB 1 [(12, .slice none 0 0)] hF (by kernel_rfl) fun a hF => ?_
  refine wpList_nil ?_
  refine hK4 _ _ ?_
  refine wp_seq_k fun K5 hK5 => ?_
  refine wp_seq_k fun K6 hK6 => ?_
  refine wp_region_lit ?_
  refine sB 1 [(13, .int .i64 0)] hF (by kernel_rfl) fun a hF => ?_
  refine wpList_nil ?_
  refine hK6 _ _ ?_
  refine wp_block ?_
  replace hM := hM.addNil 8 39 2
  refine wp_loop_k (G := Nat × List (Int × Int) × Option Addr × Nat) (fun gg a w => Fr 115 [(12, some (.slice gg.2.2.1 gg.1 gg.2.2.2)), (13, some (.int .i64 (gg.1 : Int))), (0, some (.slice A lsl.length c)), (1, some (.slice Da ds.length cd)), (7, some (.pointer (some ⟨bb1, 0, none⟩))), (8, some (.pointer (some ⟨bb2, 0, none⟩))), (9, some (.pointer (some ⟨bb3, 0, none⟩))), (10, some (.bool false)), (11, some (.pointer (some ⟨bb4, 0, none⟩)))] a ∧ Mem w0.heap.size w0 [(1, some (.ro A (flat2 l))), (2, some (.ro Da (flat4 ds))), (3, some (.row bb1 23 #[.int .i64 sv0, .int .i64 sv1])), (4, some (.row bb2 37 #[.int .u32 n0, .int .u32 n1])), (5, some (.row bb3 39 #[.int .i64 b0, .int .i64 b1])), (6, some (.ro A (flat2 lsl))), (7, some (.row bb4 23 #[.int .i64 (1 + n0 % 2097152), .int .i64 (n1 % 268435457)])), (8, some (.own (.slice gg.2.2.1 gg.1 gg.2.2.2) 39 2 gg.1 (flat2 gg.2.1)))] w ∧ ((gg.1 : Int) ≤ (ds.length : Int)) ∧ ((gg.1 : Int) ≤ 6) ∧ ((gg.2.1.length : Int) = (gg.1 : Int)) ∧ (∀ j, j < gg.2.1.length → 1 ≤ (pr gg.2.1 j).2 ∧ (pr gg.2.1 j).2 ≤ 2097152)) (fun gg => 6 - gg.1) (0, [], none, 0) ?_ ?_
  · refine ⟨((((((((((Fr.nil hF).c hF (i := 11) rfl rfl).c hF (i := 10) rfl rfl).c hF (i := 9) rfl rfl).c hF (i := 8) rfl rfl).c hF (i := 7) rfl rfl).c hF (i := 1) rfl rfl).c hF (i := 0) rfl rfl).c hF (i := 13) rfl (vi (show (0 : Int) = (0 : Int) from by omega))).c hF (i := 12) rfl rfl), (hM.sub ((((((((Sub.nil.c (k := 8) rfl rfl).c (k := 7) rfl rfl).c (k := 6) rfl rfl).c (k := 5) rfl rfl).c (k := 4) rfl rfl).c (k := 3) rfl rfl).c (k := 2) rfl rfl).c (k := 1) rfl rfl)), (show (0 : Int) ≤ (ds.length : Int) from by omega), (show (0 : Int) ≤ 6 from by omega), (show (([]).length : Int) = (0 : Int) from by rfl), (show ∀ j, j < ([]).length → 1 ≤ (pr ([]) j).2 ∧ (pr ([]) j).2 ≤ 2097152 from by exact fun j hj => by simp at hj)⟩
  · intro gg a w hI
    intro K7 hK7
    obtain ⟨k, mm, G1, c1⟩ := gg
    try dsimp only at hI hK7
    obtain ⟨hF, hM, hz1, hz2, hz3, hz4⟩ := hI
    have hrt : ∀ j, j < mm.length → 1 ≤ (pr mm j).2 ∧ (pr mm j).2 ≤ 2097152 := by assumption
    refine wp_seq_k fun K8 hK8 => ?_
    refine wp_seq_k fun K9 hK9 => ?_
    by_cases hz5 : (k : Int) < (ds.length : Int)
    · skip
      refine wp_region_lit ?_
      refine sB 3 [(33, .int .i64 (k : Int)), (34, .slice Da ds.length cd), (35, .int .i64 (ds.length : Int))] hF (by kernel_rfl) fun a hF => ?_
      refine wl (eP 36 (v0 := .bool (decide ((k : Int) < (ds.length : Int)))) (v := .bool true) hF (by kernel_rfl) (fun _ => by kernel_rfl) (bT hz5) fun a hF => ?_)
      refine sB 4 [(37, .bool true), (38, .int .i64 (k : Int)), (39, .bool (decide ((k : Int) < 6))), (40, .bool (decide ((k : Int) < 6)))] hF (by kernel_rfl) fun a hF => ?_
      refine wpList_nil ?_
      refine hK9 _ _ ?_
      by_cases hz6 : (k : Int) < 6
      · skip
        replace hF := hF.c hF (i := 39) (v := .bool true) rfl (bT hz6)
        replace hF := hF.c hF (i := 40) (v := .bool true) rfl (bT hz6)
        refine cT hF (by kernel_rfl) (by kernel_rfl) ?_
        refine wp_skip ?_
        refine hK8 _ _ ?_
        refine wp_seq_k fun K10 hK10 => ?_
        refine wp_block ?_
        refine wp_region_lit ?_
        refine sB 3 [(43, .slice G1 k c1), (44, .slice Da ds.length cd), (45, .int .i64 (k : Int))] hF (by kernel_rfl) fun a hF => ?_
        refine wl (eM 46 (v := .pointer (some (ea Da (k * 4)))) hF hM (by kernel_rfl) (yld_ix (kd := .i64) (e := 42) (len := ds.length) (cap := cd) (i := (k : Int)) (size := 4) (A := Da) hF rfl (by kernel_rfl) (by kernel_rfl) (by kernel_rfl) (by kernel_rfl) (by kernel_rfl) (roK 2 rfl) (by omega) (by omega) (by rw [flat4_length]; omega)) fun a w hF hM => ?_)
        refine wl (eM 47 (v := .agg #[.int .u32 (dq1 ds k), .int .u32 (dq2 ds k), (q4 ds k).2.2.1, (q4 ds k).2.2.2]) hF hM (by kernel_rfl) (yld_roM (A := Da) (j := k * 4) (us := [.int .u32 (dq1 ds k), .int .u32 (dq2 ds k), (q4 ds k).2.2.1, (q4 ds k).2.2.2]) hF rfl (by kernel_rfl) (by kernel_rfl) (roK 2 rfl) (by kernel_rfl) rfl (q4_all (k := k) (by omega))) fun a w hF hM => ?_)
        have := hdb k (by omega)
        refine wl (eM 48 (v := .agg #[.int .i64 (1 + dq1 ds k % 1048576), .int .i64 (1 + dq2 ds k % 2097152)]) hF hM (by kernel_rfl) (yld_call (f := 19) (args := #[.agg #[.int .u32 (dq1 ds k), .int .u32 (dq2 ds k), (q4 ds k).2.2.1, (q4 ds k).2.2.2]]) hF (by kernel_rfl) (fun _ => by kernel_rfl) (fun w hM => draftBucket_w (dq1 ds k) (dq2 ds k) ((q4 ds k).2.2.1) ((q4 ds k).2.2.2) w (by omega))) fun a w hF hM => ?_)
        refine wl (eN 49 9 (t := 39) (fun b => .slice (some ⟨b, 0, none⟩) 1 1) #[.int .i64 (1 + dq1 ds k % 1048576), .int .i64 (1 + dq2 ds k % 2097152)] hF hM (by kernel_rfl) (fun _ => by kernel_rfl) fun bb5 a w hF hM => ?_)
        refine wl (sApp 50 8 (e := 39) (size := 2) (bytes := 16) (z := .agg #[.int .i64 0, .int .i64 0]) (m := 1) (c := 1) (l := k) (cap := c1) (A := G1) (news := [.int .i64 (1 + dq1 ds k % 1048576), .int .i64 (1 + dq2 ds k % 2097152)]) (flat2 (mm ++ [(1 + dq1 ds k % 1048576, 1 + dq2 ds k % 2097152)])) hF hM (by kernel_rfl) rfl (by kernel_rfl) (by kernel_rfl) (by kernel_rfl) rfl rfl rfl rfl (roR 9 rfl) (by simp [Value.oneCell']) (by omega) (by decide) (flat2_snoc' _ _ _) fun AA6 cc6 a w hF hM => ?_)
        refine sB 1 [(12, .slice AA6 (k + 1) cc6)] hF (by kernel_rfl) fun a hF => ?_
        refine wpList_nil ?_
        refine hK10 _ _ ?_
        refine wp_region_lit ?_
        refine sB 1 [(41, .int .i64 (k : Int))] hF (by kernel_rfl) fun a hF => ?_
        refine wl (eP 42 (v0 := .int .i64 (IntKind.i64.wrap ((k : Int) + 1))) (v := .int .i64 ((k : Int) + 1)) hF (by kernel_rfl) (fun _ => by kernel_rfl) (wi (by omega)) fun a hF => ?_)
        refine sB 1 [(13, .int .i64 ((k : Int) + 1))] hF (by kernel_rfl) fun a hF => ?_
        refine wpList_nil ?_
        refine hK7 _ _ ⟨(k + 1, mm ++ [(1 + dq1 ds k % 1048576, 1 + dq2 ds k % 2097152)], AA6, cc6), ⟨((((((((((Fr.nil hF).c hF (i := 11) rfl rfl).c hF (i := 10) rfl rfl).c hF (i := 9) rfl rfl).c hF (i := 8) rfl rfl).c hF (i := 7) rfl rfl).c hF (i := 1) rfl rfl).c hF (i := 0) rfl rfl).c hF (i := 13) rfl (vi (show ((k : Int) + 1 : Int) = ((k + 1) : Int) from by omega))).c hF (i := 12) rfl rfl), (hM.sub ((((((((Sub.nil.c (k := 8) rfl rfl).c (k := 7) rfl rfl).c (k := 6) rfl rfl).c (k := 5) rfl rfl).c (k := 4) rfl rfl).c (k := 3) rfl rfl).c (k := 2) rfl rfl).c (k := 1) rfl rfl)), (show ((k + 1) : Int) ≤ (ds.length : Int) from by omega), (show ((k + 1) : Int) ≤ 6 from by omega), (show ((mm ++ [(1 + dq1 ds k % 1048576, 1 + dq2 ds k % 2097152)]).length : Int) = ((k + 1) : Int) from by first | omega | (simp; omega)), (show ∀ j, j < (mm ++ [(1 + dq1 ds k % 1048576, 1 + dq2 ds k % 2097152)]).length → 1 ≤ (pr (mm ++ [(1 + dq1 ds k % 1048576, 1 + dq2 ds k % 2097152)]) j).2 ∧ (pr (mm ++ [(1 + dq1 ds k % 1048576, 1 + dq2 ds k % 2097152)]) j).2 ≤ 2097152 from by exact rate_next (by assumption) (by omega))⟩, (show 6 - (k + 1) < 6 - k from by omega)⟩
      · skip
        replace hF := hF.c hF (i := 39) (v := .bool false) rfl (bF hz6)
        replace hF := hF.c hF (i := 40) (v := .bool false) rfl (bF hz6)
        refine cF hF (by kernel_rfl) (by kernel_rfl) ?_
        refine wp_exit ?_
        refine hK5 _ _ ?_
        refine wp_seq_k fun K11 hK11 => ?_
        refine wp_region_lit ?_
        refine sB 1 [(51, .pointer (some ⟨bb4, 0, none⟩))] hF (by kernel_rfl) fun a hF => ?_
        refine wl (eL 52 7 0 (v := .int .i64 (1 + n0 % 2097152)) hF hM (by kernel_rfl) rfl rfl (by kernel_rfl) (by kernel_rfl) fun a w hF hM => ?_)
        refine sB 1 [(53, .pointer (some ⟨bb4, 1, none⟩))] hF (by kernel_rfl) fun a hF => ?_
        refine wl (eL 54 7 1 (v := .int .i64 (n1 % 268435457)) hF hM (by kernel_rfl) rfl rfl (by kernel_rfl) (by kernel_rfl) fun a w hF hM => ?_)
        refine sB 1 [(55, .agg #[.int .i64 (1 + n0 % 2097152), .int .i64 (n1 % 268435457)])] hF (by kernel_rfl) fun a hF => ?_
        refine wl (eN 14 10 (t := 23) (fun b => .pointer (some ⟨b, 0, none⟩)) #[.int .i64 0, .int .i64 0] hF hM (by kernel_rfl) (fun _ => by kernel_rfl) fun bb7 a w hF hM => ?_)
        refine wl (sStore (i := 10) (off := 0) (cs' := #[.int .i64 (1 + n0 % 2097152), .int .i64 (n1 % 268435457)]) hF hM (by kernel_rfl) rfl rfl (by kernel_rfl) (by kernel_rfl) rfl (by kernel_rfl) fun w hM => ?_)
        refine wpList_nil ?_
        refine hK11 _ _ ?_
        refine wp_seq_k fun K12 hK12 => ?_
        refine wp_seq_k fun K13 hK13 => ?_
        refine wp_region_lit ?_
        refine sB 2 [(56, .slice G1 k c1), (57, .int .i64 (k : Int))] hF (by kernel_rfl) fun a hF => ?_
        refine wl (eP 58 (v0 := .bool (decide (0 < (k : Int)))) (v := .bool true) hF (by kernel_rfl) (fun _ => by kernel_rfl) (bT (by omega)) fun a hF => ?_)
        refine wpList_nil ?_
        refine hK13 _ _ ?_
        refine cT hF (by kernel_rfl) (by kernel_rfl) ?_
        have hr0 := hrt 0 (by omega)
        refine rT 11 (by kernel_rfl) (by kernel_rfl) hM.drew ?_
        refine eQ 59 (v0 := .slice G1 k c1) (v := .slice G1 k c1) hF (by kernel_rfl) (fun _ => by kernel_rfl) rfl fun a hF => ?_
        refine eQ2 60 (v := .pointer (some (ea G1 (0 * 2)))) hF (by kernel_rfl) (yld_ix (kd := .i64) (e := 39) (len := k) (cap := c1) (i := 0) (size := 2) (A := G1) hF rfl (by kernel_rfl) (by kernel_rfl) (by kernel_rfl) (by kernel_rfl) (by kernel_rfl) (roO 8 rfl) (by omega) (by omega) (by rw [flat2_length]; omega)) fun a hF => ?_
        refine eQ 61 (v0 := .pointer (some (ea G1 (0 * 2 + 1)))) (v := .pointer (some (ea G1 (0 * 2 + 1)))) hF (by kernel_rfl) (fun _ => by kernel_rfl) rfl fun a hF => ?_
        refine eQ2 62 (v := .int .i64 (pr mm 0).2) hF (by kernel_rfl) (yld_ro1 (A := G1) (j := 0 * 2 + 1) hF rfl (by kernel_rfl) (by kernel_rfl) (roO 8 rfl) (by kernel_rfl) (pr_snd (k := 0) (by omega) (by omega))) fun a hF => ?_
        refine eQ 63 (v0 := .pointer (some ⟨bb2, 1, none⟩)) (v := .pointer (some ⟨bb2, 1, none⟩)) hF (by kernel_rfl) (fun _ => by kernel_rfl) rfl fun a hF => ?_
        refine eQL 64 4 1 (v := .int .u32 n1) hF (by kernel_rfl) rfl rfl (by kernel_rfl) (by kernel_rfl) fun a hF => ?_
        refine eQ2 65 (v := .int .u32 (n1 % 3)) hF (by kernel_rfl) (yld_rem n1 3 hF rfl (by kernel_rfl) (by kernel_rfl) (by kernel_rfl) (by decide) (Int.tmod_eq_emod_of_nonneg (by omega))) fun a hF => ?_
        refine eQ 66 (v0 := .int .i64 (IntKind.i64.wrap (n1 % 3))) (v := .int .i64 (n1 % 3)) hF (by kernel_rfl) (fun _ => by kernel_rfl) (vi (IntWalk.i64_in _ (by omega))) fun a hF => ?_
        refine eQ 67 (v0 := .int .i64 (IntKind.i64.wrap ((pr mm 0).2 + n1 % 3))) (v := .int .i64 ((pr mm 0).2 + n1 % 3)) hF (by kernel_rfl) (fun _ => by kernel_rfl) (wi (by omega)) fun a hF => ?_
        refine eQ 68 (v0 := .int .i64 (if (pr mm 0).2 + n1 % 3 < 2097152 then (pr mm 0).2 + n1 % 3 else 2097152)) (v := .int .i64 (min 2097152 ((pr mm 0).2 + n1 % 3))) hF (by kernel_rfl) (fun _ => by kernel_rfl) (vi (min_if _ _)) fun a hF => ?_
        refine eQ 69 (v0 := .pointer (some ⟨bb7, 0, none⟩)) (v := .pointer (some ⟨bb7, 0, none⟩)) hF (by kernel_rfl) (fun _ => by kernel_rfl) rfl fun a hF => ?_
        refine wpQuiet_nil ?_
        intro w hM
        refine wl (sStore (i := 10) (off := 0) (cs' := #[.int .i64 (min 2097152 ((pr mm 0).2 + n1 % 3)), .int .i64 (n1 % 268435457)]) hF hM (by kernel_rfl) rfl rfl (by kernel_rfl) (by kernel_rfl) rfl (by kernel_rfl) fun w hM => ?_)
        refine wpList_nil ?_
        refine hK12 _ _ ?_
        refine wp_seq_k fun K14 hK14 => ?_
        refine wp_seq_k fun K15 hK15 => ?_
        refine wp_region_lit ?_
        refine sB 2 [(70, .slice A lsl.length c), (71, .slice G1 k c1)] hF (by kernel_rfl) fun a hF => ?_
        refine wl (eL 72 5 0 (v := .agg #[.int .i64 b0, .int .i64 b1]) hF hM (by kernel_rfl) rfl rfl (by kernel_rfl) (by kernel_rfl) fun a w hF hM => ?_)
        refine wl (eN 73 11 (t := 39) (fun b => .slice (some ⟨b, 0, none⟩) 1 1) #[.int .i64 b0, .int .i64 b1] hF hM (by kernel_rfl) (fun _ => by kernel_rfl) fun bb8 a w hF hM => ?_)
        refine sB 1 [(74, .slice G1 k c1)] hF (by kernel_rfl) fun a hF => ?_
        refine wl (sAppR 75 11 (e := 39) (size := 2) (bytes := 16) (z := .agg #[.int .i64 0, .int .i64 0]) (m := k) (c := c1) (l := 1) (news := (flat2 mm)) (flat2 (([(b0, b1)] : List (Int × Int)) ++ mm)) hF hM (by kernel_rfl) rfl (by kernel_rfl) (by kernel_rfl) (by kernel_rfl) rfl rfl rfl rfl (by first | exact flat2_length _ | (rw [flat2_length]; omega)) (roO 8 rfl) (flat2_one _) (by omega) (by decide) (flat2_append ([(b0, b1)] : List (Int × Int)) mm).symm (own_nil hM (k := 8) rfl) fun AA9 cc9 a w hF hM => ?_)
        refine wl (eN 76 12 (t := 39) (fun b => .slice (some ⟨b, 0, none⟩) 0 0) #[] hF hM (by kernel_rfl) (fun _ => by kernel_rfl) fun bb10 a w hF hM => ?_)
        refine sB 1 [(77, .slice G1 k c1)] hF (by kernel_rfl) fun a hF => ?_
        refine wl (sAppR0 78 12 (e := 39) (size := 2) (bytes := 16) (z := .agg #[.int .i64 0, .int .i64 0]) (m := k) (c := c1) (news := (flat2 mm)) (flat2 mm) hF hM (by kernel_rfl) rfl (by kernel_rfl) (by kernel_rfl) (by kernel_rfl) rfl rfl rfl (by first | exact flat2_length _ | (rw [flat2_length]; omega)) (roO 8 rfl) (flat2_one _) (by omega) (by decide) rfl (own_nil hM (k := 8) rfl) fun AA11 cc11 a w hF hM => ?_)
        refine sB 1 [(79, .slice A lsl.length c)] hF (by kernel_rfl) fun a hF => ?_
        refine wl (sAppA 80 12 (e := 39) (size := 2) (bytes := 16) (z := .agg #[.int .i64 0, .int .i64 0]) (m := lsl.length) (c := c) (l := k) (cap := cc11) (A := AA11) (news := (flat2 lsl)) (flat2 (mm ++ lsl)) hF hM (by kernel_rfl) rfl (by kernel_rfl) (by kernel_rfl) (by kernel_rfl) rfl rfl rfl (by first | exact flat2_length _ | (rw [flat2_length]; omega)) (roK 6 rfl) (flat2_one _) (by omega) (by decide) (flat2_append _ _).symm (fun h => by have := hln h; omega) fun AA12 cc12 a w hF hM => ?_)
        refine sB 2 [(81, .agg #[.slice A lsl.length c, .slice G1 k c1, .slice AA9 (1 + k) cc9, .slice AA12 (k + lsl.length) cc12]), (82, .int .i64 0)] hF (by kernel_rfl) fun a hF => ?_
        refine wpList_nil ?_
        refine hK15 _ _ ?_
        refine wp_block ?_
        refine wp_loop_rounds 5 ?_
        refine rounds_k fun K16 hK16 => ?_
        refine wp_seq_k fun K17 hK17 => ?_
        refine wp_region_lit ?_
        refine wl (eP 83 (v0 := .bool (decide (0 < 4))) (v := .bool true) hF (by kernel_rfl) (fun _ => by kernel_rfl) (bT (by omega)) fun a hF => ?_)
        refine wpList_nil ?_
        refine hK17 _ _ ?_
        refine wp_seq_k fun K18 hK18 => ?_
        refine cT hF (by kernel_rfl) (by kernel_rfl) ?_
        refine wp_skip ?_
        refine hK18 _ _ ?_
        refine wp_seq_k fun K19 hK19 => ?_
        refine wp_block ?_
        refine wp_seq_k fun K20 hK20 => ?_
        refine wp_region_lit ?_
        refine sB 2 [(84, .slice A lsl.length c), (16, .slice A lsl.length c)] hF (by kernel_rfl) fun a hF => ?_
        refine wpList_nil ?_
        refine hK20 _ _ ?_
        refine wp_seq_k fun K21 hK21 => ?_
        refine wp_region_lit ?_
        refine wl (eL 85 3 0 (v := .agg #[.int .i64 sv0, .int .i64 sv1]) hF hM (by kernel_rfl) rfl rfl (by kernel_rfl) (by kernel_rfl) fun a w hF hM => ?_)
        refine wl (eL 86 7 0 (v := .agg #[.int .i64 (1 + n0 % 2097152), .int .i64 (n1 % 268435457)]) hF hM (by kernel_rfl) rfl rfl (by kernel_rfl) (by kernel_rfl) fun a w hF hM => ?_)
        refine wl (eL 87 10 0 (v := .agg #[.int .i64 (min 2097152 ((pr mm 0).2 + n1 % 3)), .int .i64 (n1 % 268435457)]) hF hM (by kernel_rfl) rfl rfl (by kernel_rfl) (by kernel_rfl) fun a w hF hM => ?_)
        refine sB 2 [(88, .agg #[.int .i64 sv0, .int .i64 sv1, .int .i64 (1 + n0 % 2097152), .int .i64 (n1 % 268435457), .int .i64 (min 2097152 ((pr mm 0).2 + n1 % 3)), .int .i64 (n1 % 268435457)]), (89, .int .i64 0)] hF (by kernel_rfl) fun a hF => ?_
        refine wpList_nil ?_
        refine hK21 _ _ ?_
        refine wp_block ?_
        refine wp_loop_k (G := Nat) (fun gg a w => Fr 115 [(89, some (.int .i64 (gg : Int))), (7, some (.pointer (some ⟨bb1, 0, none⟩))), (11, some (.pointer (some ⟨bb4, 0, none⟩))), (14, some (.pointer (some ⟨bb7, 0, none⟩))), (16, some (.slice A lsl.length c)), (81, some (.agg #[.slice A lsl.length c, .slice G1 k c1, .slice AA9 (1 + k) cc9, .slice AA12 (k + lsl.length) cc12])), (82, some (.int .i64 0)), (88, some (.agg #[.int .i64 sv0, .int .i64 sv1, .int .i64 (1 + n0 % 2097152), .int .i64 (n1 % 268435457), .int .i64 (min 2097152 ((pr mm 0).2 + n1 % 3)), .int .i64 (n1 % 268435457)]))] a ∧ Mem w0.heap.size w0 [(1, some (.ro A (flat2 l))), (2, some (.ro Da (flat4 ds))), (3, some (.row bb1 23 #[.int .i64 sv0, .int .i64 sv1])), (6, some (.ro A (flat2 lsl))), (7, some (.row bb4 23 #[.int .i64 (1 + n0 % 2097152), .int .i64 (n1 % 268435457)])), (8, some (.own (.slice G1 k c1) 39 2 k (flat2 mm))), (10, some (.row bb7 23 #[.int .i64 (min 2097152 ((pr mm 0).2 + n1 % 3)), .int .i64 (n1 % 268435457)])), (11, some (.own (.slice AA9 (1 + k) cc9) 39 2 (1 + k) (flat2 (([(b0, b1)] : List (Int × Int)) ++ mm)))), (12, some (.own (.slice AA12 (k + lsl.length) cc12) 39 2 (k + lsl.length) (flat2 (mm ++ lsl))))] w ∧ ((gg : Int) ≤ 3)) (fun gg => 3 - gg) (0) ?_ ?_
        · refine ⟨(((((((((Fr.nil hF).c hF (i := 88) rfl rfl).c hF (i := 82) rfl rfl).c hF (i := 81) rfl rfl).c hF (i := 16) rfl rfl).c hF (i := 14) rfl rfl).c hF (i := 11) rfl rfl).c hF (i := 7) rfl rfl).c hF (i := 89) rfl (vi (show (0 : Int) = (0 : Int) from by omega))), (hM.sub (((((((((Sub.nil.c (k := 12) rfl rfl).c (k := 11) rfl rfl).c (k := 10) rfl rfl).c (k := 8) rfl rfl).c (k := 7) rfl rfl).c (k := 6) rfl rfl).c (k := 3) rfl rfl).c (k := 2) rfl rfl).c (k := 1) rfl rfl)), (show (0 : Int) ≤ 3 from by omega)⟩
        · intro gg a w hI
          intro K22 hK22
          obtain ⟨kc1, rfl⟩ : ∃ x, x = gg := ⟨_, rfl⟩
          try dsimp only at hI hK22
          obtain ⟨hF, hM, hz7⟩ := hI
          refine wp_seq_k fun K23 hK23 => ?_
          refine wp_region_lit ?_
          refine sB 1 [(90, .bool (decide ((kc1 : Int) < 3)))] hF (by kernel_rfl) fun a hF => ?_
          refine wpList_nil ?_
          refine hK23 _ _ ?_
          refine wp_seq_k fun K24 hK24 => ?_
          by_cases hz8 : (kc1 : Int) < 3
          · skip
            replace hF := hF.c hF (i := 90) (v := .bool true) rfl (bT hz8)
            refine cT hF (by kernel_rfl) (by kernel_rfl) ?_
            refine wp_skip ?_
            refine hK24 _ _ ?_
            refine wp_seq_k fun K25 hK25 => ?_
            refine wp_block ?_
            refine wp_seq_k fun K26 hK26 => ?_
            refine wp_region_lit ?_
            obtain ⟨ys2, hl2, hm2, hy2⟩ := idx_agg (P := Try.prog) (t := 45) (e := 23) (len := 3) (m := 2) (kd := .i64) [sv0, sv1, 1 + n0 % 2097152, n1 % 268435457, min 2097152 ((pr mm 0).2 + n1 % 3), n1 % 268435457] ((kc1 : Int)) (by kernel_rfl) (by kernel_rfl) (by omega) rfl
            obtain ⟨y2_0, y2_1, rfl⟩ := len2 hl2
            refine wl (eM 91 (v := .agg #[.int .i64 y2_0, .int .i64 y2_1]) hF hM (by kernel_rfl) (yld_index (X := .agg #[.int .i64 sv0, .int .i64 sv1, .int .i64 (1 + n0 % 2097152), .int .i64 (n1 % 268435457), .int .i64 (min 2097152 ((pr mm 0).2 + n1 % 3)), .int .i64 (n1 % 268435457)]) (I := .int .i64 ((kc1 : Int))) hF rfl (by kernel_rfl) (by kernel_rfl) (by kernel_rfl) (fun w => hy2 w)) fun a w hF hM => ?_)
            refine wl (eN 18 13 (t := 23) (fun b => .pointer (some ⟨b, 0, none⟩)) #[.int .i64 0, .int .i64 0] hF hM (by kernel_rfl) (fun _ => by kernel_rfl) fun bb13 a w hF hM => ?_)
            refine wl (sStore (i := 13) (off := 0) (cs' := #[.int .i64 y2_0, .int .i64 y2_1]) hF hM (by kernel_rfl) rfl rfl (by kernel_rfl) (by kernel_rfl) rfl (by kernel_rfl) fun w hM => ?_)
            refine wpList_nil ?_
            refine hK26 _ _ ?_
            refine wp_seq_k fun K27 hK27 => ?_
            refine wp_region_lit ?_
            refine sB 1 [(93, .slice A lsl.length c)] hF (by kernel_rfl) fun a hF => ?_
            refine wl (eL 94 13 0 (v := .agg #[.int .i64 y2_0, .int .i64 y2_1]) hF hM (by kernel_rfl) rfl rfl (by kernel_rfl) (by kernel_rfl) fun a w hF hM => ?_)
            refine wl (eM 95 (v := .tuple #[.int .i64 (dlV y2_0 y2_1 lsl), .int .i64 (dlE y2_0 y2_1 lsl)]) hF hM (by kernel_rfl) (yld_call (f := 20) (args := #[.slice A lsl.length c, .agg #[.int .i64 y2_0, .int .i64 y2_1]]) hF (by kernel_rfl) (fun _ => by kernel_rfl) (fun w hM => delay_w y2_0 y2_1 A lsl _ w (hM.ok 6 _ rfl))) fun a w hF hM => ?_)
            refine sB 5 [(92, .tuple #[.int .i64 (dlV y2_0 y2_1 lsl), .int .i64 (dlE y2_0 y2_1 lsl)]), (96, .int .i64 (dlV y2_0 y2_1 lsl)), (97, .int .i64 (dlE y2_0 y2_1 lsl)), (19, .int .i64 (dlV y2_0 y2_1 lsl)), (20, .int .i64 (dlE y2_0 y2_1 lsl))] hF (by kernel_rfl) fun a hF => ?_
            refine wpList_nil ?_
            refine hK27 _ _ ?_
            refine wp_seq_k fun K28 hK28 => ?_
            refine wp_region_lit ?_
            refine sB 1 [(99, .slice A lsl.length c)] hF (by kernel_rfl) fun a hF => ?_
            refine wl (eL 100 13 0 (v := .agg #[.int .i64 y2_0, .int .i64 y2_1]) hF hM (by kernel_rfl) rfl rfl (by kernel_rfl) (by kernel_rfl) fun a w hF hM => ?_)
            refine wl (eM 101 (v := .tuple #[.int .i64 (dlV y2_0 y2_1 lsl), .int .i64 (dlE y2_0 y2_1 lsl)]) hF hM (by kernel_rfl) (yld_call (f := 21) (args := #[.slice A lsl.length c, .agg #[.int .i64 y2_0, .int .i64 y2_1]]) hF (by kernel_rfl) (fun _ => by kernel_rfl) (fun w hM => rDelay_w y2_0 y2_1 A lsl _ w (hM.ok 6 _ rfl))) fun a w hF hM => ?_)
            refine sB 5 [(98, .tuple #[.int .i64 (dlV y2_0 y2_1 lsl), .int .i64 (dlE y2_0 y2_1 lsl)]), (102, .int .i64 (dlV y2_0 y2_1 lsl)), (103, .int .i64 (dlE y2_0 y2_1 lsl)), (21, .int .i64 (dlV y2_0 y2_1 lsl)), (22, .int .i64 (dlE y2_0 y2_1 lsl))] hF (by kernel_rfl) fun a hF => ?_
            refine wpList_nil ?_
            refine hK28 _ _ ?_
            refine wp_seq_k fun K29 hK29 => ?_
            refine wp_region_lit ?_
            refine sB 2 [(104, .int .i64 (dlV y2_0 y2_1 lsl)), (105, .int .i64 (dlV y2_0 y2_1 lsl))] hF (by kernel_rfl) fun a hF => ?_
            refine wl (eP 106 (v0 := .bool (!decide (dlV y2_0 y2_1 lsl = dlV y2_0 y2_1 lsl))) (v := .bool false) hF (by kernel_rfl) (fun _ => by kernel_rfl) (nT (by omega)) fun a hF => ?_)
            refine sB 3 [(107, .bool false), (108, .int .i64 (dlE y2_0 y2_1 lsl)), (109, .int .i64 (dlE y2_0 y2_1 lsl))] hF (by kernel_rfl) fun a hF => ?_
            refine wl (eP 110 (v0 := .bool (!decide (dlE y2_0 y2_1 lsl = dlE y2_0 y2_1 lsl))) (v := .bool false) hF (by kernel_rfl) (fun _ => by kernel_rfl) (nT (by omega)) fun a hF => ?_)
            refine sB 1 [(111, .bool false)] hF (by kernel_rfl) fun a hF => ?_
            refine wpList_nil ?_
            refine hK29 _ _ ?_
            refine cF hF (by kernel_rfl) (by kernel_rfl) ?_
            refine wp_skip ?_
            refine hK25 _ _ ?_
            refine wp_region_lit ?_
            refine wl (eP 112 (v0 := .int .i64 (IntKind.i64.wrap ((kc1 : Int) + 1))) (v := .int .i64 ((kc1 : Int) + 1)) hF (by kernel_rfl) (fun _ => by kernel_rfl) (wi (by omega)) fun a hF => ?_)
            refine sB 1 [(89, .int .i64 ((kc1 : Int) + 1))] hF (by kernel_rfl) fun a hF => ?_
            refine wpList_nil ?_
            refine hK22 _ _ ⟨(kc1 + 1), ⟨(((((((((Fr.nil hF).c hF (i := 88) rfl rfl).c hF (i := 82) rfl rfl).c hF (i := 81) rfl rfl).c hF (i := 16) rfl rfl).c hF (i := 14) rfl rfl).c hF (i := 11) rfl rfl).c hF (i := 7) rfl rfl).c hF (i := 89) rfl (vi (show ((kc1 : Int) + 1 : Int) = ((kc1 + 1) : Int) from by omega))), (hM.sub (((((((((Sub.nil.c (k := 12) rfl rfl).c (k := 11) rfl rfl).c (k := 10) rfl rfl).c (k := 8) rfl rfl).c (k := 7) rfl rfl).c (k := 6) rfl rfl).c (k := 3) rfl rfl).c (k := 2) rfl rfl).c (k := 1) rfl rfl)), (show ((kc1 + 1) : Int) ≤ 3 from by omega)⟩, (show 3 - (kc1 + 1) < 3 - kc1 from by omega)⟩
          · skip
            replace hF := hF.c hF (i := 90) (v := .bool false) rfl (bF hz8)
            refine cF hF (by kernel_rfl) (by kernel_rfl) ?_
            refine wp_exit ?_
            refine hK19 _ _ ?_
            refine wp_region_lit ?_
            refine wl (eP 113 (v0 := .int .i64 (IntKind.i64.wrap (0 + 1))) (v := .int .i64 1) hF (by kernel_rfl) (fun _ => by kernel_rfl) (vi (by decide)) fun a hF => ?_)
            refine sB 1 [(82, .int .i64 1)] hF (by kernel_rfl) fun a hF => ?_
            refine wpList_nil ?_
            refine hK16 _ _ ?_
            refine rounds_k fun K30 hK30 => ?_
            refine wp_seq_k fun K31 hK31 => ?_
            refine wp_region_lit ?_
            refine wl (eP 83 (v0 := .bool (decide (1 < 4))) (v := .bool true) hF (by kernel_rfl) (fun _ => by kernel_rfl) (bT (by omega)) fun a hF => ?_)
            refine wpList_nil ?_
            refine hK31 _ _ ?_
            refine wp_seq_k fun K32 hK32 => ?_
            refine cT hF (by kernel_rfl) (by kernel_rfl) ?_
            refine wp_skip ?_
            refine hK32 _ _ ?_
            refine wp_seq_k fun K33 hK33 => ?_
            refine wp_block ?_
            refine wp_seq_k fun K34 hK34 => ?_
            refine wp_region_lit ?_
            refine sB 2 [(84, .slice G1 k c1), (16, .slice G1 k c1)] hF (by kernel_rfl) fun a hF => ?_
            refine wpList_nil ?_
            refine hK34 _ _ ?_
            refine wp_seq_k fun K35 hK35 => ?_
            refine wp_region_lit ?_
            refine wl (eL 85 3 0 (v := .agg #[.int .i64 sv0, .int .i64 sv1]) hF hM (by kernel_rfl) rfl rfl (by kernel_rfl) (by kernel_rfl) fun a w hF hM => ?_)
            refine wl (eL 86 7 0 (v := .agg #[.int .i64 (1 + n0 % 2097152), .int .i64 (n1 % 268435457)]) hF hM (by kernel_rfl) rfl rfl (by kernel_rfl) (by kernel_rfl) fun a w hF hM => ?_)
            refine wl (eL 87 10 0 (v := .agg #[.int .i64 (min 2097152 ((pr mm 0).2 + n1 % 3)), .int .i64 (n1 % 268435457)]) hF hM (by kernel_rfl) rfl rfl (by kernel_rfl) (by kernel_rfl) fun a w hF hM => ?_)
            refine sB 2 [(88, .agg #[.int .i64 sv0, .int .i64 sv1, .int .i64 (1 + n0 % 2097152), .int .i64 (n1 % 268435457), .int .i64 (min 2097152 ((pr mm 0).2 + n1 % 3)), .int .i64 (n1 % 268435457)]), (89, .int .i64 0)] hF (by kernel_rfl) fun a hF => ?_
            refine wpList_nil ?_
            refine hK35 _ _ ?_
            refine wp_block ?_
            refine wp_loop_k (G := Nat) (fun gg a w => Fr 115 [(89, some (.int .i64 (gg : Int))), (7, some (.pointer (some ⟨bb1, 0, none⟩))), (11, some (.pointer (some ⟨bb4, 0, none⟩))), (14, some (.pointer (some ⟨bb7, 0, none⟩))), (16, some (.slice G1 k c1)), (81, some (.agg #[.slice A lsl.length c, .slice G1 k c1, .slice AA9 (1 + k) cc9, .slice AA12 (k + lsl.length) cc12])), (82, some (.int .i64 1)), (88, some (.agg #[.int .i64 sv0, .int .i64 sv1, .int .i64 (1 + n0 % 2097152), .int .i64 (n1 % 268435457), .int .i64 (min 2097152 ((pr mm 0).2 + n1 % 3)), .int .i64 (n1 % 268435457)]))] a ∧ Mem w0.heap.size w0 [(1, some (.ro A (flat2 l))), (2, some (.ro Da (flat4 ds))), (3, some (.row bb1 23 #[.int .i64 sv0, .int .i64 sv1])), (6, some (.ro A (flat2 lsl))), (7, some (.row bb4 23 #[.int .i64 (1 + n0 % 2097152), .int .i64 (n1 % 268435457)])), (8, some (.own (.slice G1 k c1) 39 2 k (flat2 mm))), (10, some (.row bb7 23 #[.int .i64 (min 2097152 ((pr mm 0).2 + n1 % 3)), .int .i64 (n1 % 268435457)])), (11, some (.own (.slice AA9 (1 + k) cc9) 39 2 (1 + k) (flat2 (([(b0, b1)] : List (Int × Int)) ++ mm)))), (12, some (.own (.slice AA12 (k + lsl.length) cc12) 39 2 (k + lsl.length) (flat2 (mm ++ lsl))))] w ∧ ((gg : Int) ≤ 3)) (fun gg => 3 - gg) (0) ?_ ?_
            · refine ⟨(((((((((Fr.nil hF).c hF (i := 88) rfl rfl).c hF (i := 82) rfl rfl).c hF (i := 81) rfl rfl).c hF (i := 16) rfl rfl).c hF (i := 14) rfl rfl).c hF (i := 11) rfl rfl).c hF (i := 7) rfl rfl).c hF (i := 89) rfl (vi (show (0 : Int) = (0 : Int) from by omega))), (hM.sub (((((((((Sub.nil.c (k := 12) rfl rfl).c (k := 11) rfl rfl).c (k := 10) rfl rfl).c (k := 8) rfl rfl).c (k := 7) rfl rfl).c (k := 6) rfl rfl).c (k := 3) rfl rfl).c (k := 2) rfl rfl).c (k := 1) rfl rfl)), (show (0 : Int) ≤ 3 from by omega)⟩
            · intro gg a w hI
              intro K36 hK36
              obtain ⟨kc2, rfl⟩ : ∃ x, x = gg := ⟨_, rfl⟩
              try dsimp only at hI hK36
              obtain ⟨hF, hM, hz9⟩ := hI
              refine wp_seq_k fun K37 hK37 => ?_
              refine wp_region_lit ?_
              refine sB 1 [(90, .bool (decide ((kc2 : Int) < 3)))] hF (by kernel_rfl) fun a hF => ?_
              refine wpList_nil ?_
              refine hK37 _ _ ?_
              refine wp_seq_k fun K38 hK38 => ?_
              by_cases hz10 : (kc2 : Int) < 3
              · skip
                replace hF := hF.c hF (i := 90) (v := .bool true) rfl (bT hz10)
                refine cT hF (by kernel_rfl) (by kernel_rfl) ?_
                refine wp_skip ?_
                refine hK38 _ _ ?_
                refine wp_seq_k fun K39 hK39 => ?_
                refine wp_block ?_
                refine wp_seq_k fun K40 hK40 => ?_
                refine wp_region_lit ?_
                obtain ⟨ys4, hl4, hm4, hy4⟩ := idx_agg (P := Try.prog) (t := 45) (e := 23) (len := 3) (m := 2) (kd := .i64) [sv0, sv1, 1 + n0 % 2097152, n1 % 268435457, min 2097152 ((pr mm 0).2 + n1 % 3), n1 % 268435457] ((kc2 : Int)) (by kernel_rfl) (by kernel_rfl) (by omega) rfl
                obtain ⟨y4_0, y4_1, rfl⟩ := len2 hl4
                refine wl (eM 91 (v := .agg #[.int .i64 y4_0, .int .i64 y4_1]) hF hM (by kernel_rfl) (yld_index (X := .agg #[.int .i64 sv0, .int .i64 sv1, .int .i64 (1 + n0 % 2097152), .int .i64 (n1 % 268435457), .int .i64 (min 2097152 ((pr mm 0).2 + n1 % 3)), .int .i64 (n1 % 268435457)]) (I := .int .i64 ((kc2 : Int))) hF rfl (by kernel_rfl) (by kernel_rfl) (by kernel_rfl) (fun w => hy4 w)) fun a w hF hM => ?_)
                refine wl (eN 18 14 (t := 23) (fun b => .pointer (some ⟨b, 0, none⟩)) #[.int .i64 0, .int .i64 0] hF hM (by kernel_rfl) (fun _ => by kernel_rfl) fun bb14 a w hF hM => ?_)
                refine wl (sStore (i := 14) (off := 0) (cs' := #[.int .i64 y4_0, .int .i64 y4_1]) hF hM (by kernel_rfl) rfl rfl (by kernel_rfl) (by kernel_rfl) rfl (by kernel_rfl) fun w hM => ?_)
                refine wpList_nil ?_
                refine hK40 _ _ ?_
                refine wp_seq_k fun K41 hK41 => ?_
                refine wp_region_lit ?_
                refine sB 1 [(93, .slice G1 k c1)] hF (by kernel_rfl) fun a hF => ?_
                refine wl (eL 94 14 0 (v := .agg #[.int .i64 y4_0, .int .i64 y4_1]) hF hM (by kernel_rfl) rfl rfl (by kernel_rfl) (by kernel_rfl) fun a w hF hM => ?_)
                refine wl (eM 95 (v := .tuple #[.int .i64 (dlV y4_0 y4_1 mm), .int .i64 (dlE y4_0 y4_1 mm)]) hF hM (by kernel_rfl) (yld_call (f := 20) (args := #[.slice G1 k c1, .agg #[.int .i64 y4_0, .int .i64 y4_1]]) hF (by kernel_rfl) (fun _ => by kernel_rfl) (fun w hM => (by rw [show k = mm.length from by first | omega | (simp; done) | (simp; omega)]; exact delay_w y4_0 y4_1 G1 mm _ w (ro_of_own (hM.ok 8 _ rfl))))) fun a w hF hM => ?_)
                refine sB 5 [(92, .tuple #[.int .i64 (dlV y4_0 y4_1 mm), .int .i64 (dlE y4_0 y4_1 mm)]), (96, .int .i64 (dlV y4_0 y4_1 mm)), (97, .int .i64 (dlE y4_0 y4_1 mm)), (19, .int .i64 (dlV y4_0 y4_1 mm)), (20, .int .i64 (dlE y4_0 y4_1 mm))] hF (by kernel_rfl) fun a hF => ?_
                refine wpList_nil ?_
                refine hK41 _ _ ?_
                refine wp_seq_k fun K42 hK42 => ?_
                refine wp_region_lit ?_
                refine sB 1 [(99, .slice G1 k c1)] hF (by kernel_rfl) fun a hF => ?_
                refine wl (eL 100 14 0 (v := .agg #[.int .i64 y4_0, .int .i64 y4_1]) hF hM (by kernel_rfl) rfl rfl (by kernel_rfl) (by kernel_rfl) fun a w hF hM => ?_)
                refine wl (eM 101 (v := .tuple #[.int .i64 (dlV y4_0 y4_1 mm), .int .i64 (dlE y4_0 y4_1 mm)]) hF hM (by kernel_rfl) (yld_call (f := 21) (args := #[.slice G1 k c1, .agg #[.int .i64 y4_0, .int .i64 y4_1]]) hF (by kernel_rfl) (fun _ => by kernel_rfl) (fun w hM => (by rw [show k = mm.length from by first | omega | (simp; done) | (simp; omega)]; exact rDelay_w y4_0 y4_1 G1 mm _ w (ro_of_own (hM.ok 8 _ rfl))))) fun a w hF hM => ?_)
                refine sB 5 [(98, .tuple #[.int .i64 (dlV y4_0 y4_1 mm), .int .i64 (dlE y4_0 y4_1 mm)]), (102, .int .i64 (dlV y4_0 y4_1 mm)), (103, .int .i64 (dlE y4_0 y4_1 mm)), (21, .int .i64 (dlV y4_0 y4_1 mm)), (22, .int .i64 (dlE y4_0 y4_1 mm))] hF (by kernel_rfl) fun a hF => ?_
                refine wpList_nil ?_
                refine hK42 _ _ ?_
                refine wp_seq_k fun K43 hK43 => ?_
                refine wp_region_lit ?_
                refine sB 2 [(104, .int .i64 (dlV y4_0 y4_1 mm)), (105, .int .i64 (dlV y4_0 y4_1 mm))] hF (by kernel_rfl) fun a hF => ?_
                refine wl (eP 106 (v0 := .bool (!decide (dlV y4_0 y4_1 mm = dlV y4_0 y4_1 mm))) (v := .bool false) hF (by kernel_rfl) (fun _ => by kernel_rfl) (nT (by omega)) fun a hF => ?_)
                refine sB 3 [(107, .bool false), (108, .int .i64 (dlE y4_0 y4_1 mm)), (109, .int .i64 (dlE y4_0 y4_1 mm))] hF (by kernel_rfl) fun a hF => ?_
                refine wl (eP 110 (v0 := .bool (!decide (dlE y4_0 y4_1 mm = dlE y4_0 y4_1 mm))) (v := .bool false) hF (by kernel_rfl) (fun _ => by kernel_rfl) (nT (by omega)) fun a hF => ?_)
                refine sB 1 [(111, .bool false)] hF (by kernel_rfl) fun a hF => ?_
                refine wpList_nil ?_
                refine hK43 _ _ ?_
                refine cF hF (by kernel_rfl) (by kernel_rfl) ?_
                refine wp_skip ?_
                refine hK39 _ _ ?_
                refine wp_region_lit ?_
                refine wl (eP 112 (v0 := .int .i64 (IntKind.i64.wrap ((kc2 : Int) + 1))) (v := .int .i64 ((kc2 : Int) + 1)) hF (by kernel_rfl) (fun _ => by kernel_rfl) (wi (by omega)) fun a hF => ?_)
                refine sB 1 [(89, .int .i64 ((kc2 : Int) + 1))] hF (by kernel_rfl) fun a hF => ?_
                refine wpList_nil ?_
                refine hK36 _ _ ⟨(kc2 + 1), ⟨(((((((((Fr.nil hF).c hF (i := 88) rfl rfl).c hF (i := 82) rfl rfl).c hF (i := 81) rfl rfl).c hF (i := 16) rfl rfl).c hF (i := 14) rfl rfl).c hF (i := 11) rfl rfl).c hF (i := 7) rfl rfl).c hF (i := 89) rfl (vi (show ((kc2 : Int) + 1 : Int) = ((kc2 + 1) : Int) from by omega))), (hM.sub (((((((((Sub.nil.c (k := 12) rfl rfl).c (k := 11) rfl rfl).c (k := 10) rfl rfl).c (k := 8) rfl rfl).c (k := 7) rfl rfl).c (k := 6) rfl rfl).c (k := 3) rfl rfl).c (k := 2) rfl rfl).c (k := 1) rfl rfl)), (show ((kc2 + 1) : Int) ≤ 3 from by omega)⟩, (show 3 - (kc2 + 1) < 3 - kc2 from by omega)⟩
              · skip
                replace hF := hF.c hF (i := 90) (v := .bool false) rfl (bF hz10)
                refine cF hF (by kernel_rfl) (by kernel_rfl) ?_
                refine wp_exit ?_
                refine hK33 _ _ ?_
                refine wp_region_lit ?_
                refine wl (eP 113 (v0 := .int .i64 (IntKind.i64.wrap (1 + 1))) (v := .int .i64 2) hF (by kernel_rfl) (fun _ => by kernel_rfl) (vi (by decide)) fun a hF => ?_)
                refine sB 1 [(82, .int .i64 2)] hF (by kernel_rfl) fun a hF => ?_
                refine wpList_nil ?_
                refine hK30 _ _ ?_
                refine rounds_k fun K44 hK44 => ?_
                refine wp_seq_k fun K45 hK45 => ?_
                refine wp_region_lit ?_
                refine wl (eP 83 (v0 := .bool (decide (2 < 4))) (v := .bool true) hF (by kernel_rfl) (fun _ => by kernel_rfl) (bT (by omega)) fun a hF => ?_)
                refine wpList_nil ?_
                refine hK45 _ _ ?_
                refine wp_seq_k fun K46 hK46 => ?_
                refine cT hF (by kernel_rfl) (by kernel_rfl) ?_
                refine wp_skip ?_
                refine hK46 _ _ ?_
                refine wp_seq_k fun K47 hK47 => ?_
                refine wp_block ?_
                refine wp_seq_k fun K48 hK48 => ?_
                refine wp_region_lit ?_
                refine sB 2 [(84, .slice AA9 (1 + k) cc9), (16, .slice AA9 (1 + k) cc9)] hF (by kernel_rfl) fun a hF => ?_
                refine wpList_nil ?_
                refine hK48 _ _ ?_
                refine wp_seq_k fun K49 hK49 => ?_
                refine wp_region_lit ?_
                refine wl (eL 85 3 0 (v := .agg #[.int .i64 sv0, .int .i64 sv1]) hF hM (by kernel_rfl) rfl rfl (by kernel_rfl) (by kernel_rfl) fun a w hF hM => ?_)
                refine wl (eL 86 7 0 (v := .agg #[.int .i64 (1 + n0 % 2097152), .int .i64 (n1 % 268435457)]) hF hM (by kernel_rfl) rfl rfl (by kernel_rfl) (by kernel_rfl) fun a w hF hM => ?_)
                refine wl (eL 87 10 0 (v := .agg #[.int .i64 (min 2097152 ((pr mm 0).2 + n1 % 3)), .int .i64 (n1 % 268435457)]) hF hM (by kernel_rfl) rfl rfl (by kernel_rfl) (by kernel_rfl) fun a w hF hM => ?_)
                refine sB 2 [(88, .agg #[.int .i64 sv0, .int .i64 sv1, .int .i64 (1 + n0 % 2097152), .int .i64 (n1 % 268435457), .int .i64 (min 2097152 ((pr mm 0).2 + n1 % 3)), .int .i64 (n1 % 268435457)]), (89, .int .i64 0)] hF (by kernel_rfl) fun a hF => ?_
                refine wpList_nil ?_
                refine hK49 _ _ ?_
                refine wp_block ?_
                refine wp_loop_k (G := Nat) (fun gg a w => Fr 115 [(89, some (.int .i64 (gg : Int))), (7, some (.pointer (some ⟨bb1, 0, none⟩))), (11, some (.pointer (some ⟨bb4, 0, none⟩))), (14, some (.pointer (some ⟨bb7, 0, none⟩))), (16, some (.slice AA9 (1 + k) cc9)), (81, some (.agg #[.slice A lsl.length c, .slice G1 k c1, .slice AA9 (1 + k) cc9, .slice AA12 (k + lsl.length) cc12])), (82, some (.int .i64 2)), (88, some (.agg #[.int .i64 sv0, .int .i64 sv1, .int .i64 (1 + n0 % 2097152), .int .i64 (n1 % 268435457), .int .i64 (min 2097152 ((pr mm 0).2 + n1 % 3)), .int .i64 (n1 % 268435457)]))] a ∧ Mem w0.heap.size w0 [(1, some (.ro A (flat2 l))), (2, some (.ro Da (flat4 ds))), (3, some (.row bb1 23 #[.int .i64 sv0, .int .i64 sv1])), (6, some (.ro A (flat2 lsl))), (7, some (.row bb4 23 #[.int .i64 (1 + n0 % 2097152), .int .i64 (n1 % 268435457)])), (8, some (.own (.slice G1 k c1) 39 2 k (flat2 mm))), (10, some (.row bb7 23 #[.int .i64 (min 2097152 ((pr mm 0).2 + n1 % 3)), .int .i64 (n1 % 268435457)])), (11, some (.own (.slice AA9 (1 + k) cc9) 39 2 (1 + k) (flat2 (([(b0, b1)] : List (Int × Int)) ++ mm)))), (12, some (.own (.slice AA12 (k + lsl.length) cc12) 39 2 (k + lsl.length) (flat2 (mm ++ lsl))))] w ∧ ((gg : Int) ≤ 3)) (fun gg => 3 - gg) (0) ?_ ?_
                · refine ⟨(((((((((Fr.nil hF).c hF (i := 88) rfl rfl).c hF (i := 82) rfl rfl).c hF (i := 81) rfl rfl).c hF (i := 16) rfl rfl).c hF (i := 14) rfl rfl).c hF (i := 11) rfl rfl).c hF (i := 7) rfl rfl).c hF (i := 89) rfl (vi (show (0 : Int) = (0 : Int) from by omega))), (hM.sub (((((((((Sub.nil.c (k := 12) rfl rfl).c (k := 11) rfl rfl).c (k := 10) rfl rfl).c (k := 8) rfl rfl).c (k := 7) rfl rfl).c (k := 6) rfl rfl).c (k := 3) rfl rfl).c (k := 2) rfl rfl).c (k := 1) rfl rfl)), (show (0 : Int) ≤ 3 from by omega)⟩
                · intro gg a w hI
                  intro K50 hK50
                  obtain ⟨kc3, rfl⟩ : ∃ x, x = gg := ⟨_, rfl⟩
                  try dsimp only at hI hK50
                  obtain ⟨hF, hM, hz11⟩ := hI
                  refine wp_seq_k fun K51 hK51 => ?_
                  refine wp_region_lit ?_
                  refine sB 1 [(90, .bool (decide ((kc3 : Int) < 3)))] hF (by kernel_rfl) fun a hF => ?_
                  refine wpList_nil ?_
                  refine hK51 _ _ ?_
                  refine wp_seq_k fun K52 hK52 => ?_
                  by_cases hz12 : (kc3 : Int) < 3
                  · skip
                    replace hF := hF.c hF (i := 90) (v := .bool true) rfl (bT hz12)
                    refine cT hF (by kernel_rfl) (by kernel_rfl) ?_
                    refine wp_skip ?_
                    refine hK52 _ _ ?_
                    refine wp_seq_k fun K53 hK53 => ?_
                    refine wp_block ?_
                    refine wp_seq_k fun K54 hK54 => ?_
                    refine wp_region_lit ?_
                    obtain ⟨ys6, hl6, hm6, hy6⟩ := idx_agg (P := Try.prog) (t := 45) (e := 23) (len := 3) (m := 2) (kd := .i64) [sv0, sv1, 1 + n0 % 2097152, n1 % 268435457, min 2097152 ((pr mm 0).2 + n1 % 3), n1 % 268435457] ((kc3 : Int)) (by kernel_rfl) (by kernel_rfl) (by omega) rfl
                    obtain ⟨y6_0, y6_1, rfl⟩ := len2 hl6
                    refine wl (eM 91 (v := .agg #[.int .i64 y6_0, .int .i64 y6_1]) hF hM (by kernel_rfl) (yld_index (X := .agg #[.int .i64 sv0, .int .i64 sv1, .int .i64 (1 + n0 % 2097152), .int .i64 (n1 % 268435457), .int .i64 (min 2097152 ((pr mm 0).2 + n1 % 3)), .int .i64 (n1 % 268435457)]) (I := .int .i64 ((kc3 : Int))) hF rfl (by kernel_rfl) (by kernel_rfl) (by kernel_rfl) (fun w => hy6 w)) fun a w hF hM => ?_)
                    refine wl (eN 18 15 (t := 23) (fun b => .pointer (some ⟨b, 0, none⟩)) #[.int .i64 0, .int .i64 0] hF hM (by kernel_rfl) (fun _ => by kernel_rfl) fun bb15 a w hF hM => ?_)
                    refine wl (sStore (i := 15) (off := 0) (cs' := #[.int .i64 y6_0, .int .i64 y6_1]) hF hM (by kernel_rfl) rfl rfl (by kernel_rfl) (by kernel_rfl) rfl (by kernel_rfl) fun w hM => ?_)
                    refine wpList_nil ?_
                    refine hK54 _ _ ?_
                    refine wp_seq_k fun K55 hK55 => ?_
                    refine wp_region_lit ?_
                    refine sB 1 [(93, .slice AA9 (1 + k) cc9)] hF (by kernel_rfl) fun a hF => ?_
                    refine wl (eL 94 15 0 (v := .agg #[.int .i64 y6_0, .int .i64 y6_1]) hF hM (by kernel_rfl) rfl rfl (by kernel_rfl) (by kernel_rfl) fun a w hF hM => ?_)
                    refine wl (eM 95 (v := .tuple #[.int .i64 (dlV y6_0 y6_1 (([(b0, b1)] : List (Int × Int)) ++ mm)), .int .i64 (dlE y6_0 y6_1 (([(b0, b1)] : List (Int × Int)) ++ mm))]) hF hM (by kernel_rfl) (yld_call (f := 20) (args := #[.slice AA9 (1 + k) cc9, .agg #[.int .i64 y6_0, .int .i64 y6_1]]) hF (by kernel_rfl) (fun _ => by kernel_rfl) (fun w hM => (by rw [show 1 + k = (([(b0, b1)] : List (Int × Int)) ++ mm).length from by first | omega | (simp; done) | (simp; omega)]; exact delay_w y6_0 y6_1 AA9 (([(b0, b1)] : List (Int × Int)) ++ mm) _ w (ro_of_own (hM.ok 11 _ rfl))))) fun a w hF hM => ?_)
                    refine sB 5 [(92, .tuple #[.int .i64 (dlV y6_0 y6_1 (([(b0, b1)] : List (Int × Int)) ++ mm)), .int .i64 (dlE y6_0 y6_1 (([(b0, b1)] : List (Int × Int)) ++ mm))]), (96, .int .i64 (dlV y6_0 y6_1 (([(b0, b1)] : List (Int × Int)) ++ mm))), (97, .int .i64 (dlE y6_0 y6_1 (([(b0, b1)] : List (Int × Int)) ++ mm))), (19, .int .i64 (dlV y6_0 y6_1 (([(b0, b1)] : List (Int × Int)) ++ mm))), (20, .int .i64 (dlE y6_0 y6_1 (([(b0, b1)] : List (Int × Int)) ++ mm)))] hF (by kernel_rfl) fun a hF => ?_
                    refine wpList_nil ?_
                    refine hK55 _ _ ?_
                    refine wp_seq_k fun K56 hK56 => ?_
                    refine wp_region_lit ?_
                    refine sB 1 [(99, .slice AA9 (1 + k) cc9)] hF (by kernel_rfl) fun a hF => ?_
                    refine wl (eL 100 15 0 (v := .agg #[.int .i64 y6_0, .int .i64 y6_1]) hF hM (by kernel_rfl) rfl rfl (by kernel_rfl) (by kernel_rfl) fun a w hF hM => ?_)
                    refine wl (eM 101 (v := .tuple #[.int .i64 (dlV y6_0 y6_1 (([(b0, b1)] : List (Int × Int)) ++ mm)), .int .i64 (dlE y6_0 y6_1 (([(b0, b1)] : List (Int × Int)) ++ mm))]) hF hM (by kernel_rfl) (yld_call (f := 21) (args := #[.slice AA9 (1 + k) cc9, .agg #[.int .i64 y6_0, .int .i64 y6_1]]) hF (by kernel_rfl) (fun _ => by kernel_rfl) (fun w hM => (by rw [show 1 + k = (([(b0, b1)] : List (Int × Int)) ++ mm).length from by first | omega | (simp; done) | (simp; omega)]; exact rDelay_w y6_0 y6_1 AA9 (([(b0, b1)] : List (Int × Int)) ++ mm) _ w (ro_of_own (hM.ok 11 _ rfl))))) fun a w hF hM => ?_)
                    refine sB 5 [(98, .tuple #[.int .i64 (dlV y6_0 y6_1 (([(b0, b1)] : List (Int × Int)) ++ mm)), .int .i64 (dlE y6_0 y6_1 (([(b0, b1)] : List (Int × Int)) ++ mm))]), (102, .int .i64 (dlV y6_0 y6_1 (([(b0, b1)] : List (Int × Int)) ++ mm))), (103, .int .i64 (dlE y6_0 y6_1 (([(b0, b1)] : List (Int × Int)) ++ mm))), (21, .int .i64 (dlV y6_0 y6_1 (([(b0, b1)] : List (Int × Int)) ++ mm))), (22, .int .i64 (dlE y6_0 y6_1 (([(b0, b1)] : List (Int × Int)) ++ mm)))] hF (by kernel_rfl) fun a hF => ?_
                    refine wpList_nil ?_
                    refine hK56 _ _ ?_
                    refine wp_seq_k fun K57 hK57 => ?_
                    refine wp_region_lit ?_
                    refine sB 2 [(104, .int .i64 (dlV y6_0 y6_1 (([(b0, b1)] : List (Int × Int)) ++ mm))), (105, .int .i64 (dlV y6_0 y6_1 (([(b0, b1)] : List (Int × Int)) ++ mm)))] hF (by kernel_rfl) fun a hF => ?_
                    refine wl (eP 106 (v0 := .bool (!decide (dlV y6_0 y6_1 (([(b0, b1)] : List (Int × Int)) ++ mm) = dlV y6_0 y6_1 (([(b0, b1)] : List (Int × Int)) ++ mm)))) (v := .bool false) hF (by kernel_rfl) (fun _ => by kernel_rfl) (nT (by omega)) fun a hF => ?_)
                    refine sB 3 [(107, .bool false), (108, .int .i64 (dlE y6_0 y6_1 (([(b0, b1)] : List (Int × Int)) ++ mm))), (109, .int .i64 (dlE y6_0 y6_1 (([(b0, b1)] : List (Int × Int)) ++ mm)))] hF (by kernel_rfl) fun a hF => ?_
                    refine wl (eP 110 (v0 := .bool (!decide (dlE y6_0 y6_1 (([(b0, b1)] : List (Int × Int)) ++ mm) = dlE y6_0 y6_1 (([(b0, b1)] : List (Int × Int)) ++ mm)))) (v := .bool false) hF (by kernel_rfl) (fun _ => by kernel_rfl) (nT (by omega)) fun a hF => ?_)
                    refine sB 1 [(111, .bool false)] hF (by kernel_rfl) fun a hF => ?_
                    refine wpList_nil ?_
                    refine hK57 _ _ ?_
                    refine cF hF (by kernel_rfl) (by kernel_rfl) ?_
                    refine wp_skip ?_
                    refine hK53 _ _ ?_
                    refine wp_region_lit ?_
                    refine wl (eP 112 (v0 := .int .i64 (IntKind.i64.wrap ((kc3 : Int) + 1))) (v := .int .i64 ((kc3 : Int) + 1)) hF (by kernel_rfl) (fun _ => by kernel_rfl) (wi (by omega)) fun a hF => ?_)
                    refine sB 1 [(89, .int .i64 ((kc3 : Int) + 1))] hF (by kernel_rfl) fun a hF => ?_
                    refine wpList_nil ?_
                    refine hK50 _ _ ⟨(kc3 + 1), ⟨(((((((((Fr.nil hF).c hF (i := 88) rfl rfl).c hF (i := 82) rfl rfl).c hF (i := 81) rfl rfl).c hF (i := 16) rfl rfl).c hF (i := 14) rfl rfl).c hF (i := 11) rfl rfl).c hF (i := 7) rfl rfl).c hF (i := 89) rfl (vi (show ((kc3 : Int) + 1 : Int) = ((kc3 + 1) : Int) from by omega))), (hM.sub (((((((((Sub.nil.c (k := 12) rfl rfl).c (k := 11) rfl rfl).c (k := 10) rfl rfl).c (k := 8) rfl rfl).c (k := 7) rfl rfl).c (k := 6) rfl rfl).c (k := 3) rfl rfl).c (k := 2) rfl rfl).c (k := 1) rfl rfl)), (show ((kc3 + 1) : Int) ≤ 3 from by omega)⟩, (show 3 - (kc3 + 1) < 3 - kc3 from by omega)⟩
                  · skip
                    replace hF := hF.c hF (i := 90) (v := .bool false) rfl (bF hz12)
                    refine cF hF (by kernel_rfl) (by kernel_rfl) ?_
                    refine wp_exit ?_
                    refine hK47 _ _ ?_
                    refine wp_region_lit ?_
                    refine wl (eP 113 (v0 := .int .i64 (IntKind.i64.wrap (2 + 1))) (v := .int .i64 3) hF (by kernel_rfl) (fun _ => by kernel_rfl) (vi (by decide)) fun a hF => ?_)
                    refine sB 1 [(82, .int .i64 3)] hF (by kernel_rfl) fun a hF => ?_
                    refine wpList_nil ?_
                    refine hK44 _ _ ?_
                    refine rounds_k fun K58 hK58 => ?_
                    refine wp_seq_k fun K59 hK59 => ?_
                    refine wp_region_lit ?_
                    refine wl (eP 83 (v0 := .bool (decide (3 < 4))) (v := .bool true) hF (by kernel_rfl) (fun _ => by kernel_rfl) (bT (by omega)) fun a hF => ?_)
                    refine wpList_nil ?_
                    refine hK59 _ _ ?_
                    refine wp_seq_k fun K60 hK60 => ?_
                    refine cT hF (by kernel_rfl) (by kernel_rfl) ?_
                    refine wp_skip ?_
                    refine hK60 _ _ ?_
                    refine wp_seq_k fun K61 hK61 => ?_
                    refine wp_block ?_
                    refine wp_seq_k fun K62 hK62 => ?_
                    refine wp_region_lit ?_
                    refine sB 2 [(84, .slice AA12 (k + lsl.length) cc12), (16, .slice AA12 (k + lsl.length) cc12)] hF (by kernel_rfl) fun a hF => ?_
                    refine wpList_nil ?_
                    refine hK62 _ _ ?_
                    refine wp_seq_k fun K63 hK63 => ?_
                    refine wp_region_lit ?_
                    refine wl (eL 85 3 0 (v := .agg #[.int .i64 sv0, .int .i64 sv1]) hF hM (by kernel_rfl) rfl rfl (by kernel_rfl) (by kernel_rfl) fun a w hF hM => ?_)
                    refine wl (eL 86 7 0 (v := .agg #[.int .i64 (1 + n0 % 2097152), .int .i64 (n1 % 268435457)]) hF hM (by kernel_rfl) rfl rfl (by kernel_rfl) (by kernel_rfl) fun a w hF hM => ?_)
                    refine wl (eL 87 10 0 (v := .agg #[.int .i64 (min 2097152 ((pr mm 0).2 + n1 % 3)), .int .i64 (n1 % 268435457)]) hF hM (by kernel_rfl) rfl rfl (by kernel_rfl) (by kernel_rfl) fun a w hF hM => ?_)
                    refine sB 2 [(88, .agg #[.int .i64 sv0, .int .i64 sv1, .int .i64 (1 + n0 % 2097152), .int .i64 (n1 % 268435457), .int .i64 (min 2097152 ((pr mm 0).2 + n1 % 3)), .int .i64 (n1 % 268435457)]), (89, .int .i64 0)] hF (by kernel_rfl) fun a hF => ?_
                    refine wpList_nil ?_
                    refine hK63 _ _ ?_
                    refine wp_block ?_
                    refine wp_loop_k (G := Nat) (fun gg a w => Fr 115 [(89, some (.int .i64 (gg : Int))), (7, some (.pointer (some ⟨bb1, 0, none⟩))), (11, some (.pointer (some ⟨bb4, 0, none⟩))), (14, some (.pointer (some ⟨bb7, 0, none⟩))), (16, some (.slice AA12 (k + lsl.length) cc12)), (81, some (.agg #[.slice A lsl.length c, .slice G1 k c1, .slice AA9 (1 + k) cc9, .slice AA12 (k + lsl.length) cc12])), (82, some (.int .i64 3)), (88, some (.agg #[.int .i64 sv0, .int .i64 sv1, .int .i64 (1 + n0 % 2097152), .int .i64 (n1 % 268435457), .int .i64 (min 2097152 ((pr mm 0).2 + n1 % 3)), .int .i64 (n1 % 268435457)]))] a ∧ Mem w0.heap.size w0 [(1, some (.ro A (flat2 l))), (2, some (.ro Da (flat4 ds))), (3, some (.row bb1 23 #[.int .i64 sv0, .int .i64 sv1])), (6, some (.ro A (flat2 lsl))), (7, some (.row bb4 23 #[.int .i64 (1 + n0 % 2097152), .int .i64 (n1 % 268435457)])), (8, some (.own (.slice G1 k c1) 39 2 k (flat2 mm))), (10, some (.row bb7 23 #[.int .i64 (min 2097152 ((pr mm 0).2 + n1 % 3)), .int .i64 (n1 % 268435457)])), (11, some (.own (.slice AA9 (1 + k) cc9) 39 2 (1 + k) (flat2 (([(b0, b1)] : List (Int × Int)) ++ mm)))), (12, some (.own (.slice AA12 (k + lsl.length) cc12) 39 2 (k + lsl.length) (flat2 (mm ++ lsl))))] w ∧ ((gg : Int) ≤ 3)) (fun gg => 3 - gg) (0) ?_ ?_
                    · refine ⟨(((((((((Fr.nil hF).c hF (i := 88) rfl rfl).c hF (i := 82) rfl rfl).c hF (i := 81) rfl rfl).c hF (i := 16) rfl rfl).c hF (i := 14) rfl rfl).c hF (i := 11) rfl rfl).c hF (i := 7) rfl rfl).c hF (i := 89) rfl (vi (show (0 : Int) = (0 : Int) from by omega))), (hM.sub (((((((((Sub.nil.c (k := 12) rfl rfl).c (k := 11) rfl rfl).c (k := 10) rfl rfl).c (k := 8) rfl rfl).c (k := 7) rfl rfl).c (k := 6) rfl rfl).c (k := 3) rfl rfl).c (k := 2) rfl rfl).c (k := 1) rfl rfl)), (show (0 : Int) ≤ 3 from by omega)⟩
                    · intro gg a w hI
                      intro K64 hK64
                      obtain ⟨kc4, rfl⟩ : ∃ x, x = gg := ⟨_, rfl⟩
                      try dsimp only at hI hK64
                      obtain ⟨hF, hM, hz13⟩ := hI
                      refine wp_seq_k fun K65 hK65 => ?_
                      refine wp_region_lit ?_
                      refine sB 1 [(90, .bool (decide ((kc4 : Int) < 3)))] hF (by kernel_rfl) fun a hF => ?_
                      refine wpList_nil ?_
                      refine hK65 _ _ ?_
                      refine wp_seq_k fun K66 hK66 => ?_
                      by_cases hz14 : (kc4 : Int) < 3
                      · skip
                        replace hF := hF.c hF (i := 90) (v := .bool true) rfl (bT hz14)
                        refine cT hF (by kernel_rfl) (by kernel_rfl) ?_
                        refine wp_skip ?_
                        refine hK66 _ _ ?_
                        refine wp_seq_k fun K67 hK67 => ?_
                        refine wp_block ?_
                        refine wp_seq_k fun K68 hK68 => ?_
                        refine wp_region_lit ?_
                        obtain ⟨ys8, hl8, hm8, hy8⟩ := idx_agg (P := Try.prog) (t := 45) (e := 23) (len := 3) (m := 2) (kd := .i64) [sv0, sv1, 1 + n0 % 2097152, n1 % 268435457, min 2097152 ((pr mm 0).2 + n1 % 3), n1 % 268435457] ((kc4 : Int)) (by kernel_rfl) (by kernel_rfl) (by omega) rfl
                        obtain ⟨y8_0, y8_1, rfl⟩ := len2 hl8
                        refine wl (eM 91 (v := .agg #[.int .i64 y8_0, .int .i64 y8_1]) hF hM (by kernel_rfl) (yld_index (X := .agg #[.int .i64 sv0, .int .i64 sv1, .int .i64 (1 + n0 % 2097152), .int .i64 (n1 % 268435457), .int .i64 (min 2097152 ((pr mm 0).2 + n1 % 3)), .int .i64 (n1 % 268435457)]) (I := .int .i64 ((kc4 : Int))) hF rfl (by kernel_rfl) (by kernel_rfl) (by kernel_rfl) (fun w => hy8 w)) fun a w hF hM => ?_)
                        refine wl (eN 18 16 (t := 23) (fun b => .pointer (some ⟨b, 0, none⟩)) #[.int .i64 0, .int .i64 0] hF hM (by kernel_rfl) (fun _ => by kernel_rfl) fun bb16 a w hF hM => ?_)
                        refine wl (sStore (i := 16) (off := 0) (cs' := #[.int .i64 y8_0, .int .i64 y8_1]) hF hM (by kernel_rfl) rfl rfl (by kernel_rfl) (by kernel_rfl) rfl (by kernel_rfl) fun w hM => ?_)
                        refine wpList_nil ?_
                        refine hK68 _ _ ?_
                        refine wp_seq_k fun K69 hK69 => ?_
                        refine wp_region_lit ?_
                        refine sB 1 [(93, .slice AA12 (k + lsl.length) cc12)] hF (by kernel_rfl) fun a hF => ?_
                        refine wl (eL 94 16 0 (v := .agg #[.int .i64 y8_0, .int .i64 y8_1]) hF hM (by kernel_rfl) rfl rfl (by kernel_rfl) (by kernel_rfl) fun a w hF hM => ?_)
                        refine wl (eM 95 (v := .tuple #[.int .i64 (dlV y8_0 y8_1 (mm ++ lsl)), .int .i64 (dlE y8_0 y8_1 (mm ++ lsl))]) hF hM (by kernel_rfl) (yld_call (f := 20) (args := #[.slice AA12 (k + lsl.length) cc12, .agg #[.int .i64 y8_0, .int .i64 y8_1]]) hF (by kernel_rfl) (fun _ => by kernel_rfl) (fun w hM => (by rw [show k + lsl.length = (mm ++ lsl).length from by first | omega | (simp; done) | (simp; omega)]; exact delay_w y8_0 y8_1 AA12 (mm ++ lsl) _ w (ro_of_own (hM.ok 12 _ rfl))))) fun a w hF hM => ?_)
                        refine sB 5 [(92, .tuple #[.int .i64 (dlV y8_0 y8_1 (mm ++ lsl)), .int .i64 (dlE y8_0 y8_1 (mm ++ lsl))]), (96, .int .i64 (dlV y8_0 y8_1 (mm ++ lsl))), (97, .int .i64 (dlE y8_0 y8_1 (mm ++ lsl))), (19, .int .i64 (dlV y8_0 y8_1 (mm ++ lsl))), (20, .int .i64 (dlE y8_0 y8_1 (mm ++ lsl)))] hF (by kernel_rfl) fun a hF => ?_
                        refine wpList_nil ?_
                        refine hK69 _ _ ?_
                        refine wp_seq_k fun K70 hK70 => ?_
                        refine wp_region_lit ?_
                        refine sB 1 [(99, .slice AA12 (k + lsl.length) cc12)] hF (by kernel_rfl) fun a hF => ?_
                        refine wl (eL 100 16 0 (v := .agg #[.int .i64 y8_0, .int .i64 y8_1]) hF hM (by kernel_rfl) rfl rfl (by kernel_rfl) (by kernel_rfl) fun a w hF hM => ?_)
                        refine wl (eM 101 (v := .tuple #[.int .i64 (dlV y8_0 y8_1 (mm ++ lsl)), .int .i64 (dlE y8_0 y8_1 (mm ++ lsl))]) hF hM (by kernel_rfl) (yld_call (f := 21) (args := #[.slice AA12 (k + lsl.length) cc12, .agg #[.int .i64 y8_0, .int .i64 y8_1]]) hF (by kernel_rfl) (fun _ => by kernel_rfl) (fun w hM => (by rw [show k + lsl.length = (mm ++ lsl).length from by first | omega | (simp; done) | (simp; omega)]; exact rDelay_w y8_0 y8_1 AA12 (mm ++ lsl) _ w (ro_of_own (hM.ok 12 _ rfl))))) fun a w hF hM => ?_)
                        refine sB 5 [(98, .tuple #[.int .i64 (dlV y8_0 y8_1 (mm ++ lsl)), .int .i64 (dlE y8_0 y8_1 (mm ++ lsl))]), (102, .int .i64 (dlV y8_0 y8_1 (mm ++ lsl))), (103, .int .i64 (dlE y8_0 y8_1 (mm ++ lsl))), (21, .int .i64 (dlV y8_0 y8_1 (mm ++ lsl))), (22, .int .i64 (dlE y8_0 y8_1 (mm ++ lsl)))] hF (by kernel_rfl) fun a hF => ?_
                        refine wpList_nil ?_
                        refine hK70 _ _ ?_
                        refine wp_seq_k fun K71 hK71 => ?_
                        refine wp_region_lit ?_
                        refine sB 2 [(104, .int .i64 (dlV y8_0 y8_1 (mm ++ lsl))), (105, .int .i64 (dlV y8_0 y8_1 (mm ++ lsl)))] hF (by kernel_rfl) fun a hF => ?_
                        refine wl (eP 106 (v0 := .bool (!decide (dlV y8_0 y8_1 (mm ++ lsl) = dlV y8_0 y8_1 (mm ++ lsl)))) (v := .bool false) hF (by kernel_rfl) (fun _ => by kernel_rfl) (nT (by omega)) fun a hF => ?_)
                        refine sB 3 [(107, .bool false), (108, .int .i64 (dlE y8_0 y8_1 (mm ++ lsl))), (109, .int .i64 (dlE y8_0 y8_1 (mm ++ lsl)))] hF (by kernel_rfl) fun a hF => ?_
                        refine wl (eP 110 (v0 := .bool (!decide (dlE y8_0 y8_1 (mm ++ lsl) = dlE y8_0 y8_1 (mm ++ lsl)))) (v := .bool false) hF (by kernel_rfl) (fun _ => by kernel_rfl) (nT (by omega)) fun a hF => ?_)
                        refine sB 1 [(111, .bool false)] hF (by kernel_rfl) fun a hF => ?_
                        refine wpList_nil ?_
                        refine hK71 _ _ ?_
                        refine cF hF (by kernel_rfl) (by kernel_rfl) ?_
                        refine wp_skip ?_
                        refine hK67 _ _ ?_
                        refine wp_region_lit ?_
                        refine wl (eP 112 (v0 := .int .i64 (IntKind.i64.wrap ((kc4 : Int) + 1))) (v := .int .i64 ((kc4 : Int) + 1)) hF (by kernel_rfl) (fun _ => by kernel_rfl) (wi (by omega)) fun a hF => ?_)
                        refine sB 1 [(89, .int .i64 ((kc4 : Int) + 1))] hF (by kernel_rfl) fun a hF => ?_
                        refine wpList_nil ?_
                        refine hK64 _ _ ⟨(kc4 + 1), ⟨(((((((((Fr.nil hF).c hF (i := 88) rfl rfl).c hF (i := 82) rfl rfl).c hF (i := 81) rfl rfl).c hF (i := 16) rfl rfl).c hF (i := 14) rfl rfl).c hF (i := 11) rfl rfl).c hF (i := 7) rfl rfl).c hF (i := 89) rfl (vi (show ((kc4 : Int) + 1 : Int) = ((kc4 + 1) : Int) from by omega))), (hM.sub (((((((((Sub.nil.c (k := 12) rfl rfl).c (k := 11) rfl rfl).c (k := 10) rfl rfl).c (k := 8) rfl rfl).c (k := 7) rfl rfl).c (k := 6) rfl rfl).c (k := 3) rfl rfl).c (k := 2) rfl rfl).c (k := 1) rfl rfl)), (show ((kc4 + 1) : Int) ≤ 3 from by omega)⟩, (show 3 - (kc4 + 1) < 3 - kc4 from by omega)⟩
                      · skip
                        replace hF := hF.c hF (i := 90) (v := .bool false) rfl (bF hz14)
                        refine cF hF (by kernel_rfl) (by kernel_rfl) ?_
                        refine wp_exit ?_
                        refine hK61 _ _ ?_
                        refine wp_region_lit ?_
                        refine wl (eP 113 (v0 := .int .i64 (IntKind.i64.wrap (3 + 1))) (v := .int .i64 4) hF (by kernel_rfl) (fun _ => by kernel_rfl) (vi (by decide)) fun a hF => ?_)
                        refine sB 1 [(82, .int .i64 4)] hF (by kernel_rfl) fun a hF => ?_
                        refine wpList_nil ?_
                        refine hK58 _ _ ?_
                        refine rounds_k fun K72 hK72 => ?_
                        refine wp_seq_k fun K73 hK73 => ?_
                        refine wp_region_lit ?_
                        refine wl (eP 83 (v0 := .bool (decide (4 < 4))) (v := .bool false) hF (by kernel_rfl) (fun _ => by kernel_rfl) (bF (by omega)) fun a hF => ?_)
                        refine wpList_nil ?_
                        refine hK73 _ _ ?_
                        refine wp_seq_k fun K74 hK74 => ?_
                        refine cF hF (by kernel_rfl) (by kernel_rfl) ?_
                        refine wp_exit ?_
                        refine hK14 _ _ ?_
                        refine wp_seq_k fun K75 hK75 => ?_
                        refine wp_region_lit ?_
                        refine wl (eM 114 (v := .bool true) hF hM (by kernel_rfl) (yld_call (f := 18) (args := #[]) hF (by kernel_rfl) (fun _ => by kernel_rfl) (fun w hM => works4_w w)) fun a w hF hM => ?_)
                        refine sB 1 [(10, .bool true)] hF (by kernel_rfl) fun a hF => ?_
                        refine wpList_nil ?_
                        refine hK75 _ _ ?_
                        refine wp_ret ?_
                        refine hR0 _ _ ?_
                        refine ret_of hF hM (.tmp rfl (.nil)) ?_
                        exact ⟨rfl, hM.bel⟩
    · skip
      refine wp_region_lit ?_
      refine sB 3 [(33, .int .i64 (k : Int)), (34, .slice Da ds.length cd), (35, .int .i64 (ds.length : Int))] hF (by kernel_rfl) fun a hF => ?_
      refine wl (eP 36 (v0 := .bool (decide ((k : Int) < (ds.length : Int)))) (v := .bool false) hF (by kernel_rfl) (fun _ => by kernel_rfl) (bF hz5) fun a hF => ?_)
      refine sB 4 [(37, .bool false), (38, undef), (39, undef), (40, .bool false)] hF (by kernel_rfl) fun a hF => ?_
      refine wpList_nil ?_
      refine hK9 _ _ ?_
      refine cF hF (by kernel_rfl) (by kernel_rfl) ?_
      refine wp_exit ?_
      refine hK5 _ _ ?_
      refine wp_seq_k fun K76 hK76 => ?_
      refine wp_region_lit ?_
      refine sB 1 [(51, .pointer (some ⟨bb4, 0, none⟩))] hF (by kernel_rfl) fun a hF => ?_
      refine wl (eL 52 7 0 (v := .int .i64 (1 + n0 % 2097152)) hF hM (by kernel_rfl) rfl rfl (by kernel_rfl) (by kernel_rfl) fun a w hF hM => ?_)
      refine sB 1 [(53, .pointer (some ⟨bb4, 1, none⟩))] hF (by kernel_rfl) fun a hF => ?_
      refine wl (eL 54 7 1 (v := .int .i64 (n1 % 268435457)) hF hM (by kernel_rfl) rfl rfl (by kernel_rfl) (by kernel_rfl) fun a w hF hM => ?_)
      refine sB 1 [(55, .agg #[.int .i64 (1 + n0 % 2097152), .int .i64 (n1 % 268435457)])] hF (by kernel_rfl) fun a hF => ?_
      refine wl (eN 14 17 (t := 23) (fun b => .pointer (some ⟨b, 0, none⟩)) #[.int .i64 0, .int .i64 0] hF hM (by kernel_rfl) (fun _ => by kernel_rfl) fun bb17 a w hF hM => ?_)
      refine wl (sStore (i := 17) (off := 0) (cs' := #[.int .i64 (1 + n0 % 2097152), .int .i64 (n1 % 268435457)]) hF hM (by kernel_rfl) rfl rfl (by kernel_rfl) (by kernel_rfl) rfl (by kernel_rfl) fun w hM => ?_)
      refine wpList_nil ?_
      refine hK76 _ _ ?_
      refine wp_seq_k fun K77 hK77 => ?_
      refine wp_seq_k fun K78 hK78 => ?_
      refine wp_region_lit ?_
      refine sB 3 [(56, .slice G1 k c1), (57, .int .i64 (k : Int)), (58, .bool (decide (0 < (k : Int))))] hF (by kernel_rfl) fun a hF => ?_
      refine wpList_nil ?_
      refine hK78 _ _ ?_
      by_cases hz15 : 0 < (k : Int)
      · skip
        replace hF := hF.c hF (i := 58) (v := .bool true) rfl (bT hz15)
        refine cT hF (by kernel_rfl) (by kernel_rfl) ?_
        have hr0 := hrt 0 (by omega)
        refine rT 11 (by kernel_rfl) (by kernel_rfl) hM.drew ?_
        refine eQ 59 (v0 := .slice G1 k c1) (v := .slice G1 k c1) hF (by kernel_rfl) (fun _ => by kernel_rfl) rfl fun a hF => ?_
        refine eQ2 60 (v := .pointer (some (ea G1 (0 * 2)))) hF (by kernel_rfl) (yld_ix (kd := .i64) (e := 39) (len := k) (cap := c1) (i := 0) (size := 2) (A := G1) hF rfl (by kernel_rfl) (by kernel_rfl) (by kernel_rfl) (by kernel_rfl) (by kernel_rfl) (roO 8 rfl) (by omega) (by omega) (by rw [flat2_length]; omega)) fun a hF => ?_
        refine eQ 61 (v0 := .pointer (some (ea G1 (0 * 2 + 1)))) (v := .pointer (some (ea G1 (0 * 2 + 1)))) hF (by kernel_rfl) (fun _ => by kernel_rfl) rfl fun a hF => ?_
        refine eQ2 62 (v := .int .i64 (pr mm 0).2) hF (by kernel_rfl) (yld_ro1 (A := G1) (j := 0 * 2 + 1) hF rfl (by kernel_rfl) (by kernel_rfl) (roO 8 rfl) (by kernel_rfl) (pr_snd (k := 0) (by omega) (by omega))) fun a hF => ?_
        refine eQ 63 (v0 := .pointer (some ⟨bb2, 1, none⟩)) (v := .pointer (some ⟨bb2, 1, none⟩)) hF (by kernel_rfl) (fun _ => by kernel_rfl) rfl fun a hF => ?_
        refine eQL 64 4 1 (v := .int .u32 n1) hF (by kernel_rfl) rfl rfl (by kernel_rfl) (by kernel_rfl) fun a hF => ?_
        refine eQ2 65 (v := .int .u32 (n1 % 3)) hF (by kernel_rfl) (yld_rem n1 3 hF rfl (by kernel_rfl) (by kernel_rfl) (by kernel_rfl) (by decide) (Int.tmod_eq_emod_of_nonneg (by omega))) fun a hF => ?_
        refine eQ 66 (v0 := .int .i64 (IntKind.i64.wrap (n1 % 3))) (v := .int .i64 (n1 % 3)) hF (by kernel_rfl) (fun _ => by kernel_rfl) (vi (IntWalk.i64_in _ (by omega))) fun a hF => ?_
        refine eQ 67 (v0 := .int .i64 (IntKind.i64.wrap ((pr mm 0).2 + n1 % 3))) (v := .int .i64 ((pr mm 0).2 + n1 % 3)) hF (by kernel_rfl) (fun _ => by kernel_rfl) (wi (by omega)) fun a hF => ?_
        refine eQ 68 (v0 := .int .i64 (if (pr mm 0).2 + n1 % 3 < 2097152 then (pr mm 0).2 + n1 % 3 else 2097152)) (v := .int .i64 (min 2097152 ((pr mm 0).2 + n1 % 3))) hF (by kernel_rfl) (fun _ => by kernel_rfl) (vi (min_if _ _)) fun a hF => ?_
        refine eQ 69 (v0 := .pointer (some ⟨bb17, 0, none⟩)) (v := .pointer (some ⟨bb17, 0, none⟩)) hF (by kernel_rfl) (fun _ => by kernel_rfl) rfl fun a hF => ?_
        refine wpQuiet_nil ?_
        intro w hM
        refine wl (sStore (i := 17) (off := 0) (cs' := #[.int .i64 (min 2097152 ((pr mm 0).2 + n1 % 3)), .int .i64 (n1 % 268435457)]) hF hM (by kernel_rfl) rfl rfl (by kernel_rfl) (by kernel_rfl) rfl (by kernel_rfl) fun w hM => ?_)
        refine wpList_nil ?_
        refine hK77 _ _ ?_
        refine wp_seq_k fun K79 hK79 => ?_
        refine wp_seq_k fun K80 hK80 => ?_
        refine wp_region_lit ?_
        refine sB 2 [(70, .slice A lsl.length c), (71, .slice G1 k c1)] hF (by kernel_rfl) fun a hF => ?_
        refine wl (eL 72 5 0 (v := .agg #[.int .i64 b0, .int .i64 b1]) hF hM (by kernel_rfl) rfl rfl (by kernel_rfl) (by kernel_rfl) fun a w hF hM => ?_)
        refine wl (eN 73 18 (t := 39) (fun b => .slice (some ⟨b, 0, none⟩) 1 1) #[.int .i64 b0, .int .i64 b1] hF hM (by kernel_rfl) (fun _ => by kernel_rfl) fun bb18 a w hF hM => ?_)
        refine sB 1 [(74, .slice G1 k c1)] hF (by kernel_rfl) fun a hF => ?_
        refine wl (sAppR 75 18 (e := 39) (size := 2) (bytes := 16) (z := .agg #[.int .i64 0, .int .i64 0]) (m := k) (c := c1) (l := 1) (news := (flat2 mm)) (flat2 (([(b0, b1)] : List (Int × Int)) ++ mm)) hF hM (by kernel_rfl) rfl (by kernel_rfl) (by kernel_rfl) (by kernel_rfl) rfl rfl rfl rfl (by first | exact flat2_length _ | (rw [flat2_length]; omega)) (roO 8 rfl) (flat2_one _) (by omega) (by decide) (flat2_append ([(b0, b1)] : List (Int × Int)) mm).symm (own_nil hM (k := 8) rfl) fun AA19 cc19 a w hF hM => ?_)
        refine wl (eN 76 19 (t := 39) (fun b => .slice (some ⟨b, 0, none⟩) 0 0) #[] hF hM (by kernel_rfl) (fun _ => by kernel_rfl) fun bb20 a w hF hM => ?_)
        refine sB 1 [(77, .slice G1 k c1)] hF (by kernel_rfl) fun a hF => ?_
        refine wl (sAppR0 78 19 (e := 39) (size := 2) (bytes := 16) (z := .agg #[.int .i64 0, .int .i64 0]) (m := k) (c := c1) (news := (flat2 mm)) (flat2 mm) hF hM (by kernel_rfl) rfl (by kernel_rfl) (by kernel_rfl) (by kernel_rfl) rfl rfl rfl (by first | exact flat2_length _ | (rw [flat2_length]; omega)) (roO 8 rfl) (flat2_one _) (by omega) (by decide) rfl (own_nil hM (k := 8) rfl) fun AA21 cc21 a w hF hM => ?_)
        refine sB 1 [(79, .slice A lsl.length c)] hF (by kernel_rfl) fun a hF => ?_
        refine wl (sAppA 80 19 (e := 39) (size := 2) (bytes := 16) (z := .agg #[.int .i64 0, .int .i64 0]) (m := lsl.length) (c := c) (l := k) (cap := cc21) (A := AA21) (news := (flat2 lsl)) (flat2 (mm ++ lsl)) hF hM (by kernel_rfl) rfl (by kernel_rfl) (by kernel_rfl) (by kernel_rfl) rfl rfl rfl (by first | exact flat2_length _ | (rw [flat2_length]; omega)) (roK 6 rfl) (flat2_one _) (by omega) (by decide) (flat2_append _ _).symm (fun h => by have := hln h; omega) fun AA22 cc22 a w hF hM => ?_)
        refine sB 2 [(81, .agg #[.slice A lsl.length c, .slice G1 k c1, .slice AA19 (1 + k) cc19, .slice AA22 (k + lsl.length) cc22]), (82, .int .i64 0)] hF (by kernel_rfl) fun a hF => ?_
        refine wpList_nil ?_
        refine hK80 _ _ ?_
        refine wp_block ?_
        refine wp_loop_rounds 5 ?_
        refine rounds_k fun K81 hK81 => ?_
        refine wp_seq_k fun K82 hK82 => ?_
        refine wp_region_lit ?_
        refine wl (eP 83 (v0 := .bool (decide (0 < 4))) (v := .bool true) hF (by kernel_rfl) (fun _ => by kernel_rfl) (bT (by omega)) fun a hF => ?_)
        refine wpList_nil ?_
        refine hK82 _ _ ?_
        refine wp_seq_k fun K83 hK83 => ?_
        refine cT hF (by kernel_rfl) (by kernel_rfl) ?_
        refine wp_skip ?_
        refine hK83 _ _ ?_
        refine wp_seq_k fun K84 hK84 => ?_
        refine wp_block ?_
        refine wp_seq_k fun K85 hK85 => ?_
        refine wp_region_lit ?_
        refine sB 2 [(84, .slice A lsl.length c), (16, .slice A lsl.length c)] hF (by kernel_rfl) fun a hF => ?_
        refine wpList_nil ?_
        refine hK85 _ _ ?_
        refine wp_seq_k fun K86 hK86 => ?_
        refine wp_region_lit ?_
        refine wl (eL 85 3 0 (v := .agg #[.int .i64 sv0, .int .i64 sv1]) hF hM (by kernel_rfl) rfl rfl (by kernel_rfl) (by kernel_rfl) fun a w hF hM => ?_)
        refine wl (eL 86 7 0 (v := .agg #[.int .i64 (1 + n0 % 2097152), .int .i64 (n1 % 268435457)]) hF hM (by kernel_rfl) rfl rfl (by kernel_rfl) (by kernel_rfl) fun a w hF hM => ?_)
        refine wl (eL 87 17 0 (v := .agg #[.int .i64 (min 2097152 ((pr mm 0).2 + n1 % 3)), .int .i64 (n1 % 268435457)]) hF hM (by kernel_rfl) rfl rfl (by kernel_rfl) (by kernel_rfl) fun a w hF hM => ?_)
        refine sB 2 [(88, .agg #[.int .i64 sv0, .int .i64 sv1, .int .i64 (1 + n0 % 2097152), .int .i64 (n1 % 268435457), .int .i64 (min 2097152 ((pr mm 0).2 + n1 % 3)), .int .i64 (n1 % 268435457)]), (89, .int .i64 0)] hF (by kernel_rfl) fun a hF => ?_
        refine wpList_nil ?_
        refine hK86 _ _ ?_
        refine wp_block ?_
        refine wp_loop_k (G := Nat) (fun gg a w => Fr 115 [(89, some (.int .i64 (gg : Int))), (7, some (.pointer (some ⟨bb1, 0, none⟩))), (11, some (.pointer (some ⟨bb4, 0, none⟩))), (14, some (.pointer (some ⟨bb17, 0, none⟩))), (16, some (.slice A lsl.length c)), (81, some (.agg #[.slice A lsl.length c, .slice G1 k c1, .slice AA19 (1 + k) cc19, .slice AA22 (k + lsl.length) cc22])), (82, some (.int .i64 0)), (88, some (.agg #[.int .i64 sv0, .int .i64 sv1, .int .i64 (1 + n0 % 2097152), .int .i64 (n1 % 268435457), .int .i64 (min 2097152 ((pr mm 0).2 + n1 % 3)), .int .i64 (n1 % 268435457)]))] a ∧ Mem w0.heap.size w0 [(1, some (.ro A (flat2 l))), (2, some (.ro Da (flat4 ds))), (3, some (.row bb1 23 #[.int .i64 sv0, .int .i64 sv1])), (6, some (.ro A (flat2 lsl))), (7, some (.row bb4 23 #[.int .i64 (1 + n0 % 2097152), .int .i64 (n1 % 268435457)])), (8, some (.own (.slice G1 k c1) 39 2 k (flat2 mm))), (17, some (.row bb17 23 #[.int .i64 (min 2097152 ((pr mm 0).2 + n1 % 3)), .int .i64 (n1 % 268435457)])), (18, some (.own (.slice AA19 (1 + k) cc19) 39 2 (1 + k) (flat2 (([(b0, b1)] : List (Int × Int)) ++ mm)))), (19, some (.own (.slice AA22 (k + lsl.length) cc22) 39 2 (k + lsl.length) (flat2 (mm ++ lsl))))] w ∧ ((gg : Int) ≤ 3)) (fun gg => 3 - gg) (0) ?_ ?_
        · refine ⟨(((((((((Fr.nil hF).c hF (i := 88) rfl rfl).c hF (i := 82) rfl rfl).c hF (i := 81) rfl rfl).c hF (i := 16) rfl rfl).c hF (i := 14) rfl rfl).c hF (i := 11) rfl rfl).c hF (i := 7) rfl rfl).c hF (i := 89) rfl (vi (show (0 : Int) = (0 : Int) from by omega))), (hM.sub (((((((((Sub.nil.c (k := 19) rfl rfl).c (k := 18) rfl rfl).c (k := 17) rfl rfl).c (k := 8) rfl rfl).c (k := 7) rfl rfl).c (k := 6) rfl rfl).c (k := 3) rfl rfl).c (k := 2) rfl rfl).c (k := 1) rfl rfl)), (show (0 : Int) ≤ 3 from by omega)⟩
        · intro gg a w hI
          intro K87 hK87
          obtain ⟨kc5, rfl⟩ : ∃ x, x = gg := ⟨_, rfl⟩
          try dsimp only at hI hK87
          obtain ⟨hF, hM, hz16⟩ := hI
          refine wp_seq_k fun K88 hK88 => ?_
          refine wp_region_lit ?_
          refine sB 1 [(90, .bool (decide ((kc5 : Int) < 3)))] hF (by kernel_rfl) fun a hF => ?_
          refine wpList_nil ?_
          refine hK88 _ _ ?_
          refine wp_seq_k fun K89 hK89 => ?_
          by_cases hz17 : (kc5 : Int) < 3
          · skip
            replace hF := hF.c hF (i := 90) (v := .bool true) rfl (bT hz17)
            refine cT hF (by kernel_rfl) (by kernel_rfl) ?_
            refine wp_skip ?_
            refine hK89 _ _ ?_
            refine wp_seq_k fun K90 hK90 => ?_
            refine wp_block ?_
            refine wp_seq_k fun K91 hK91 => ?_
            refine wp_region_lit ?_
            obtain ⟨ys10, hl10, hm10, hy10⟩ := idx_agg (P := Try.prog) (t := 45) (e := 23) (len := 3) (m := 2) (kd := .i64) [sv0, sv1, 1 + n0 % 2097152, n1 % 268435457, min 2097152 ((pr mm 0).2 + n1 % 3), n1 % 268435457] ((kc5 : Int)) (by kernel_rfl) (by kernel_rfl) (by omega) rfl
            obtain ⟨y10_0, y10_1, rfl⟩ := len2 hl10
            refine wl (eM 91 (v := .agg #[.int .i64 y10_0, .int .i64 y10_1]) hF hM (by kernel_rfl) (yld_index (X := .agg #[.int .i64 sv0, .int .i64 sv1, .int .i64 (1 + n0 % 2097152), .int .i64 (n1 % 268435457), .int .i64 (min 2097152 ((pr mm 0).2 + n1 % 3)), .int .i64 (n1 % 268435457)]) (I := .int .i64 ((kc5 : Int))) hF rfl (by kernel_rfl) (by kernel_rfl) (by kernel_rfl) (fun w => hy10 w)) fun a w hF hM => ?_)
            refine wl (eN 18 20 (t := 23) (fun b => .pointer (some ⟨b, 0, none⟩)) #[.int .i64 0, .int .i64 0] hF hM (by kernel_rfl) (fun _ => by kernel_rfl) fun bb23 a w hF hM => ?_)
            refine wl (sStore (i := 20) (off := 0) (cs' := #[.int .i64 y10_0, .int .i64 y10_1]) hF hM (by kernel_rfl) rfl rfl (by kernel_rfl) (by kernel_rfl) rfl (by kernel_rfl) fun w hM => ?_)
            refine wpList_nil ?_
            refine hK91 _ _ ?_
            refine wp_seq_k fun K92 hK92 => ?_
            refine wp_region_lit ?_
            refine sB 1 [(93, .slice A lsl.length c)] hF (by kernel_rfl) fun a hF => ?_
            refine wl (eL 94 20 0 (v := .agg #[.int .i64 y10_0, .int .i64 y10_1]) hF hM (by kernel_rfl) rfl rfl (by kernel_rfl) (by kernel_rfl) fun a w hF hM => ?_)
            refine wl (eM 95 (v := .tuple #[.int .i64 (dlV y10_0 y10_1 lsl), .int .i64 (dlE y10_0 y10_1 lsl)]) hF hM (by kernel_rfl) (yld_call (f := 20) (args := #[.slice A lsl.length c, .agg #[.int .i64 y10_0, .int .i64 y10_1]]) hF (by kernel_rfl) (fun _ => by kernel_rfl) (fun w hM => delay_w y10_0 y10_1 A lsl _ w (hM.ok 6 _ rfl))) fun a w hF hM => ?_)
            refine sB 5 [(92, .tuple #[.int .i64 (dlV y10_0 y10_1 lsl), .int .i64 (dlE y10_0 y10_1 lsl)]), (96, .int .i64 (dlV y10_0 y10_1 lsl)), (97, .int .i64 (dlE y10_0 y10_1 lsl)), (19, .int .i64 (dlV y10_0 y10_1 lsl)), (20, .int .i64 (dlE y10_0 y10_1 lsl))] hF (by kernel_rfl) fun a hF => ?_
            refine wpList_nil ?_
            refine hK92 _ _ ?_
            refine wp_seq_k fun K93 hK93 => ?_
            refine wp_region_lit ?_
            refine sB 1 [(99, .slice A lsl.length c)] hF (by kernel_rfl) fun a hF => ?_
            refine wl (eL 100 20 0 (v := .agg #[.int .i64 y10_0, .int .i64 y10_1]) hF hM (by kernel_rfl) rfl rfl (by kernel_rfl) (by kernel_rfl) fun a w hF hM => ?_)
            refine wl (eM 101 (v := .tuple #[.int .i64 (dlV y10_0 y10_1 lsl), .int .i64 (dlE y10_0 y10_1 lsl)]) hF hM (by kernel_rfl) (yld_call (f := 21) (args := #[.slice A lsl.length c, .agg #[.int .i64 y10_0, .int .i64 y10_1]]) hF (by kernel_rfl) (fun _ => by kernel_rfl) (fun w hM => rDelay_w y10_0 y10_1 A lsl _ w (hM.ok 6 _ rfl))) fun a w hF hM => ?_)
            refine sB 5 [(98, .tuple #[.int .i64 (dlV y10_0 y10_1 lsl), .int .i64 (dlE y10_0 y10_1 lsl)]), (102, .int .i64 (dlV y10_0 y10_1 lsl)), (103, .int .i64 (dlE y10_0 y10_1 lsl)), (21, .int .i64 (dlV y10_0 y10_1 lsl)), (22, .int .i64 (dlE y10_0 y10_1 lsl))] hF (by kernel_rfl) fun a hF => ?_
            refine wpList_nil ?_
            refine hK93 _ _ ?_
            refine wp_seq_k fun K94 hK94 => ?_
            refine wp_region_lit ?_
            refine sB 2 [(104, .int .i64 (dlV y10_0 y10_1 lsl)), (105, .int .i64 (dlV y10_0 y10_1 lsl))] hF (by kernel_rfl) fun a hF => ?_
            refine wl (eP 106 (v0 := .bool (!decide (dlV y10_0 y10_1 lsl = dlV y10_0 y10_1 lsl))) (v := .bool false) hF (by kernel_rfl) (fun _ => by kernel_rfl) (nT (by omega)) fun a hF => ?_)
            refine sB 3 [(107, .bool false), (108, .int .i64 (dlE y10_0 y10_1 lsl)), (109, .int .i64 (dlE y10_0 y10_1 lsl))] hF (by kernel_rfl) fun a hF => ?_
            refine wl (eP 110 (v0 := .bool (!decide (dlE y10_0 y10_1 lsl = dlE y10_0 y10_1 lsl))) (v := .bool false) hF (by kernel_rfl) (fun _ => by kernel_rfl) (nT (by omega)) fun a hF => ?_)
            refine sB 1 [(111, .bool false)] hF (by kernel_rfl) fun a hF => ?_
            refine wpList_nil ?_
            refine hK94 _ _ ?_
            refine cF hF (by kernel_rfl) (by kernel_rfl) ?_
            refine wp_skip ?_
            refine hK90 _ _ ?_
            refine wp_region_lit ?_
            refine wl (eP 112 (v0 := .int .i64 (IntKind.i64.wrap ((kc5 : Int) + 1))) (v := .int .i64 ((kc5 : Int) + 1)) hF (by kernel_rfl) (fun _ => by kernel_rfl) (wi (by omega)) fun a hF => ?_)
            refine sB 1 [(89, .int .i64 ((kc5 : Int) + 1))] hF (by kernel_rfl) fun a hF => ?_
            refine wpList_nil ?_
            refine hK87 _ _ ⟨(kc5 + 1), ⟨(((((((((Fr.nil hF).c hF (i := 88) rfl rfl).c hF (i := 82) rfl rfl).c hF (i := 81) rfl rfl).c hF (i := 16) rfl rfl).c hF (i := 14) rfl rfl).c hF (i := 11) rfl rfl).c hF (i := 7) rfl rfl).c hF (i := 89) rfl (vi (show ((kc5 : Int) + 1 : Int) = ((kc5 + 1) : Int) from by omega))), (hM.sub (((((((((Sub.nil.c (k := 19) rfl rfl).c (k := 18) rfl rfl).c (k := 17) rfl rfl).c (k := 8) rfl rfl).c (k := 7) rfl rfl).c (k := 6) rfl rfl).c (k := 3) rfl rfl).c (k := 2) rfl rfl).c (k := 1) rfl rfl)), (show ((kc5 + 1) : Int) ≤ 3 from by omega)⟩, (show 3 - (kc5 + 1) < 3 - kc5 from by omega)⟩
          · skip
            replace hF := hF.c hF (i := 90) (v := .bool false) rfl (bF hz17)
            refine cF hF (by kernel_rfl) (by kernel_rfl) ?_
            refine wp_exit ?_
            refine hK84 _ _ ?_
            refine wp_region_lit ?_
            refine wl (eP 113 (v0 := .int .i64 (IntKind.i64.wrap (0 + 1))) (v := .int .i64 1) hF (by kernel_rfl) (fun _ => by kernel_rfl) (vi (by decide)) fun a hF => ?_)
            refine sB 1 [(82, .int .i64 1)] hF (by kernel_rfl) fun a hF => ?_
            refine wpList_nil ?_
            refine hK81 _ _ ?_
            refine rounds_k fun K95 hK95 => ?_
            refine wp_seq_k fun K96 hK96 => ?_
            refine wp_region_lit ?_
            refine wl (eP 83 (v0 := .bool (decide (1 < 4))) (v := .bool true) hF (by kernel_rfl) (fun _ => by kernel_rfl) (bT (by omega)) fun a hF => ?_)
            refine wpList_nil ?_
            refine hK96 _ _ ?_
            refine wp_seq_k fun K97 hK97 => ?_
            refine cT hF (by kernel_rfl) (by kernel_rfl) ?_
            refine wp_skip ?_
            refine hK97 _ _ ?_
            refine wp_seq_k fun K98 hK98 => ?_
            refine wp_block ?_
            refine wp_seq_k fun K99 hK99 => ?_
            refine wp_region_lit ?_
            refine sB 2 [(84, .slice G1 k c1), (16, .slice G1 k c1)] hF (by kernel_rfl) fun a hF => ?_
            refine wpList_nil ?_
            refine hK99 _ _ ?_
            refine wp_seq_k fun K100 hK100 => ?_
            refine wp_region_lit ?_
            refine wl (eL 85 3 0 (v := .agg #[.int .i64 sv0, .int .i64 sv1]) hF hM (by kernel_rfl) rfl rfl (by kernel_rfl) (by kernel_rfl) fun a w hF hM => ?_)
            refine wl (eL 86 7 0 (v := .agg #[.int .i64 (1 + n0 % 2097152), .int .i64 (n1 % 268435457)]) hF hM (by kernel_rfl) rfl rfl (by kernel_rfl) (by kernel_rfl) fun a w hF hM => ?_)
            refine wl (eL 87 17 0 (v := .agg #[.int .i64 (min 2097152 ((pr mm 0).2 + n1 % 3)), .int .i64 (n1 % 268435457)]) hF hM (by kernel_rfl) rfl rfl (by kernel_rfl) (by kernel_rfl) fun a w hF hM => ?_)
            refine sB 2 [(88, .agg #[.int .i64 sv0, .int .i64 sv1, .int .i64 (1 + n0 % 2097152), .int .i64 (n1 % 268435457), .int .i64 (min 2097152 ((pr mm 0).2 + n1 % 3)), .int .i64 (n1 % 268435457)]), (89, .int .i64 0)] hF (by kernel_rfl) fun a hF => ?_
            refine wpList_nil ?_
            refine hK100 _ _ ?_
            refine wp_block ?_
            refine wp_loop_k (G := Nat) (fun gg a w => Fr 115 [(89, some (.int .i64 (gg : Int))), (7, some (.pointer (some ⟨bb1, 0, none⟩))), (11, some (.pointer (some ⟨bb4, 0, none⟩))), (14, some (.pointer (some ⟨bb17, 0, none⟩))), (16, some (.slice G1 k c1)), (81, some (.agg #[.slice A lsl.length c, .slice G1 k c1, .slice AA19 (1 + k) cc19, .slice AA22 (k + lsl.length) cc22])), (82, some (.int .i64 1)), (88, some (.agg #[.int .i64 sv0, .int .i64 sv1, .int .i64 (1 + n0 % 2097152), .int .i64 (n1 % 268435457), .int .i64 (min 2097152 ((pr mm 0).2 + n1 % 3)), .int .i64 (n1 % 268435457)]))] a ∧ Mem w0.heap.size w0 [(1, some (.ro A (flat2 l))), (2, some (.ro Da (flat4 ds))), (3, some (.row bb1 23 #[.int .i64 sv0, .int .i64 sv1])), (6, some (.ro A (flat2 lsl))), (7, some (.row bb4 23 #[.int .i64 (1 + n0 % 2097152), .int .i64 (n1 % 268435457)])), (8, some (.own (.slice G1 k c1) 39 2 k (flat2 mm))), (17, some (.row bb17 23 #[.int .i64 (min 2097152 ((pr mm 0).2 + n1 % 3)), .int .i64 (n1 % 268435457)])), (18, some (.own (.slice AA19 (1 + k) cc19) 39 2 (1 + k) (flat2 (([(b0, b1)] : List (Int × Int)) ++ mm)))), (19, some (.own (.slice AA22 (k + lsl.length) cc22) 39 2 (k + lsl.length) (flat2 (mm ++ lsl))))] w ∧ ((gg : Int) ≤ 3)) (fun gg => 3 - gg) (0) ?_ ?_
            · refine ⟨(((((((((Fr.nil hF).c hF (i := 88) rfl rfl).c hF (i := 82) rfl rfl).c hF (i := 81) rfl rfl).c hF (i := 16) rfl rfl).c hF (i := 14) rfl rfl).c hF (i := 11) rfl rfl).c hF (i := 7) rfl rfl).c hF (i := 89) rfl (vi (show (0 : Int) = (0 : Int) from by omega))), (hM.sub (((((((((Sub.nil.c (k := 19) rfl rfl).c (k := 18) rfl rfl).c (k := 17) rfl rfl).c (k := 8) rfl rfl).c (k := 7) rfl rfl).c (k := 6) rfl rfl).c (k := 3) rfl rfl).c (k := 2) rfl rfl).c (k := 1) rfl rfl)), (show (0 : Int) ≤ 3 from by omega)⟩
            · intro gg a w hI
              intro K101 hK101
              obtain ⟨kc6, rfl⟩ : ∃ x, x = gg := ⟨_, rfl⟩
              try dsimp only at hI hK101
              obtain ⟨hF, hM, hz18⟩ := hI
              refine wp_seq_k fun K102 hK102 => ?_
              refine wp_region_lit ?_
              refine sB 1 [(90, .bool (decide ((kc6 : Int) < 3)))] hF (by kernel_rfl) fun a hF => ?_
              refine wpList_nil ?_
              refine hK102 _ _ ?_
              refine wp_seq_k fun K103 hK103 => ?_
              by_cases hz19 : (kc6 : Int) < 3
              · skip
                replace hF := hF.c hF (i := 90) (v := .bool true) rfl (bT hz19)
                refine cT hF (by kernel_rfl) (by kernel_rfl) ?_
                refine wp_skip ?_
                refine hK103 _ _ ?_
                refine wp_seq_k fun K104 hK104 => ?_
                refine wp_block ?_
                refine wp_seq_k fun K105 hK105 => ?_
                refine wp_region_lit ?_
                obtain ⟨ys12, hl12, hm12, hy12⟩ := idx_agg (P := Try.prog) (t := 45) (e := 23) (len := 3) (m := 2) (kd := .i64) [sv0, sv1, 1 + n0 % 2097152, n1 % 268435457, min 2097152 ((pr mm 0).2 + n1 % 3), n1 % 268435457] ((kc6 : Int)) (by kernel_rfl) (by kernel_rfl) (by omega) rfl
                obtain ⟨y12_0, y12_1, rfl⟩ := len2 hl12
                refine wl (eM 91 (v := .agg #[.int .i64 y12_0, .int .i64 y12_1]) hF hM (by kernel_rfl) (yld_index (X := .agg #[.int .i64 sv0, .int .i64 sv1, .int .i64 (1 + n0 % 2097152), .int .i64 (n1 % 268435457), .int .i64 (min 2097152 ((pr mm 0).2 + n1 % 3)), .int .i64 (n1 % 268435457)]) (I := .int .i64 ((kc6 : Int))) hF rfl (by kernel_rfl) (by kernel_rfl) (by kernel_rfl) (fun w => hy12 w)) fun a w hF hM => ?_)
                refine wl (eN 18 21 (t := 23) (fun b => .pointer (some ⟨b, 0, none⟩)) #[.int .i64 0, .int .i64 0] hF hM (by kernel_rfl) (fun _ => by kernel_rfl) fun bb24 a w hF hM => ?_)
                refine wl (sStore (i := 21) (off := 0) (cs' := #[.int .i64 y12_0, .int .i64 y12_1]) hF hM (by kernel_rfl) rfl rfl (by kernel_rfl) (by kernel_rfl) rfl (by kernel_rfl) fun w hM => ?_)
                refine wpList_nil ?_
                refine hK105 _ _ ?_
                refine wp_seq_k fun K106 hK106 => ?_
                refine wp_region_lit ?_
                refine sB 1 [(93, .slice G1 k c1)] hF (by kernel_rfl) fun a hF => ?_
                refine wl (eL 94 21 0 (v := .agg #[.int .i64 y12_0, .int .i64 y12_1]) hF hM (by kernel_rfl) rfl rfl (by kernel_rfl) (by kernel_rfl) fun a w hF hM => ?_)
                refine wl (eM 95 (v := .tuple #[.int .i64 (dlV y12_0 y12_1 mm), .int .i64 (dlE y12_0 y12_1 mm)]) hF hM (by kernel_rfl) (yld_call (f := 20) (args := #[.slice G1 k c1, .agg #[.int .i64 y12_0, .int .i64 y12_1]]) hF (by kernel_rfl) (fun _ => by kernel_rfl) (fun w hM => (by rw [show k = mm.length from by first | omega | (simp; done) | (simp; omega)]; exact delay_w y12_0 y12_1 G1 mm _ w (ro_of_own (hM.ok 8 _ rfl))))) fun a w hF hM => ?_)
                refine sB 5 [(92, .tuple #[.int .i64 (dlV y12_0 y12_1 mm), .int .i64 (dlE y12_0 y12_1 mm)]), (96, .int .i64 (dlV y12_0 y12_1 mm)), (97, .int .i64 (dlE y12_0 y12_1 mm)), (19, .int .i64 (dlV y12_0 y12_1 mm)), (20, .int .i64 (dlE y12_0 y12_1 mm))] hF (by kernel_rfl) fun a hF => ?_
                refine wpList_nil ?_
                refine hK106 _ _ ?_
                refine wp_seq_k fun K107 hK107 => ?_
                refine wp_region_lit ?_
                refine sB 1 [(99, .slice G1 k c1)] hF (by kernel_rfl) fun a hF => ?_
                refine wl (eL 100 21 0 (v := .agg #[.int .i64 y12_0, .int .i64 y12_1]) hF hM (by kernel_rfl) rfl rfl (by kernel_rfl) (by kernel_rfl) fun a w hF hM => ?_)
                refine wl (eM 101 (v := .tuple #[.int .i64 (dlV y12_0 y12_1 mm), .int .i64 (dlE y12_0 y12_1 mm)]) hF hM (by kernel_rfl) (yld_call (f := 21) (args := #[.slice G1 k c1, .agg #[.int .i64 y12_0, .int .i64 y12_1]]) hF (by kernel_rfl) (fun _ => by kernel_rfl) (fun w hM => (by rw [show k = mm.length from by first | omega | (simp; done) | (simp; omega)]; exact rDelay_w y12_0 y12_1 G1 mm _ w (ro_of_own (hM.ok 8 _ rfl))))) fun a w hF hM => ?_)
                refine sB 5 [(98, .tuple #[.int .i64 (dlV y12_0 y12_1 mm), .int .i64 (dlE y12_0 y12_1 mm)]), (102, .int .i64 (dlV y12_0 y12_1 mm)), (103, .int .i64 (dlE y12_0 y12_1 mm)), (21, .int .i64 (dlV y12_0 y12_1 mm)), (22, .int .i64 (dlE y12_0 y12_1 mm))] hF (by kernel_rfl) fun a hF => ?_
                refine wpList_nil ?_
                refine hK107 _ _ ?_
                refine wp_seq_k fun K108 hK108 => ?_
                refine wp_region_lit ?_
                refine sB 2 [(104, .int .i64 (dlV y12_0 y12_1 mm)), (105, .int .i64 (dlV y12_0 y12_1 mm))] hF (by kernel_rfl) fun a hF => ?_
                refine wl (eP 106 (v0 := .bool (!decide (dlV y12_0 y12_1 mm = dlV y12_0 y12_1 mm))) (v := .bool false) hF (by kernel_rfl) (fun _ => by kernel_rfl) (nT (by omega)) fun a hF => ?_)
                refine sB 3 [(107, .bool false), (108, .int .i64 (dlE y12_0 y12_1 mm)), (109, .int .i64 (dlE y12_0 y12_1 mm))] hF (by kernel_rfl) fun a hF => ?_
                refine wl (eP 110 (v0 := .bool (!decide (dlE y12_0 y12_1 mm = dlE y12_0 y12_1 mm))) (v := .bool false) hF (by kernel_rfl) (fun _ => by kernel_rfl) (nT (by omega)) fun a hF => ?_)
                refine sB 1 [(111, .bool false)] hF (by kernel_rfl) fun a hF => ?_
                refine wpList_nil ?_
                refine hK108 _ _ ?_
                refine cF hF (by kernel_rfl) (by kernel_rfl) ?_
                refine wp_skip ?_
                refine hK104 _ _ ?_
                refine wp_region_lit ?_
                refine wl (eP 112 (v0 := .int .i64 (IntKind.i64.wrap ((kc6 : Int) + 1))) (v := .int .i64 ((kc6 : Int) + 1)) hF (by kernel_rfl) (fun _ => by kernel_rfl) (wi (by omega)) fun a hF => ?_)
                refine sB 1 [(89, .int .i64 ((kc6 : Int) + 1))] hF (by kernel_rfl) fun a hF => ?_
                refine wpList_nil ?_
                refine hK101 _ _ ⟨(kc6 + 1), ⟨(((((((((Fr.nil hF).c hF (i := 88) rfl rfl).c hF (i := 82) rfl rfl).c hF (i := 81) rfl rfl).c hF (i := 16) rfl rfl).c hF (i := 14) rfl rfl).c hF (i := 11) rfl rfl).c hF (i := 7) rfl rfl).c hF (i := 89) rfl (vi (show ((kc6 : Int) + 1 : Int) = ((kc6 + 1) : Int) from by omega))), (hM.sub (((((((((Sub.nil.c (k := 19) rfl rfl).c (k := 18) rfl rfl).c (k := 17) rfl rfl).c (k := 8) rfl rfl).c (k := 7) rfl rfl).c (k := 6) rfl rfl).c (k := 3) rfl rfl).c (k := 2) rfl rfl).c (k := 1) rfl rfl)), (show ((kc6 + 1) : Int) ≤ 3 from by omega)⟩, (show 3 - (kc6 + 1) < 3 - kc6 from by omega)⟩
              · skip
                replace hF := hF.c hF (i := 90) (v := .bool false) rfl (bF hz19)
                refine cF hF (by kernel_rfl) (by kernel_rfl) ?_
                refine wp_exit ?_
                refine hK98 _ _ ?_
                refine wp_region_lit ?_
                refine wl (eP 113 (v0 := .int .i64 (IntKind.i64.wrap (1 + 1))) (v := .int .i64 2) hF (by kernel_rfl) (fun _ => by kernel_rfl) (vi (by decide)) fun a hF => ?_)
                refine sB 1 [(82, .int .i64 2)] hF (by kernel_rfl) fun a hF => ?_
                refine wpList_nil ?_
                refine hK95 _ _ ?_
                refine rounds_k fun K109 hK109 => ?_
                refine wp_seq_k fun K110 hK110 => ?_
                refine wp_region_lit ?_
                refine wl (eP 83 (v0 := .bool (decide (2 < 4))) (v := .bool true) hF (by kernel_rfl) (fun _ => by kernel_rfl) (bT (by omega)) fun a hF => ?_)
                refine wpList_nil ?_
                refine hK110 _ _ ?_
                refine wp_seq_k fun K111 hK111 => ?_
                refine cT hF (by kernel_rfl) (by kernel_rfl) ?_
                refine wp_skip ?_
                refine hK111 _ _ ?_
                refine wp_seq_k fun K112 hK112 => ?_
                refine wp_block ?_
                refine wp_seq_k fun K113 hK113 => ?_
                refine wp_region_lit ?_
                refine sB 2 [(84, .slice AA19 (1 + k) cc19), (16, .slice AA19 (1 + k) cc19)] hF (by kernel_rfl) fun a hF => ?_
                refine wpList_nil ?_
                refine hK113 _ _ ?_
                refine wp_seq_k fun K114 hK114 => ?_
                refine wp_region_lit ?_
                refine wl (eL 85 3 0 (v := .agg #[.int .i64 sv0, .int .i64 sv1]) hF hM (by kernel_rfl) rfl rfl (by kernel_rfl) (by kernel_rfl) fun a w hF hM => ?_)
                refine wl (eL 86 7 0 (v := .agg #[.int .i64 (1 + n0 % 2097152), .int .i64 (n1 % 268435457)]) hF hM (by kernel_rfl) rfl rfl (by kernel_rfl) (by kernel_rfl) fun a w hF hM => ?_)
                refine wl (eL 87 17 0 (v := .agg #[.int .i64 (min 2097152 ((pr mm 0).2 + n1 % 3)), .int .i64 (n1 % 268435457)]) hF hM (by kernel_rfl) rfl rfl (by kernel_rfl) (by kernel_rfl) fun a w hF hM => ?_)
                refine sB 2 [(88, .agg #[.int .i64 sv0, .int .i64 sv1, .int .i64 (1 + n0 % 2097152), .int .i64 (n1 % 268435457), .int .i64 (min 2097152 ((pr mm 0).2 + n1 % 3)), .int .i64 (n1 % 268435457)]), (89, .int .i64 0)] hF (by kernel_rfl) fun a hF => ?_
                refine wpList_nil ?_
                refine hK114 _ _ ?_
                refine wp_block ?_
                refine wp_loop_k (G := Nat) (fun gg a w => Fr 115 [(89, some (.int .i64 (gg : Int))), (7, some (.pointer (some ⟨bb1, 0, none⟩))), (11, some (.pointer (some ⟨bb4, 0, none⟩))), (14, some (.pointer (some ⟨bb17, 0, none⟩))), (16, some (.slice AA19 (1 + k) cc19)), (81, some (.agg #[.slice A lsl.length c, .slice G1 k c1, .slice AA19 (1 + k) cc19, .slice AA22 (k + lsl.length) cc22])), (82, some (.int .i64 2)), (88, some (.agg #[.int .i64 sv0, .int .i64 sv1, .int .i64 (1 + n0 % 2097152), .int .i64 (n1 % 268435457), .int .i64 (min 2097152 ((pr mm 0).2 + n1 % 3)), .int .i64 (n1 % 268435457)]))] a ∧ Mem w0.heap.size w0 [(1, some (.ro A (flat2 l))), (2, some (.ro Da (flat4 ds))), (3, some (.row bb1 23 #[.int .i64 sv0, .int .i64 sv1])), (6, some (.ro A (flat2 lsl))), (7, some (.row bb4 23 #[.int .i64 (1 + n0 % 2097152), .int .i64 (n1 % 268435457)])), (8, some (.own (.slice G1 k c1) 39 2 k (flat2 mm))), (17, some (.row bb17 23 #[.int .i64 (min 2097152 ((pr mm 0).2 + n1 % 3)), .int .i64 (n1 % 268435457)])), (18, some (.own (.slice AA19 (1 + k) cc19) 39 2 (1 + k) (flat2 (([(b0, b1)] : List (Int × Int)) ++ mm)))), (19, some (.own (.slice AA22 (k + lsl.length) cc22) 39 2 (k + lsl.length) (flat2 (mm ++ lsl))))] w ∧ ((gg : Int) ≤ 3)) (fun gg => 3 - gg) (0) ?_ ?_
                · refine ⟨(((((((((Fr.nil hF).c hF (i := 88) rfl rfl).c hF (i := 82) rfl rfl).c hF (i := 81) rfl rfl).c hF (i := 16) rfl rfl).c hF (i := 14) rfl rfl).c hF (i := 11) rfl rfl).c hF (i := 7) rfl rfl).c hF (i := 89) rfl (vi (show (0 : Int) = (0 : Int) from by omega))), (hM.sub (((((((((Sub.nil.c (k := 19) rfl rfl).c (k := 18) rfl rfl).c (k := 17) rfl rfl).c (k := 8) rfl rfl).c (k := 7) rfl rfl).c (k := 6) rfl rfl).c (k := 3) rfl rfl).c (k := 2) rfl rfl).c (k := 1) rfl rfl)), (show (0 : Int) ≤ 3 from by omega)⟩
                · intro gg a w hI
                  intro K115 hK115
                  obtain ⟨kc7, rfl⟩ : ∃ x, x = gg := ⟨_, rfl⟩
                  try dsimp only at hI hK115
                  obtain ⟨hF, hM, hz20⟩ := hI
                  refine wp_seq_k fun K116 hK116 => ?_
                  refine wp_region_lit ?_
                  refine sB 1 [(90, .bool (decide ((kc7 : Int) < 3)))] hF (by kernel_rfl) fun a hF => ?_
                  refine wpList_nil ?_
                  refine hK116 _ _ ?_
                  refine wp_seq_k fun K117 hK117 => ?_
                  by_cases hz21 : (kc7 : Int) < 3
                  · skip
                    replace hF := hF.c hF (i := 90) (v := .bool true) rfl (bT hz21)
                    refine cT hF (by kernel_rfl) (by kernel_rfl) ?_
                    refine wp_skip ?_
                    refine hK117 _ _ ?_
                    refine wp_seq_k fun K118 hK118 => ?_
                    refine wp_block ?_
                    refine wp_seq_k fun K119 hK119 => ?_
                    refine wp_region_lit ?_
                    obtain ⟨ys14, hl14, hm14, hy14⟩ := idx_agg (P := Try.prog) (t := 45) (e := 23) (len := 3) (m := 2) (kd := .i64) [sv0, sv1, 1 + n0 % 2097152, n1 % 268435457, min 2097152 ((pr mm 0).2 + n1 % 3), n1 % 268435457] ((kc7 : Int)) (by kernel_rfl) (by kernel_rfl) (by omega) rfl
                    obtain ⟨y14_0, y14_1, rfl⟩ := len2 hl14
                    refine wl (eM 91 (v := .agg #[.int .i64 y14_0, .int .i64 y14_1]) hF hM (by kernel_rfl) (yld_index (X := .agg #[.int .i64 sv0, .int .i64 sv1, .int .i64 (1 + n0 % 2097152), .int .i64 (n1 % 268435457), .int .i64 (min 2097152 ((pr mm 0).2 + n1 % 3)), .int .i64 (n1 % 268435457)]) (I := .int .i64 ((kc7 : Int))) hF rfl (by kernel_rfl) (by kernel_rfl) (by kernel_rfl) (fun w => hy14 w)) fun a w hF hM => ?_)
                    refine wl (eN 18 22 (t := 23) (fun b => .pointer (some ⟨b, 0, none⟩)) #[.int .i64 0, .int .i64 0] hF hM (by kernel_rfl) (fun _ => by kernel_rfl) fun bb25 a w hF hM => ?_)
                    refine wl (sStore (i := 22) (off := 0) (cs' := #[.int .i64 y14_0, .int .i64 y14_1]) hF hM (by kernel_rfl) rfl rfl (by kernel_rfl) (by kernel_rfl) rfl (by kernel_rfl) fun w hM => ?_)
                    refine wpList_nil ?_
                    refine hK119 _ _ ?_
                    refine wp_seq_k fun K120 hK120 => ?_
                    refine wp_region_lit ?_
                    refine sB 1 [(93, .slice AA19 (1 + k) cc19)] hF (by kernel_rfl) fun a hF => ?_
                    refine wl (eL 94 22 0 (v := .agg #[.int .i64 y14_0, .int .i64 y14_1]) hF hM (by kernel_rfl) rfl rfl (by kernel_rfl) (by kernel_rfl) fun a w hF hM => ?_)
                    refine wl (eM 95 (v := .tuple #[.int .i64 (dlV y14_0 y14_1 (([(b0, b1)] : List (Int × Int)) ++ mm)), .int .i64 (dlE y14_0 y14_1 (([(b0, b1)] : List (Int × Int)) ++ mm))]) hF hM (by kernel_rfl) (yld_call (f := 20) (args := #[.slice AA19 (1 + k) cc19, .agg #[.int .i64 y14_0, .int .i64 y14_1]]) hF (by kernel_rfl) (fun _ => by kernel_rfl) (fun w hM => (by rw [show 1 + k = (([(b0, b1)] : List (Int × Int)) ++ mm).length from by first | omega | (simp; done) | (simp; omega)]; exact delay_w y14_0 y14_1 AA19 (([(b0, b1)] : List (Int × Int)) ++ mm) _ w (ro_of_own (hM.ok 18 _ rfl))))) fun a w hF hM => ?_)
                    refine sB 5 [(92, .tuple #[.int .i64 (dlV y14_0 y14_1 (([(b0, b1)] : List (Int × Int)) ++ mm)), .int .i64 (dlE y14_0 y14_1 (([(b0, b1)] : List (Int × Int)) ++ mm))]), (96, .int .i64 (dlV y14_0 y14_1 (([(b0, b1)] : List (Int × Int)) ++ mm))), (97, .int .i64 (dlE y14_0 y14_1 (([(b0, b1)] : List (Int × Int)) ++ mm))), (19, .int .i64 (dlV y14_0 y14_1 (([(b0, b1)] : List (Int × Int)) ++ mm))), (20, .int .i64 (dlE y14_0 y14_1 (([(b0, b1)] : List (Int × Int)) ++ mm)))] hF (by kernel_rfl) fun a hF => ?_
                    refine wpList_nil ?_
                    refine hK120 _ _ ?_
                    refine wp_seq_k fun K121 hK121 => ?_
                    refine wp_region_lit ?_
                    refine sB 1 [(99, .slice AA19 (1 + k) cc19)] hF (by kernel_rfl) fun a hF => ?_
                    refine wl (eL 100 22 0 (v := .agg #[.int .i64 y14_0, .int .i64 y14_1]) hF hM (by kernel_rfl) rfl rfl (by kernel_rfl) (by kernel_rfl) fun a w hF hM => ?_)
                    refine wl (eM 101 (v := .tuple #[.int .i64 (dlV y14_0 y14_1 (([(b0, b1)] : List (Int × Int)) ++ mm)), .int .i64 (dlE y14_0 y14_1 (([(b0, b1)] : List (Int × Int)) ++ mm))]) hF hM (by kernel_rfl) (yld_call (f := 21) (args := #[.slice AA19 (1 + k) cc19, .agg #[.int .i64 y14_0, .int .i64 y14_1]]) hF (by kernel_rfl) (fun _ => by kernel_rfl) (fun w hM => (by rw [show 1 + k = (([(b0, b1)] : List (Int × Int)) ++ mm).length from by first | omega | (simp; done) | (simp; omega)]; exact rDelay_w y14_0 y14_1 AA19 (([(b0, b1)] : List (Int × Int)) ++ mm) _ w (ro_of_own (hM.ok 18 _ rfl))))) fun a w hF hM => ?_)
                    refine sB 5 [(98, .tuple #[.int .i64 (dlV y14_0 y14_1 (([(b0, b1)] : List (Int × Int)) ++ mm)), .int .i64 (dlE y14_0 y14_1 (([(b0, b1)] : List (Int × Int)) ++ mm))]), (102, .int .i64 (dlV y14_0 y14_1 (([(b0, b1)] : List (Int × Int)) ++ mm))), (103, .int .i64 (dlE y14_0 y14_1 (([(b0, b1)] : List (Int × Int)) ++ mm))), (21, .int .i64 (dlV y14_0 y14_1 (([(b0, b1)] : List (Int × Int)) ++ mm))), (22, .int .i64 (dlE y14_0 y14_1 (([(b0, b1)] : List (Int × Int)) ++ mm)))] hF (by kernel_rfl) fun a hF => ?_
                    refine wpList_nil ?_
                    refine hK121 _ _ ?_
                    refine wp_seq_k fun K122 hK122 => ?_
                    refine wp_region_lit ?_
                    refine sB 2 [(104, .int .i64 (dlV y14_0 y14_1 (([(b0, b1)] : List (Int × Int)) ++ mm))), (105, .int .i64 (dlV y14_0 y14_1 (([(b0, b1)] : List (Int × Int)) ++ mm)))] hF (by kernel_rfl) fun a hF => ?_
                    refine wl (eP 106 (v0 := .bool (!decide (dlV y14_0 y14_1 (([(b0, b1)] : List (Int × Int)) ++ mm) = dlV y14_0 y14_1 (([(b0, b1)] : List (Int × Int)) ++ mm)))) (v := .bool false) hF (by kernel_rfl) (fun _ => by kernel_rfl) (nT (by omega)) fun a hF => ?_)
                    refine sB 3 [(107, .bool false), (108, .int .i64 (dlE y14_0 y14_1 (([(b0, b1)] : List (Int × Int)) ++ mm))), (109, .int .i64 (dlE y14_0 y14_1 (([(b0, b1)] : List (Int × Int)) ++ mm)))] hF (by kernel_rfl) fun a hF => ?_
                    refine wl (eP 110 (v0 := .bool (!decide (dlE y14_0 y14_1 (([(b0, b1)] : List (Int × Int)) ++ mm) = dlE y14_0 y14_1 (([(b0, b1)] : List (Int × Int)) ++ mm)))) (v := .bool false) hF (by kernel_rfl) (fun _ => by kernel_rfl) (nT (by omega)) fun a hF => ?_)
                    refine sB 1 [(111, .bool false)] hF (by kernel_rfl) fun a hF => ?_
                    refine wpList_nil ?_
                    refine hK122 _ _ ?_
                    refine cF hF (by kernel_rfl) (by kernel_rfl) ?_
                    refine wp_skip ?_
                    refine hK118 _ _ ?_
                    refine wp_region_lit ?_
                    refine wl (eP 112 (v0 := .int .i64 (IntKind.i64.wrap ((kc7 : Int) + 1))) (v := .int .i64 ((kc7 : Int) + 1)) hF (by kernel_rfl) (fun _ => by kernel_rfl) (wi (by omega)) fun a hF => ?_)
                    refine sB 1 [(89, .int .i64 ((kc7 : Int) + 1))] hF (by kernel_rfl) fun a hF => ?_
                    refine wpList_nil ?_
                    refine hK115 _ _ ⟨(kc7 + 1), ⟨(((((((((Fr.nil hF).c hF (i := 88) rfl rfl).c hF (i := 82) rfl rfl).c hF (i := 81) rfl rfl).c hF (i := 16) rfl rfl).c hF (i := 14) rfl rfl).c hF (i := 11) rfl rfl).c hF (i := 7) rfl rfl).c hF (i := 89) rfl (vi (show ((kc7 : Int) + 1 : Int) = ((kc7 + 1) : Int) from by omega))), (hM.sub (((((((((Sub.nil.c (k := 19) rfl rfl).c (k := 18) rfl rfl).c (k := 17) rfl rfl).c (k := 8) rfl rfl).c (k := 7) rfl rfl).c (k := 6) rfl rfl).c (k := 3) rfl rfl).c (k := 2) rfl rfl).c (k := 1) rfl rfl)), (show ((kc7 + 1) : Int) ≤ 3 from by omega)⟩, (show 3 - (kc7 + 1) < 3 - kc7 from by omega)⟩
                  · skip
                    replace hF := hF.c hF (i := 90) (v := .bool false) rfl (bF hz21)
                    refine cF hF (by kernel_rfl) (by kernel_rfl) ?_
                    refine wp_exit ?_
                    refine hK112 _ _ ?_
                    refine wp_region_lit ?_
                    refine wl (eP 113 (v0 := .int .i64 (IntKind.i64.wrap (2 + 1))) (v := .int .i64 3) hF (by kernel_rfl) (fun _ => by kernel_rfl) (vi (by decide)) fun a hF => ?_)
                    refine sB 1 [(82, .int .i64 3)] hF (by kernel_rfl) fun a hF => ?_
                    refine wpList_nil ?_
                    refine hK109 _ _ ?_
                    refine rounds_k fun K123 hK123 => ?_
                    refine wp_seq_k fun K124 hK124 => ?_
                    refine wp_region_lit ?_
                    refine wl (eP 83 (v0 := .bool (decide (3 < 4))) (v := .bool true) hF (by kernel_rfl) (fun _ => by kernel_rfl) (bT (by omega)) fun a hF => ?_)
                    refine wpList_nil ?_
                    refine hK124 _ _ ?_
                    refine wp_seq_k fun K125 hK125 => ?_
                    refine cT hF (by kernel_rfl) (by kernel_rfl) ?_
                    refine wp_skip ?_
                    refine hK125 _ _ ?_
                    refine wp_seq_k fun K126 hK126 => ?_
                    refine wp_block ?_
                    refine wp_seq_k fun K127 hK127 => ?_
                    refine wp_region_lit ?_
                    refine sB 2 [(84, .slice AA22 (k + lsl.length) cc22), (16, .slice AA22 (k + lsl.length) cc22)] hF (by kernel_rfl) fun a hF => ?_
                    refine wpList_nil ?_
                    refine hK127 _ _ ?_
                    refine wp_seq_k fun K128 hK128 => ?_
                    refine wp_region_lit ?_
                    refine wl (eL 85 3 0 (v := .agg #[.int .i64 sv0, .int .i64 sv1]) hF hM (by kernel_rfl) rfl rfl (by kernel_rfl) (by kernel_rfl) fun a w hF hM => ?_)
                    refine wl (eL 86 7 0 (v := .agg #[.int .i64 (1 + n0 % 2097152), .int .i64 (n1 % 268435457)]) hF hM (by kernel_rfl) rfl rfl (by kernel_rfl) (by kernel_rfl) fun a w hF hM => ?_)
                    refine wl (eL 87 17 0 (v := .agg #[.int .i64 (min 2097152 ((pr mm 0).2 + n1 % 3)), .int .i64 (n1 % 268435457)]) hF hM (by kernel_rfl) rfl rfl (by kernel_rfl) (by kernel_rfl) fun a w hF hM => ?_)
                    refine sB 2 [(88, .agg #[.int .i64 sv0, .int .i64 sv1, .int .i64 (1 + n0 % 2097152), .int .i64 (n1 % 268435457), .int .i64 (min 2097152 ((pr mm 0).2 + n1 % 3)), .int .i64 (n1 % 268435457)]), (89, .int .i64 0)] hF (by kernel_rfl) fun a hF => ?_
                    refine wpList_nil ?_
                    refine hK128 _ _ ?_
                    refine wp_block ?_
                    refine wp_loop_k (G := Nat) (fun gg a w => Fr 115 [(89, some (.int .i64 (gg : Int))), (7, some (.pointer (some ⟨bb1, 0, none⟩))), (11, some (.pointer (some ⟨bb4, 0, none⟩))), (14, some (.pointer (some ⟨bb17, 0, none⟩))), (16, some (.slice AA22 (k + lsl.length) cc22)), (81, some (.agg #[.slice A lsl.length c, .slice G1 k c1, .slice AA19 (1 + k) cc19, .slice AA22 (k + lsl.length) cc22])), (82, some (.int .i64 3)), (88, some (.agg #[.int .i64 sv0, .int .i64 sv1, .int .i64 (1 + n0 % 2097152), .int .i64 (n1 % 268435457), .int .i64 (min 2097152 ((pr mm 0).2 + n1 % 3)), .int .i64 (n1 % 268435457)]))] a ∧ Mem w0.heap.size w0 [(1, some (.ro A (flat2 l))), (2, some (.ro Da (flat4 ds))), (3, some (.row bb1 23 #[.int .i64 sv0, .int .i64 sv1])), (6, some (.ro A (flat2 lsl))), (7, some (.row bb4 23 #[.int .i64 (1 + n0 % 2097152), .int .i64 (n1 % 268435457)])), (8, some (.own (.slice G1 k c1) 39 2 k (flat2 mm))), (17, some (.row bb17 23 #[.int .i64 (min 2097152 ((pr mm 0).2 + n1 % 3)), .int .i64 (n1 % 268435457)])), (18, some (.own (.slice AA19 (1 + k) cc19) 39 2 (1 + k) (flat2 (([(b0, b1)] : List (Int × Int)) ++ mm)))), (19, some (.own (.slice AA22 (k + lsl.length) cc22) 39 2 (k + lsl.length) (flat2 (mm ++ lsl))))] w ∧ ((gg : Int) ≤ 3)) (fun gg => 3 - gg) (0) ?_ ?_
                    · refine ⟨(((((((((Fr.nil hF).c hF (i := 88) rfl rfl).c hF (i := 82) rfl rfl).c hF (i := 81) rfl rfl).c hF (i := 16) rfl rfl).c hF (i := 14) rfl rfl).c hF (i := 11) rfl rfl).c hF (i := 7) rfl rfl).c hF (i := 89) rfl (vi (show (0 : Int) = (0 : Int) from by omega))), (hM.sub (((((((((Sub.nil.c (k := 19) rfl rfl).c (k := 18) rfl rfl).c (k := 17) rfl rfl).c (k := 8) rfl rfl).c (k := 7) rfl rfl).c (k := 6) rfl rfl).c (k := 3) rfl rfl).c (k := 2) rfl rfl).c (k := 1) rfl rfl)), (show (0 : Int) ≤ 3 from by omega)⟩
                    · intro gg a w hI
                      intro K129 hK129
                      obtain ⟨kc8, rfl⟩ : ∃ x, x = gg := ⟨_, rfl⟩
                      try dsimp only at hI hK129
                      obtain ⟨hF, hM, hz22⟩ := hI
                      refine wp_seq_k fun K130 hK130 => ?_
                      refine wp_region_lit ?_
                      refine sB 1 [(90, .bool (decide ((kc8 : Int) < 3)))] hF (by kernel_rfl) fun a hF => ?_
                      refine wpList_nil ?_
                      refine hK130 _ _ ?_
                      refine wp_seq_k fun K131 hK131 => ?_
                      by_cases hz23 : (kc8 : Int) < 3
                      · skip
                        replace hF := hF.c hF (i := 90) (v := .bool true) rfl (bT hz23)
                        refine cT hF (by kernel_rfl) (by kernel_rfl) ?_
                        refine wp_skip ?_
                        refine hK131 _ _ ?_
                        refine wp_seq_k fun K132 hK132 => ?_
                        refine wp_block ?_
                        refine wp_seq_k fun K133 hK133 => ?_
                        refine wp_region_lit ?_
                        obtain ⟨ys16, hl16, hm16, hy16⟩ := idx_agg (P := Try.prog) (t := 45) (e := 23) (len := 3) (m := 2) (kd := .i64) [sv0, sv1, 1 + n0 % 2097152, n1 % 268435457, min 2097152 ((pr mm 0).2 + n1 % 3), n1 % 268435457] ((kc8 : Int)) (by kernel_rfl) (by kernel_rfl) (by omega) rfl
                        obtain ⟨y16_0, y16_1, rfl⟩ := len2 hl16
                        refine wl (eM 91 (v := .agg #[.int .i64 y16_0, .int .i64 y16_1]) hF hM (by kernel_rfl) (yld_index (X := .agg #[.int .i64 sv0, .int .i64 sv1, .int .i64 (1 + n0 % 2097152), .int .i64 (n1 % 268435457), .int .i64 (min 2097152 ((pr mm 0).2 + n1 % 3)), .int .i64 (n1 % 268435457)]) (I := .int .i64 ((kc8 : Int))) hF rfl (by kernel_rfl) (by kernel_rfl) (by kernel_rfl) (fun w => hy16 w)) fun a w hF hM => ?_)
                        refine wl (eN 18 23 (t := 23) (fun b => .pointer (some ⟨b, 0, none⟩)) #[.int .i64 0, .int .i64 0] hF hM (by kernel_rfl) (fun _ => by kernel_rfl) fun bb26 a w hF hM => ?_)
                        refine wl (sStore (i := 23) (off := 0) (cs' := #[.int .i64 y16_0, .int .i64 y16_1]) hF hM (by kernel_rfl) rfl rfl (by kernel_rfl) (by kernel_rfl) rfl (by kernel_rfl) fun w hM => ?_)
                        refine wpList_nil ?_
                        refine hK133 _ _ ?_
                        refine wp_seq_k fun K134 hK134 => ?_
                        refine wp_region_lit ?_
                        refine sB 1 [(93, .slice AA22 (k + lsl.length) cc22)] hF (by kernel_rfl) fun a hF => ?_
                        refine wl (eL 94 23 0 (v := .agg #[.int .i64 y16_0, .int .i64 y16_1]) hF hM (by kernel_rfl) rfl rfl (by kernel_rfl) (by kernel_rfl) fun a w hF hM => ?_)
                        refine wl (eM 95 (v := .tuple #[.int .i64 (dlV y16_0 y16_1 (mm ++ lsl)), .int .i64 (dlE y16_0 y16_1 (mm ++ lsl))]) hF hM (by kernel_rfl) (yld_call (f := 20) (args := #[.slice AA22 (k + lsl.length) cc22, .agg #[.int .i64 y16_0, .int .i64 y16_1]]) hF (by kernel_rfl) (fun _ => by kernel_rfl) (fun w hM => (by rw [show k + lsl.length = (mm ++ lsl).length from by first | omega | (simp; done) | (simp; omega)]; exact delay_w y16_0 y16_1 AA22 (mm ++ lsl) _ w (ro_of_own (hM.ok 19 _ rfl))))) fun a w hF hM => ?_)
                        refine sB 5 [(92, .tuple #[.int .i64 (dlV y16_0 y16_1 (mm ++ lsl)), .int .i64 (dlE y16_0 y16_1 (mm ++ lsl))]), (96, .int .i64 (dlV y16_0 y16_1 (mm ++ lsl))), (97, .int .i64 (dlE y16_0 y16_1 (mm ++ lsl))), (19, .int .i64 (dlV y16_0 y16_1 (mm ++ lsl))), (20, .int .i64 (dlE y16_0 y16_1 (mm ++ lsl)))] hF (by kernel_rfl) fun a hF => ?_
                        refine wpList_nil ?_
                        refine hK134 _ _ ?_
                        refine wp_seq_k fun K135 hK135 => ?_
                        refine wp_region_lit ?_
                        refine sB 1 [(99, .slice AA22 (k + lsl.length) cc22)] hF (by kernel_rfl) fun a hF => ?_
                        refine wl (eL 100 23 0 (v := .agg #[.int .i64 y16_0, .int .i64 y16_1]) hF hM (by kernel_rfl) rfl rfl (by kernel_rfl) (by kernel_rfl) fun a w hF hM => ?_)
                        refine wl (eM 101 (v := .tuple #[.int .i64 (dlV y16_0 y16_1 (mm ++ lsl)), .int .i64 (dlE y16_0 y16_1 (mm ++ lsl))]) hF hM (by kernel_rfl) (yld_call (f := 21) (args := #[.slice AA22 (k + lsl.length) cc22, .agg #[.int .i64 y16_0, .int .i64 y16_1]]) hF (by kernel_rfl) (fun _ => by kernel_rfl) (fun w hM => (by rw [show k + lsl.length = (mm ++ lsl).length from by first | omega | (simp; done) | (simp; omega)]; exact rDelay_w y16_0 y16_1 AA22 (mm ++ lsl) _ w (ro_of_own (hM.ok 19 _ rfl))))) fun a w hF hM => ?_)
                        refine sB 5 [(98, .tuple #[.int .i64 (dlV y16_0 y16_1 (mm ++ lsl)), .int .i64 (dlE y16_0 y16_1 (mm ++ lsl))]), (102, .int .i64 (dlV y16_0 y16_1 (mm ++ lsl))), (103, .int .i64 (dlE y16_0 y16_1 (mm ++ lsl))), (21, .int .i64 (dlV y16_0 y16_1 (mm ++ lsl))), (22, .int .i64 (dlE y16_0 y16_1 (mm ++ lsl)))] hF (by kernel_rfl) fun a hF => ?_
                        refine wpList_nil ?_
                        refine hK135 _ _ ?_
                        refine wp_seq_k fun K136 hK136 => ?_
                        refine wp_region_lit ?_
                        refine sB 2 [(104, .int .i64 (dlV y16_0 y16_1 (mm ++ lsl))), (105, .int .i64 (dlV y16_0 y16_1 (mm ++ lsl)))] hF (by kernel_rfl) fun a hF => ?_
                        refine wl (eP 106 (v0 := .bool (!decide (dlV y16_0 y16_1 (mm ++ lsl) = dlV y16_0 y16_1 (mm ++ lsl)))) (v := .bool false) hF (by kernel_rfl) (fun _ => by kernel_rfl) (nT (by omega)) fun a hF => ?_)
                        refine sB 3 [(107, .bool false), (108, .int .i64 (dlE y16_0 y16_1 (mm ++ lsl))), (109, .int .i64 (dlE y16_0 y16_1 (mm ++ lsl)))] hF (by kernel_rfl) fun a hF => ?_
                        refine wl (eP 110 (v0 := .bool (!decide (dlE y16_0 y16_1 (mm ++ lsl) = dlE y16_0 y16_1 (mm ++ lsl)))) (v := .bool false) hF (by kernel_rfl) (fun _ => by kernel_rfl) (nT (by omega)) fun a hF => ?_)
                        refine sB 1 [(111, .bool false)] hF (by kernel_rfl) fun a hF => ?_
                        refine wpList_nil ?_
                        refine hK136 _ _ ?_
                        refine cF hF (by kernel_rfl) (by kernel_rfl) ?_
                        refine wp_skip ?_
                        refine hK132 _ _ ?_
                        refine wp_region_lit ?_
                        refine wl (eP 112 (v0 := .int .i64 (IntKind.i64.wrap ((kc8 : Int) + 1))) (v := .int .i64 ((kc8 : Int) + 1)) hF (by kernel_rfl) (fun _ => by kernel_rfl) (wi (by omega)) fun a hF => ?_)
                        refine sB 1 [(89, .int .i64 ((kc8 : Int) + 1))] hF (by kernel_rfl) fun a hF => ?_
                        refine wpList_nil ?_
                        refine hK129 _ _ ⟨(kc8 + 1), ⟨(((((((((Fr.nil hF).c hF (i := 88) rfl rfl).c hF (i := 82) rfl rfl).c hF (i := 81) rfl rfl).c hF (i := 16) rfl rfl).c hF (i := 14) rfl rfl).c hF (i := 11) rfl rfl).c hF (i := 7) rfl rfl).c hF (i := 89) rfl (vi (show ((kc8 : Int) + 1 : Int) = ((kc8 + 1) : Int) from by omega))), (hM.sub (((((((((Sub.nil.c (k := 19) rfl rfl).c (k := 18) rfl rfl).c (k := 17) rfl rfl).c (k := 8) rfl rfl).c (k := 7) rfl rfl).c (k := 6) rfl rfl).c (k := 3) rfl rfl).c (k := 2) rfl rfl).c (k := 1) rfl rfl)), (show ((kc8 + 1) : Int) ≤ 3 from by omega)⟩, (show 3 - (kc8 + 1) < 3 - kc8 from by omega)⟩
                      · skip
                        replace hF := hF.c hF (i := 90) (v := .bool false) rfl (bF hz23)
                        refine cF hF (by kernel_rfl) (by kernel_rfl) ?_
                        refine wp_exit ?_
                        refine hK126 _ _ ?_
                        refine wp_region_lit ?_
                        refine wl (eP 113 (v0 := .int .i64 (IntKind.i64.wrap (3 + 1))) (v := .int .i64 4) hF (by kernel_rfl) (fun _ => by kernel_rfl) (vi (by decide)) fun a hF => ?_)
                        refine sB 1 [(82, .int .i64 4)] hF (by kernel_rfl) fun a hF => ?_
                        refine wpList_nil ?_
                        refine hK123 _ _ ?_
                        refine rounds_k fun K137 hK137 => ?_
                        refine wp_seq_k fun K138 hK138 => ?_
                        refine wp_region_lit ?_
                        refine wl (eP 83 (v0 := .bool (decide (4 < 4))) (v := .bool false) hF (by kernel_rfl) (fun _ => by kernel_rfl) (bF (by omega)) fun a hF => ?_)
                        refine wpList_nil ?_
                        refine hK138 _ _ ?_
                        refine wp_seq_k fun K139 hK139 => ?_
                        refine cF hF (by kernel_rfl) (by kernel_rfl) ?_
                        refine wp_exit ?_
                        refine hK79 _ _ ?_
                        refine wp_seq_k fun K140 hK140 => ?_
                        refine wp_region_lit ?_
                        refine wl (eM 114 (v := .bool true) hF hM (by kernel_rfl) (yld_call (f := 18) (args := #[]) hF (by kernel_rfl) (fun _ => by kernel_rfl) (fun w hM => works4_w w)) fun a w hF hM => ?_)
                        refine sB 1 [(10, .bool true)] hF (by kernel_rfl) fun a hF => ?_
                        refine wpList_nil ?_
                        refine hK140 _ _ ?_
                        refine wp_ret ?_
                        refine hR0 _ _ ?_
                        refine ret_of hF hM (.tmp rfl (.nil)) ?_
                        exact ⟨rfl, hM.bel⟩
      · skip
        replace hF := hF.c hF (i := 58) (v := .bool false) rfl (bF hz15)
        refine cF hF (by kernel_rfl) (by kernel_rfl) ?_
        refine wp_skip ?_
        refine hK77 _ _ ?_
        refine wp_seq_k fun K141 hK141 => ?_
        refine wp_seq_k fun K142 hK142 => ?_
        refine wp_region_lit ?_
        refine sB 2 [(70, .slice A lsl.length c), (71, .slice G1 k c1)] hF (by kernel_rfl) fun a hF => ?_
        refine wl (eL 72 5 0 (v := .agg #[.int .i64 b0, .int .i64 b1]) hF hM (by kernel_rfl) rfl rfl (by kernel_rfl) (by kernel_rfl) fun a w hF hM => ?_)
        refine wl (eN 73 24 (t := 39) (fun b => .slice (some ⟨b, 0, none⟩) 1 1) #[.int .i64 b0, .int .i64 b1] hF hM (by kernel_rfl) (fun _ => by kernel_rfl) fun bb27 a w hF hM => ?_)
        refine sB 1 [(74, .slice G1 k c1)] hF (by kernel_rfl) fun a hF => ?_
        refine wl (sAppR 75 24 (e := 39) (size := 2) (bytes := 16) (z := .agg #[.int .i64 0, .int .i64 0]) (m := k) (c := c1) (l := 1) (news := (flat2 mm)) (flat2 (([(b0, b1)] : List (Int × Int)) ++ mm)) hF hM (by kernel_rfl) rfl (by kernel_rfl) (by kernel_rfl) (by kernel_rfl) rfl rfl rfl rfl (by first | exact flat2_length _ | (rw [flat2_length]; omega)) (roO 8 rfl) (flat2_one _) (by omega) (by decide) (flat2_append ([(b0, b1)] : List (Int × Int)) mm).symm (own_nil hM (k := 8) rfl) fun AA28 cc28 a w hF hM => ?_)
        refine wl (eN 76 25 (t := 39) (fun b => .slice (some ⟨b, 0, none⟩) 0 0) #[] hF hM (by kernel_rfl) (fun _ => by kernel_rfl) fun bb29 a w hF hM => ?_)
        refine sB 1 [(77, .slice G1 k c1)] hF (by kernel_rfl) fun a hF => ?_
        refine wl (sAppR0 78 25 (e := 39) (size := 2) (bytes := 16) (z := .agg #[.int .i64 0, .int .i64 0]) (m := k) (c := c1) (news := (flat2 mm)) (flat2 mm) hF hM (by kernel_rfl) rfl (by kernel_rfl) (by kernel_rfl) (by kernel_rfl) rfl rfl rfl (by first | exact flat2_length _ | (rw [flat2_length]; omega)) (roO 8 rfl) (flat2_one _) (by omega) (by decide) rfl (own_nil hM (k := 8) rfl) fun AA30 cc30 a w hF hM => ?_)
        refine sB 1 [(79, .slice A lsl.length c)] hF (by kernel_rfl) fun a hF => ?_
        refine wl (sAppA 80 25 (e := 39) (size := 2) (bytes := 16) (z := .agg #[.int .i64 0, .int .i64 0]) (m := lsl.length) (c := c) (l := k) (cap := cc30) (A := AA30) (news := (flat2 lsl)) (flat2 (mm ++ lsl)) hF hM (by kernel_rfl) rfl (by kernel_rfl) (by kernel_rfl) (by kernel_rfl) rfl rfl rfl (by first | exact flat2_length _ | (rw [flat2_length]; omega)) (roK 6 rfl) (flat2_one _) (by omega) (by decide) (flat2_append _ _).symm (fun h => by have := hln h; omega) fun AA31 cc31 a w hF hM => ?_)
        refine sB 2 [(81, .agg #[.slice A lsl.length c, .slice G1 k c1, .slice AA28 (1 + k) cc28, .slice AA31 (k + lsl.length) cc31]), (82, .int .i64 0)] hF (by kernel_rfl) fun a hF => ?_
        refine wpList_nil ?_
        refine hK142 _ _ ?_
        refine wp_block ?_
        refine wp_loop_rounds 5 ?_
        refine rounds_k fun K143 hK143 => ?_
        refine wp_seq_k fun K144 hK144 => ?_
        refine wp_region_lit ?_
        refine wl (eP 83 (v0 := .bool (decide (0 < 4))) (v := .bool true) hF (by kernel_rfl) (fun _ => by kernel_rfl) (bT (by omega)) fun a hF => ?_)
        refine wpList_nil ?_
        refine hK144 _ _ ?_
        refine wp_seq_k fun K145 hK145 => ?_
        refine cT hF (by kernel_rfl) (by kernel_rfl) ?_
        refine wp_skip ?_
        refine hK145 _ _ ?_
        refine wp_seq_k fun K146 hK146 => ?_
        refine wp_block ?_
        refine wp_seq_k fun K147 hK147 => ?_
        refine wp_region_lit ?_
        refine sB 2 [(84, .slice A lsl.length c), (16, .slice A lsl.length c)] hF (by kernel_rfl) fun a hF => ?_
        refine wpList_nil ?_
        refine hK147 _ _ ?_
        refine wp_seq_k fun K148 hK148 => ?_
        refine wp_region_lit ?_
        refine wl (eL 85 3 0 (v := .agg #[.int .i64 sv0, .int .i64 sv1]) hF hM (by kernel_rfl) rfl rfl (by kernel_rfl) (by kernel_rfl) fun a w hF hM => ?_)
        refine wl (eL 86 7 0 (v := .agg #[.int .i64 (1 + n0 % 2097152), .int .i64 (n1 % 268435457)]) hF hM (by kernel_rfl) rfl rfl (by kernel_rfl) (by kernel_rfl) fun a w hF hM => ?_)
        refine wl (eL 87 17 0 (v := .agg #[.int .i64 (1 + n0 % 2097152), .int .i64 (n1 % 268435457)]) hF hM (by kernel_rfl) rfl rfl (by kernel_rfl) (by kernel_rfl) fun a w hF hM => ?_)
        refine sB 2 [(88, .agg #[.int .i64 sv0, .int .i64 sv1, .int .i64 (1 + n0 % 2097152), .int .i64 (n1 % 268435457), .int .i64 (1 + n0 % 2097152), .int .i64 (n1 % 268435457)]), (89, .int .i64 0)] hF (by kernel_rfl) fun a hF => ?_
        refine wpList_nil ?_
        refine hK148 _ _ ?_
        refine wp_block ?_
        refine wp_loop_k (G := Nat) (fun gg a w => Fr 115 [(89, some (.int .i64 (gg : Int))), (7, some (.pointer (some ⟨bb1, 0, none⟩))), (11, some (.pointer (some ⟨bb4, 0, none⟩))), (14, some (.pointer (some ⟨bb17, 0, none⟩))), (16, some (.slice A lsl.length c)), (81, some (.agg #[.slice A lsl.length c, .slice G1 k c1, .slice AA28 (1 + k) cc28, .slice AA31 (k + lsl.length) cc31])), (82, some (.int .i64 0)), (88, some (.agg #[.int .i64 sv0, .int .i64 sv1, .int .i64 (1 + n0 % 2097152), .int .i64 (n1 % 268435457), .int .i64 (1 + n0 % 2097152), .int .i64 (n1 % 268435457)]))] a ∧ Mem w0.heap.size w0 [(1, some (.ro A (flat2 l))), (2, some (.ro Da (flat4 ds))), (3, some (.row bb1 23 #[.int .i64 sv0, .int .i64 sv1])), (6, some (.ro A (flat2 lsl))), (7, some (.row bb4 23 #[.int .i64 (1 + n0 % 2097152), .int .i64 (n1 % 268435457)])), (8, some (.own (.slice G1 k c1) 39 2 k (flat2 mm))), (17, some (.row bb17 23 #[.int .i64 (1 + n0 % 2097152), .int .i64 (n1 % 268435457)])), (24, some (.own (.slice AA28 (1 + k) cc28) 39 2 (1 + k) (flat2 (([(b0, b1)] : List (Int × Int)) ++ mm)))), (25, some (.own (.slice AA31 (k + lsl.length) cc31) 39 2 (k + lsl.length) (flat2 (mm ++ lsl))))] w ∧ ((gg : Int) ≤ 3)) (fun gg => 3 - gg) (0) ?_ ?_
        · refine ⟨(((((((((Fr.nil hF).c hF (i := 88) rfl rfl).c hF (i := 82) rfl rfl).c hF (i := 81) rfl rfl).c hF (i := 16) rfl rfl).c hF (i := 14) rfl rfl).c hF (i := 11) rfl rfl).c hF (i := 7) rfl rfl).c hF (i := 89) rfl (vi (show (0 : Int) = (0 : Int) from by omega))), (hM.sub (((((((((Sub.nil.c (k := 25) rfl rfl).c (k := 24) rfl rfl).c (k := 17) rfl rfl).c (k := 8) rfl rfl).c (k := 7) rfl rfl).c (k := 6) rfl rfl).c (k := 3) rfl rfl).c (k := 2) rfl rfl).c (k := 1) rfl rfl)), (show (0 : Int) ≤ 3 from by omega)⟩
        · intro gg a w hI
          intro K149 hK149
          obtain ⟨kc9, rfl⟩ : ∃ x, x = gg := ⟨_, rfl⟩
          try dsimp only at hI hK149
          obtain ⟨hF, hM, hz24⟩ := hI
          refine wp_seq_k fun K150 hK150 => ?_
          refine wp_region_lit ?_
          refine sB 1 [(90, .bool (decide ((kc9 : Int) < 3)))] hF (by kernel_rfl) fun a hF => ?_
          refine wpList_nil ?_
          refine hK150 _ _ ?_
          refine wp_seq_k fun K151 hK151 => ?_
          by_cases hz25 : (kc9 : Int) < 3
          · skip
            replace hF := hF.c hF (i := 90) (v := .bool true) rfl (bT hz25)
            refine cT hF (by kernel_rfl) (by kernel_rfl) ?_
            refine wp_skip ?_
            refine hK151 _ _ ?_
            refine wp_seq_k fun K152 hK152 => ?_
            refine wp_block ?_
            refine wp_seq_k fun K153 hK153 => ?_
            refine wp_region_lit ?_
            obtain ⟨ys18, hl18, hm18, hy18⟩ := idx_agg (P := Try.prog) (t := 45) (e := 23) (len := 3) (m := 2) (kd := .i64) [sv0, sv1, 1 + n0 % 2097152, n1 % 268435457, 1 + n0 % 2097152, n1 % 268435457] ((kc9 : Int)) (by kernel_rfl) (by kernel_rfl) (by omega) rfl
            obtain ⟨y18_0, y18_1, rfl⟩ := len2 hl18
            refine wl (eM 91 (v := .agg #[.int .i64 y18_0, .int .i64 y18_1]) hF hM (by kernel_rfl) (yld_index (X := .agg #[.int .i64 sv0, .int .i64 sv1, .int .i64 (1 + n0 % 2097152), .int .i64 (n1 % 268435457), .int .i64 (1 + n0 % 2097152), .int .i64 (n1 % 268435457)]) (I := .int .i64 ((kc9 : Int))) hF rfl (by kernel_rfl) (by kernel_rfl) (by kernel_rfl) (fun w => hy18 w)) fun a w hF hM => ?_)
            refine wl (eN 18 26 (t := 23) (fun b => .pointer (some ⟨b, 0, none⟩)) #[.int .i64 0, .int .i64 0] hF hM (by kernel_rfl) (fun _ => by kernel_rfl) fun bb32 a w hF hM => ?_)
            refine wl (sStore (i := 26) (off := 0) (cs' := #[.int .i64 y18_0, .int .i64 y18_1]) hF hM (by kernel_rfl) rfl rfl (by kernel_rfl) (by kernel_rfl) rfl (by kernel_rfl) fun w hM => ?_)
            refine wpList_nil ?_
            refine hK153 _ _ ?_
            refine wp_seq_k fun K154 hK154 => ?_
            refine wp_region_lit ?_
            refine sB 1 [(93, .slice A lsl.length c)] hF (by kernel_rfl) fun a hF => ?_
            refine wl (eL 94 26 0 (v := .agg #[.int .i64 y18_0, .int .i64 y18_1]) hF hM (by kernel_rfl) rfl rfl (by kernel_rfl) (by kernel_rfl) fun a w hF hM => ?_)
            refine wl (eM 95 (v := .tuple #[.int .i64 (dlV y18_0 y18_1 lsl), .int .i64 (dlE y18_0 y18_1 lsl)]) hF hM (by kernel_rfl) (yld_call (f := 20) (args := #[.slice A lsl.length c, .agg #[.int .i64 y18_0, .int .i64 y18_1]]) hF (by kernel_rfl) (fun _ => by kernel_rfl) (fun w hM => delay_w y18_0 y18_1 A lsl _ w (hM.ok 6 _ rfl))) fun a w hF hM => ?_)
            refine sB 5 [(92, .tuple #[.int .i64 (dlV y18_0 y18_1 lsl), .int .i64 (dlE y18_0 y18_1 lsl)]), (96, .int .i64 (dlV y18_0 y18_1 lsl)), (97, .int .i64 (dlE y18_0 y18_1 lsl)), (19, .int .i64 (dlV y18_0 y18_1 lsl)), (20, .int .i64 (dlE y18_0 y18_1 lsl))] hF (by kernel_rfl) fun a hF => ?_
            refine wpList_nil ?_
            refine hK154 _ _ ?_
            refine wp_seq_k fun K155 hK155 => ?_
            refine wp_region_lit ?_
            refine sB 1 [(99, .slice A lsl.length c)] hF (by kernel_rfl) fun a hF => ?_
            refine wl (eL 100 26 0 (v := .agg #[.int .i64 y18_0, .int .i64 y18_1]) hF hM (by kernel_rfl) rfl rfl (by kernel_rfl) (by kernel_rfl) fun a w hF hM => ?_)
            refine wl (eM 101 (v := .tuple #[.int .i64 (dlV y18_0 y18_1 lsl), .int .i64 (dlE y18_0 y18_1 lsl)]) hF hM (by kernel_rfl) (yld_call (f := 21) (args := #[.slice A lsl.length c, .agg #[.int .i64 y18_0, .int .i64 y18_1]]) hF (by kernel_rfl) (fun _ => by kernel_rfl) (fun w hM => rDelay_w y18_0 y18_1 A lsl _ w (hM.ok 6 _ rfl))) fun a w hF hM => ?_)
            refine sB 5 [(98, .tuple #[.int .i64 (dlV y18_0 y18_1 lsl), .int .i64 (dlE y18_0 y18_1 lsl)]), (102, .int .i64 (dlV y18_0 y18_1 lsl)), (103, .int .i64 (dlE y18_0 y18_1 lsl)), (21, .int .i64 (dlV y18_0 y18_1 lsl)), (22, .int .i64 (dlE y18_0 y18_1 lsl))] hF (by kernel_rfl) fun a hF => ?_
            refine wpList_nil ?_
            refine hK155 _ _ ?_
            refine wp_seq_k fun K156 hK156 => ?_
            refine wp_region_lit ?_
            refine sB 2 [(104, .int .i64 (dlV y18_0 y18_1 lsl)), (105, .int .i64 (dlV y18_0 y18_1 lsl))] hF (by kernel_rfl) fun a hF => ?_
            refine wl (eP 106 (v0 := .bool (!decide (dlV y18_0 y18_1 lsl = dlV y18_0 y18_1 lsl))) (v := .bool false) hF (by kernel_rfl) (fun _ => by kernel_rfl) (nT (by omega)) fun a hF => ?_)
            refine sB 3 [(107, .bool false), (108, .int .i64 (dlE y18_0 y18_1 lsl)), (109, .int .i64 (dlE y18_0 y18_1 lsl))] hF (by kernel_rfl) fun a hF => ?_
            refine wl (eP 110 (v0 := .bool (!decide (dlE y18_0 y18_1 lsl = dlE y18_0 y18_1 lsl))) (v := .bool false) hF (by kernel_rfl) (fun _ => by kernel_rfl) (nT (by omega)) fun a hF => ?_)
            refine sB 1 [(111, .bool false)] hF (by kernel_rfl) fun a hF => ?_
            refine wpList_nil ?_
            refine hK156 _ _ ?_
            refine cF hF (by kernel_rfl) (by kernel_rfl) ?_
            refine wp_skip ?_
            refine hK152 _ _ ?_
            refine wp_region_lit ?_
            refine wl (eP 112 (v0 := .int .i64 (IntKind.i64.wrap ((kc9 : Int) + 1))) (v := .int .i64 ((kc9 : Int) + 1)) hF (by kernel_rfl) (fun _ => by kernel_rfl) (wi (by omega)) fun a hF => ?_)
            refine sB 1 [(89, .int .i64 ((kc9 : Int) + 1))] hF (by kernel_rfl) fun a hF => ?_
            refine wpList_nil ?_
            refine hK149 _ _ ⟨(kc9 + 1), ⟨(((((((((Fr.nil hF).c hF (i := 88) rfl rfl).c hF (i := 82) rfl rfl).c hF (i := 81) rfl rfl).c hF (i := 16) rfl rfl).c hF (i := 14) rfl rfl).c hF (i := 11) rfl rfl).c hF (i := 7) rfl rfl).c hF (i := 89) rfl (vi (show ((kc9 : Int) + 1 : Int) = ((kc9 + 1) : Int) from by omega))), (hM.sub (((((((((Sub.nil.c (k := 25) rfl rfl).c (k := 24) rfl rfl).c (k := 17) rfl rfl).c (k := 8) rfl rfl).c (k := 7) rfl rfl).c (k := 6) rfl rfl).c (k := 3) rfl rfl).c (k := 2) rfl rfl).c (k := 1) rfl rfl)), (show ((kc9 + 1) : Int) ≤ 3 from by omega)⟩, (show 3 - (kc9 + 1) < 3 - kc9 from by omega)⟩
          · skip
            replace hF := hF.c hF (i := 90) (v := .bool false) rfl (bF hz25)
            refine cF hF (by kernel_rfl) (by kernel_rfl) ?_
            refine wp_exit ?_
            refine hK146 _ _ ?_
            refine wp_region_lit ?_
            refine wl (eP 113 (v0 := .int .i64 (IntKind.i64.wrap (0 + 1))) (v := .int .i64 1) hF (by kernel_rfl) (fun _ => by kernel_rfl) (vi (by decide)) fun a hF => ?_)
            refine sB 1 [(82, .int .i64 1)] hF (by kernel_rfl) fun a hF => ?_
            refine wpList_nil ?_
            refine hK143 _ _ ?_
            refine rounds_k fun K157 hK157 => ?_
            refine wp_seq_k fun K158 hK158 => ?_
            refine wp_region_lit ?_
            refine wl (eP 83 (v0 := .bool (decide (1 < 4))) (v := .bool true) hF (by kernel_rfl) (fun _ => by kernel_rfl) (bT (by omega)) fun a hF => ?_)
            refine wpList_nil ?_
            refine hK158 _ _ ?_
            refine wp_seq_k fun K159 hK159 => ?_
            refine cT hF (by kernel_rfl) (by kernel_rfl) ?_
            refine wp_skip ?_
            refine hK159 _ _ ?_
            refine wp_seq_k fun K160 hK160 => ?_
            refine wp_block ?_
            refine wp_seq_k fun K161 hK161 => ?_
            refine wp_region_lit ?_
            refine sB 2 [(84, .slice G1 k c1), (16, .slice G1 k c1)] hF (by kernel_rfl) fun a hF => ?_
            refine wpList_nil ?_
            refine hK161 _ _ ?_
            refine wp_seq_k fun K162 hK162 => ?_
            refine wp_region_lit ?_
            refine wl (eL 85 3 0 (v := .agg #[.int .i64 sv0, .int .i64 sv1]) hF hM (by kernel_rfl) rfl rfl (by kernel_rfl) (by kernel_rfl) fun a w hF hM => ?_)
            refine wl (eL 86 7 0 (v := .agg #[.int .i64 (1 + n0 % 2097152), .int .i64 (n1 % 268435457)]) hF hM (by kernel_rfl) rfl rfl (by kernel_rfl) (by kernel_rfl) fun a w hF hM => ?_)
            refine wl (eL 87 17 0 (v := .agg #[.int .i64 (1 + n0 % 2097152), .int .i64 (n1 % 268435457)]) hF hM (by kernel_rfl) rfl rfl (by kernel_rfl) (by kernel_rfl) fun a w hF hM => ?_)
            refine sB 2 [(88, .agg #[.int .i64 sv0, .int .i64 sv1, .int .i64 (1 + n0 % 2097152), .int .i64 (n1 % 268435457), .int .i64 (1 + n0 % 2097152), .int .i64 (n1 % 268435457)]), (89, .int .i64 0)] hF (by kernel_rfl) fun a hF => ?_
            refine wpList_nil ?_
            refine hK162 _ _ ?_
            refine wp_block ?_
            refine wp_loop_k (G := Nat) (fun gg a w => Fr 115 [(89, some (.int .i64 (gg : Int))), (7, some (.pointer (some ⟨bb1, 0, none⟩))), (11, some (.pointer (some ⟨bb4, 0, none⟩))), (14, some (.pointer (some ⟨bb17, 0, none⟩))), (16, some (.slice G1 k c1)), (81, some (.agg #[.slice A lsl.length c, .slice G1 k c1, .slice AA28 (1 + k) cc28, .slice AA31 (k + lsl.length) cc31])), (82, some (.int .i64 1)), (88, some (.agg #[.int .i64 sv0, .int .i64 sv1, .int .i64 (1 + n0 % 2097152), .int .i64 (n1 % 268435457), .int .i64 (1 + n0 % 2097152), .int .i64 (n1 % 268435457)]))] a ∧ Mem w0.heap.size w0 [(1, some (.ro A (flat2 l))), (2, some (.ro Da (flat4 ds))), (3, some (.row bb1 23 #[.int .i64 sv0, .int .i64 sv1])), (6, some (.ro A (flat2 lsl))), (7, some (.row bb4 23 #[.int .i64 (1 + n0 % 2097152), .int .i64 (n1 % 268435457)])), (8, some (.own (.slice G1 k c1) 39 2 k (flat2 mm))), (17, some (.row bb17 23 #[.int .i64 (1 + n0 % 2097152), .int .i64 (n1 % 268435457)])), (24, some (.own (.slice AA28 (1 + k) cc28) 39 2 (1 + k) (flat2 (([(b0, b1)] : List (Int × Int)) ++ mm)))), (25, some (.own (.slice AA31 (k + lsl.length) cc31) 39 2 (k + lsl.length) (flat2 (mm ++ lsl))))] w ∧ ((gg : Int) ≤ 3)) (fun gg => 3 - gg) (0) ?_ ?_
            · refine ⟨(((((((((Fr.nil hF).c hF (i := 88) rfl rfl).c hF (i := 82) rfl rfl).c hF (i := 81) rfl rfl).c hF (i := 16) rfl rfl).c hF (i := 14) rfl rfl).c hF (i := 11) rfl rfl).c hF (i := 7) rfl rfl).c hF (i := 89) rfl (vi (show (0 : Int) = (0 : Int) from by omega))), (hM.sub (((((((((Sub.nil.c (k := 25) rfl rfl).c (k := 24) rfl rfl).c (k := 17) rfl rfl).c (k := 8) rfl rfl).c (k := 7) rfl rfl).c (k := 6) rfl rfl).c (k := 3) rfl rfl).c (k := 2) rfl rfl).c (k := 1) rfl rfl)), (show (0 : Int) ≤ 3 from by omega)⟩
            · intro gg a w hI
              intro K163 hK163
              obtain ⟨kc10, rfl⟩ : ∃ x, x = gg := ⟨_, rfl⟩
              try dsimp only at hI hK163
              obtain ⟨hF, hM, hz26⟩ := hI
              refine wp_seq_k fun K164 hK164 => ?_
              refine wp_region_lit ?_
              refine sB 1 [(90, .bool (decide ((kc10 : Int) < 3)))] hF (by kernel_rfl) fun a hF => ?_
              refine wpList_nil ?_
              refine hK164 _ _ ?_
              refine wp_seq_k fun K165 hK165 => ?_
              by_cases hz27 : (kc10 : Int) < 3
              · skip
                replace hF := hF.c hF (i := 90) (v := .bool true) rfl (bT hz27)
                refine cT hF (by kernel_rfl) (by kernel_rfl) ?_
                refine wp_skip ?_
                refine hK165 _ _ ?_
                refine wp_seq_k fun K166 hK166 => ?_
                refine wp_block ?_
                refine wp_seq_k fun K167 hK167 => ?_
                refine wp_region_lit ?_
                obtain ⟨ys20, hl20, hm20, hy20⟩ := idx_agg (P := Try.prog) (t := 45) (e := 23) (len := 3) (m := 2) (kd := .i64) [sv0, sv1, 1 + n0 % 2097152, n1 % 268435457, 1 + n0 % 2097152, n1 % 268435457] ((kc10 : Int)) (by kernel_rfl) (by kernel_rfl) (by omega) rfl
                obtain ⟨y20_0, y20_1, rfl⟩ := len2 hl20
                refine wl (eM 91 (v := .agg #[.int .i64 y20_0, .int .i64 y20_1]) hF hM (by kernel_rfl) (yld_index (X := .agg #[.int .i64 sv0, .int .i64 sv1, .int .i64 (1 + n0 % 2097152), .int .i64 (n1 % 268435457), .int .i64 (1 + n0 % 2097152), .int .i64 (n1 % 268435457)]) (I := .int .i64 ((kc10 : Int))) hF rfl (by kernel_rfl) (by kernel_rfl) (by kernel_rfl) (fun w => hy20 w)) fun a w hF hM => ?_)
                refine wl (eN 18 27 (t := 23) (fun b => .pointer (some ⟨b, 0, none⟩)) #[.int .i64 0, .int .i64 0] hF hM (by kernel_rfl) (fun _ => by kernel_rfl) fun bb33 a w hF hM => ?_)
                refine wl (sStore (i := 27) (off := 0) (cs' := #[.int .i64 y20_0, .int .i64 y20_1]) hF hM (by kernel_rfl) rfl rfl (by kernel_rfl) (by kernel_rfl) rfl (by kernel_rfl) fun w hM => ?_)
                refine wpList_nil ?_
                refine hK167 _ _ ?_
                refine wp_seq_k fun K168 hK168 => ?_
                refine wp_region_lit ?_
                refine sB 1 [(93, .slice G1 k c1)] hF (by kernel_rfl) fun a hF => ?_
                refine wl (eL 94 27 0 (v := .agg #[.int .i64 y20_0, .int .i64 y20_1]) hF hM (by kernel_rfl) rfl rfl (by kernel_rfl) (by kernel_rfl) fun a w hF hM => ?_)
                refine wl (eM 95 (v := .tuple #[.int .i64 (dlV y20_0 y20_1 mm), .int .i64 (dlE y20_0 y20_1 mm)]) hF hM (by kernel_rfl) (yld_call (f := 20) (args := #[.slice G1 k c1, .agg #[.int .i64 y20_0, .int .i64 y20_1]]) hF (by kernel_rfl) (fun _ => by kernel_rfl) (fun w hM => (by rw [show k = mm.length from by first | omega | (simp; done) | (simp; omega)]; exact delay_w y20_0 y20_1 G1 mm _ w (ro_of_own (hM.ok 8 _ rfl))))) fun a w hF hM => ?_)
                refine sB 5 [(92, .tuple #[.int .i64 (dlV y20_0 y20_1 mm), .int .i64 (dlE y20_0 y20_1 mm)]), (96, .int .i64 (dlV y20_0 y20_1 mm)), (97, .int .i64 (dlE y20_0 y20_1 mm)), (19, .int .i64 (dlV y20_0 y20_1 mm)), (20, .int .i64 (dlE y20_0 y20_1 mm))] hF (by kernel_rfl) fun a hF => ?_
                refine wpList_nil ?_
                refine hK168 _ _ ?_
                refine wp_seq_k fun K169 hK169 => ?_
                refine wp_region_lit ?_
                refine sB 1 [(99, .slice G1 k c1)] hF (by kernel_rfl) fun a hF => ?_
                refine wl (eL 100 27 0 (v := .agg #[.int .i64 y20_0, .int .i64 y20_1]) hF hM (by kernel_rfl) rfl rfl (by kernel_rfl) (by kernel_rfl) fun a w hF hM => ?_)
                refine wl (eM 101 (v := .tuple #[.int .i64 (dlV y20_0 y20_1 mm), .int .i64 (dlE y20_0 y20_1 mm)]) hF hM (by kernel_rfl) (yld_call (f := 21) (args := #[.slice G1 k c1, .agg #[.int .i64 y20_0, .int .i64 y20_1]]) hF (by kernel_rfl) (fun _ => by kernel_rfl) (fun w hM => (by rw [show k = mm.length from by first | omega | (simp; done) | (simp; omega)]; exact rDelay_w y20_0 y20_1 G1 mm _ w (ro_of_own (hM.ok 8 _ rfl))))) fun a w hF hM => ?_)
                refine sB 5 [(98, .tuple #[.int .i64 (dlV y20_0 y20_1 mm), .int .i64 (dlE y20_0 y20_1 mm)]), (102, .int .i64 (dlV y20_0 y20_1 mm)), (103, .int .i64 (dlE y20_0 y20_1 mm)), (21, .int .i64 (dlV y20_0 y20_1 mm)), (22, .int .i64 (dlE y20_0 y20_1 mm))] hF (by kernel_rfl) fun a hF => ?_
                refine wpList_nil ?_
                refine hK169 _ _ ?_
                refine wp_seq_k fun K170 hK170 => ?_
                refine wp_region_lit ?_
                refine sB 2 [(104, .int .i64 (dlV y20_0 y20_1 mm)), (105, .int .i64 (dlV y20_0 y20_1 mm))] hF (by kernel_rfl) fun a hF => ?_
                refine wl (eP 106 (v0 := .bool (!decide (dlV y20_0 y20_1 mm = dlV y20_0 y20_1 mm))) (v := .bool false) hF (by kernel_rfl) (fun _ => by kernel_rfl) (nT (by omega)) fun a hF => ?_)
                refine sB 3 [(107, .bool false), (108, .int .i64 (dlE y20_0 y20_1 mm)), (109, .int .i64 (dlE y20_0 y20_1 mm))] hF (by kernel_rfl) fun a hF => ?_
                refine wl (eP 110 (v0 := .bool (!decide (dlE y20_0 y20_1 mm = dlE y20_0 y20_1 mm))) (v := .bool false) hF (by kernel_rfl) (fun _ => by kernel_rfl) (nT (by omega)) fun a hF => ?_)
                refine sB 1 [(111, .bool false)] hF (by kernel_rfl) fun a hF => ?_
                refine wpList_nil ?_
                refine hK170 _ _ ?_
                refine cF hF (by kernel_rfl) (by kernel_rfl) ?_
                refine wp_skip ?_
                refine hK166 _ _ ?_
                refine wp_region_lit ?_
                refine wl (eP 112 (v0 := .int .i64 (IntKind.i64.wrap ((kc10 : Int) + 1))) (v := .int .i64 ((kc10 : Int) + 1)) hF (by kernel_rfl) (fun _ => by kernel_rfl) (wi (by omega)) fun a hF => ?_)
                refine sB 1 [(89, .int .i64 ((kc10 : Int) + 1))] hF (by kernel_rfl) fun a hF => ?_
                refine wpList_nil ?_
                refine hK163 _ _ ⟨(kc10 + 1), ⟨(((((((((Fr.nil hF).c hF (i := 88) rfl rfl).c hF (i := 82) rfl rfl).c hF (i := 81) rfl rfl).c hF (i := 16) rfl rfl).c hF (i := 14) rfl rfl).c hF (i := 11) rfl rfl).c hF (i := 7) rfl rfl).c hF (i := 89) rfl (vi (show ((kc10 : Int) + 1 : Int) = ((kc10 + 1) : Int) from by omega))), (hM.sub (((((((((Sub.nil.c (k := 25) rfl rfl).c (k := 24) rfl rfl).c (k := 17) rfl rfl).c (k := 8) rfl rfl).c (k := 7) rfl rfl).c (k := 6) rfl rfl).c (k := 3) rfl rfl).c (k := 2) rfl rfl).c (k := 1) rfl rfl)), (show ((kc10 + 1) : Int) ≤ 3 from by omega)⟩, (show 3 - (kc10 + 1) < 3 - kc10 from by omega)⟩
              · skip
                replace hF := hF.c hF (i := 90) (v := .bool false) rfl (bF hz27)
                refine cF hF (by kernel_rfl) (by kernel_rfl) ?_
                refine wp_exit ?_
                refine hK160 _ _ ?_
                refine wp_region_lit ?_
                refine wl (eP 113 (v0 := .int .i64 (IntKind.i64.wrap (1 + 1))) (v := .int .i64 2) hF (by kernel_rfl) (fun _ => by kernel_rfl) (vi (by decide)) fun a hF => ?_)
                refine sB 1 [(82, .int .i64 2)] hF (by kernel_rfl) fun a hF => ?_
                refine wpList_nil ?_
                refine hK157 _ _ ?_
                refine rounds_k fun K171 hK171 => ?_
                refine wp_seq_k fun K172 hK172 => ?_
                refine wp_region_lit ?_
                refine wl (eP 83 (v0 := .bool (decide (2 < 4))) (v := .bool true) hF (by kernel_rfl) (fun _ => by kernel_rfl) (bT (by omega)) fun a hF => ?_)
                refine wpList_nil ?_
                refine hK172 _ _ ?_
                refine wp_seq_k fun K173 hK173 => ?_
                refine cT hF (by kernel_rfl) (by kernel_rfl) ?_
                refine wp_skip ?_
                refine hK173 _ _ ?_
                refine wp_seq_k fun K174 hK174 => ?_
                refine wp_block ?_
                refine wp_seq_k fun K175 hK175 => ?_
                refine wp_region_lit ?_
                refine sB 2 [(84, .slice AA28 (1 + k) cc28), (16, .slice AA28 (1 + k) cc28)] hF (by kernel_rfl) fun a hF => ?_
                refine wpList_nil ?_
                refine hK175 _ _ ?_
                refine wp_seq_k fun K176 hK176 => ?_
                refine wp_region_lit ?_
                refine wl (eL 85 3 0 (v := .agg #[.int .i64 sv0, .int .i64 sv1]) hF hM (by kernel_rfl) rfl rfl (by kernel_rfl) (by kernel_rfl) fun a w hF hM => ?_)
                refine wl (eL 86 7 0 (v := .agg #[.int .i64 (1 + n0 % 2097152), .int .i64 (n1 % 268435457)]) hF hM (by kernel_rfl) rfl rfl (by kernel_rfl) (by kernel_rfl) fun a w hF hM => ?_)
                refine wl (eL 87 17 0 (v := .agg #[.int .i64 (1 + n0 % 2097152), .int .i64 (n1 % 268435457)]) hF hM (by kernel_rfl) rfl rfl (by kernel_rfl) (by kernel_rfl) fun a w hF hM => ?_)
                refine sB 2 [(88, .agg #[.int .i64 sv0, .int .i64 sv1, .int .i64 (1 + n0 % 2097152), .int .i64 (n1 % 268435457), .int .i64 (1 + n0 % 2097152), .int .i64 (n1 % 268435457)]), (89, .int .i64 0)] hF (by kernel_rfl) fun a hF => ?_
                refine wpList_nil ?_
                refine hK176 _ _ ?_
                refine wp_block ?_
                refine wp_loop_k (G := Nat) (fun gg a w => Fr 115 [(89, some (.int .i64 (gg : Int))), (7, some (.pointer (some ⟨bb1, 0, none⟩))), (11, some (.pointer (some ⟨bb4, 0, none⟩))), (14, some (.pointer (some ⟨bb17, 0, none⟩))), (16, some (.slice AA28 (1 + k) cc28)), (81, some (.agg #[.slice A lsl.length c, .slice G1 k c1, .slice AA28 (1 + k) cc28, .slice AA31 (k + lsl.length) cc31])), (82, some (.int .i64 2)), (88, some (.agg #[.int .i64 sv0, .int .i64 sv1, .int .i64 (1 + n0 % 2097152), .int .i64 (n1 % 268435457), .int .i64 (1 + n0 % 2097152), .int .i64 (n1 % 268435457)]))] a ∧ Mem w0.heap.size w0 [(1, some (.ro A (flat2 l))), (2, some (.ro Da (flat4 ds))), (3, some (.row bb1 23 #[.int .i64 sv0, .int .i64 sv1])), (6, some (.ro A (flat2 lsl))), (7, some (.row bb4 23 #[.int .i64 (1 + n0 % 2097152), .int .i64 (n1 % 268435457)])), (8, some (.own (.slice G1 k c1) 39 2 k (flat2 mm))), (17, some (.row bb17 23 #[.int .i64 (1 + n0 % 2097152), .int .i64 (n1 % 268435457)])), (24, some (.own (.slice AA28 (1 + k) cc28) 39 2 (1 + k) (flat2 (([(b0, b1)] : List (Int × Int)) ++ mm)))), (25, some (.own (.slice AA31 (k + lsl.length) cc31) 39 2 (k + lsl.length) (flat2 (mm ++ lsl))))] w ∧ ((gg : Int) ≤ 3)) (fun gg => 3 - gg) (0) ?_ ?_
                · refine ⟨(((((((((Fr.nil hF).c hF (i := 88) rfl rfl).c hF (i := 82) rfl rfl).c hF (i := 81) rfl rfl).c hF (i := 16) rfl rfl).c hF (i := 14) rfl rfl).c hF (i := 11) rfl rfl).c hF (i := 7) rfl rfl).c hF (i := 89) rfl (vi (show (0 : Int) = (0 : Int) from by omega))), (hM.sub (((((((((Sub.nil.c (k := 25) rfl rfl).c (k := 24) rfl rfl).c (k := 17) rfl rfl).c (k := 8) rfl rfl).c (k := 7) rfl rfl).c (k := 6) rfl rfl).c (k := 3) rfl rfl).c (k := 2) rfl rfl).c (k := 1) rfl rfl)), (show (0 : Int) ≤ 3 from by omega)⟩
                · intro gg a w hI
                  intro K177 hK177
                  obtain ⟨kc11, rfl⟩ : ∃ x, x = gg := ⟨_, rfl⟩
                  try dsimp only at hI hK177
                  obtain ⟨hF, hM, hz28⟩ := hI
                  refine wp_seq_k fun K178 hK178 => ?_
                  refine wp_region_lit ?_
                  refine sB 1 [(90, .bool (decide ((kc11 : Int) < 3)))] hF (by kernel_rfl) fun a hF => ?_
                  refine wpList_nil ?_
                  refine hK178 _ _ ?_
                  refine wp_seq_k fun K179 hK179 => ?_
                  by_cases hz29 : (kc11 : Int) < 3
                  · skip
                    replace hF := hF.c hF (i := 90) (v := .bool true) rfl (bT hz29)
                    refine cT hF (by kernel_rfl) (by kernel_rfl) ?_
                    refine wp_skip ?_
                    refine hK179 _ _ ?_
                    refine wp_seq_k fun K180 hK180 => ?_
                    refine wp_block ?_
                    refine wp_seq_k fun K181 hK181 => ?_
                    refine wp_region_lit ?_
                    obtain ⟨ys22, hl22, hm22, hy22⟩ := idx_agg (P := Try.prog) (t := 45) (e := 23) (len := 3) (m := 2) (kd := .i64) [sv0, sv1, 1 + n0 % 2097152, n1 % 268435457, 1 + n0 % 2097152, n1 % 268435457] ((kc11 : Int)) (by kernel_rfl) (by kernel_rfl) (by omega) rfl
                    obtain ⟨y22_0, y22_1, rfl⟩ := len2 hl22
                    refine wl (eM 91 (v := .agg #[.int .i64 y22_0, .int .i64 y22_1]) hF hM (by kernel_rfl) (yld_index (X := .agg #[.int .i64 sv0, .int .i64 sv1, .int .i64 (1 + n0 % 2097152), .int .i64 (n1 % 268435457), .int .i64 (1 + n0 % 2097152), .int .i64 (n1 % 268435457)]) (I := .int .i64 ((kc11 : Int))) hF rfl (by kernel_rfl) (by kernel_rfl) (by kernel_rfl) (fun w => hy22 w)) fun a w hF hM => ?_)
                    refine wl (eN 18 28 (t := 23) (fun b => .pointer (some ⟨b, 0, none⟩)) #[.int .i64 0, .int .i64 0] hF hM (by kernel_rfl) (fun _ => by kernel_rfl) fun bb34 a w hF hM => ?_)
                    refine wl (sStore (i := 28) (off := 0) (cs' := #[.int .i64 y22_0, .int .i64 y22_1]) hF hM (by kernel_rfl) rfl rfl (by kernel_rfl) (by kernel_rfl) rfl (by kernel_rfl) fun w hM => ?_)
                    refine wpList_nil ?_
                    refine hK181 _ _ ?_
                    refine wp_seq_k fun K182 hK182 => ?_
                    refine wp_region_lit ?_
                    refine sB 1 [(93, .slice AA28 (1 + k) cc28)] hF (by kernel_rfl) fun a hF => ?_
                    refine wl (eL 94 28 0 (v := .agg #[.int .i64 y22_0, .int .i64 y22_1]) hF hM (by kernel_rfl) rfl rfl (by kernel_rfl) (by kernel_rfl) fun a w hF hM => ?_)
                    refine wl (eM 95 (v := .tuple #[.int .i64 (dlV y22_0 y22_1 (([(b0, b1)] : List (Int × Int)) ++ mm)), .int .i64 (dlE y22_0 y22_1 (([(b0, b1)] : List (Int × Int)) ++ mm))]) hF hM (by kernel_rfl) (yld_call (f := 20) (args := #[.slice AA28 (1 + k) cc28, .agg #[.int .i64 y22_0, .int .i64 y22_1]]) hF (by kernel_rfl) (fun _ => by kernel_rfl) (fun w hM => (by rw [show 1 + k = (([(b0, b1)] : List (Int × Int)) ++ mm).length from by first | omega | (simp; done) | (simp; omega)]; exact delay_w y22_0 y22_1 AA28 (([(b0, b1)] : List (Int × Int)) ++ mm) _ w (ro_of_own (hM.ok 24 _ rfl))))) fun a w hF hM => ?_)
                    refine sB 5 [(92, .tuple #[.int .i64 (dlV y22_0 y22_1 (([(b0, b1)] : List (Int × Int)) ++ mm)), .int .i64 (dlE y22_0 y22_1 (([(b0, b1)] : List (Int × Int)) ++ mm))]), (96, .int .i64 (dlV y22_0 y22_1 (([(b0, b1)] : List (Int × Int)) ++ mm))), (97, .int .i64 (dlE y22_0 y22_1 (([(b0, b1)] : List (Int × Int)) ++ mm))), (19, .int .i64 (dlV y22_0 y22_1 (([(b0, b1)] : List (Int × Int)) ++ mm))), (20, .int .i64 (dlE y22_0 y22_1 (([(b0, b1)] : List (Int × Int)) ++ mm)))] hF (by kernel_rfl) fun a hF => ?_
                    refine wpList_nil ?_
                    refine hK182 _ _ ?_
                    refine wp_seq_k fun K183 hK183 => ?_
                    refine wp_region_lit ?_
                    refine sB 1 [(99, .slice AA28 (1 + k) cc28)] hF (by kernel_rfl) fun a hF => ?_
                    refine wl (eL 100 28 0 (v := .agg #[.int .i64 y22_0, .int .i64 y22_1]) hF hM (by kernel_rfl) rfl rfl (by kernel_rfl) (by kernel_rfl) fun a w hF hM => ?_)
                    refine wl (eM 101 (v := .tuple #[.int .i64 (dlV y22_0 y22_1 (([(b0, b1)] : List (Int × Int)) ++ mm)), .int .i64 (dlE y22_0 y22_1 (([(b0, b1)] : List (Int × Int)) ++ mm))]) hF hM (by kernel_rfl) (yld_call (f := 21) (args := #[.slice AA28 (1 + k) cc28, .agg #[.int .i64 y22_0, .int .i64 y22_1]]) hF (by kernel_rfl) (fun _ => by kernel_rfl) (fun w hM => (by rw [show 1 + k = (([(b0, b1)] : List (Int × Int)) ++ mm).length from by first | omega | (simp; done) | (simp; omega)]; exact rDelay_w y22_0 y22_1 AA28 (([(b0, b1)] : List (Int × Int)) ++ mm) _ w (ro_of_own (hM.ok 24 _ rfl))))) fun a w hF hM => ?_)
                    refine sB 5 [(98, .tuple #[.int .i64 (dlV y22_0 y22_1 (([(b0, b1)] : List (Int × Int)) ++ mm)), .int .i64 (dlE y22_0 y22_1 (([(b0, b1)] : List (Int × Int)) ++ mm))]), (102, .int .i64 (dlV y22_0 y22_1 (([(b0, b1)] : List (Int × Int)) ++ mm))), (103, .int .i64 (dlE y22_0 y22_1 (([(b0, b1)] : List (Int × Int)) ++ mm))), (21, .int .i64 (dlV y22_0 y22_1 (([(b0, b1)] : List (Int × Int)) ++ mm))), (22, .int .i64 (dlE y22_0 y22_1 (([(b0, b1)] : List (Int × Int)) ++ mm)))] hF (by kernel_rfl) fun a hF => ?_
                    refine wpList_nil ?_
                    refine hK183 _ _ ?_
                    refine wp_seq_k fun K184 hK184 => ?_
                    refine wp_region_lit ?_
                    refine sB 2 [(104, .int .i64 (dlV y22_0 y22_1 (([(b0, b1)] : List (Int × Int)) ++ mm))), (105, .int .i64 (dlV y22_0 y22_1 (([(b0, b1)] : List (Int × Int)) ++ mm)))] hF (by kernel_rfl) fun a hF => ?_
                    refine wl (eP 106 (v0 := .bool (!decide (dlV y22_0 y22_1 (([(b0, b1)] : List (Int × Int)) ++ mm) = dlV y22_0 y22_1 (([(b0, b1)] : List (Int × Int)) ++ mm)))) (v := .bool false) hF (by kernel_rfl) (fun _ => by kernel_rfl) (nT (by omega)) fun a hF => ?_)
                    refine sB 3 [(107, .bool false), (108, .int .i64 (dlE y22_0 y22_1 (([(b0, b1)] : List (Int × Int)) ++ mm))), (109, .int .i64 (dlE y22_0 y22_1 (([(b0, b1)] : List (Int × Int)) ++ mm)))] hF (by kernel_rfl) fun a hF => ?_
                    refine wl (eP 110 (v0 := .bool (!decide (dlE y22_0 y22_1 (([(b0, b1)] : List (Int × Int)) ++ mm) = dlE y22_0 y22_1 (([(b0, b1)] : List (Int × Int)) ++ mm)))) (v := .bool false) hF (by kernel_rfl) (fun _ => by kernel_rfl) (nT (by omega)) fun a hF => ?_)
                    refine sB 1 [(111, .bool false)] hF (by kernel_rfl) fun a hF => ?_
                    refine wpList_nil ?_
                    refine hK184 _ _ ?_
                    refine cF hF (by kernel_rfl) (by kernel_rfl) ?_
                    refine wp_skip ?_
                    refine hK180 _ _ ?_
                    refine wp_region_lit ?_
                    refine wl (eP 112 (v0 := .int .i64 (IntKind.i64.wrap ((kc11 : Int) + 1))) (v := .int .i64 ((kc11 : Int) + 1)) hF (by kernel_rfl) (fun _ => by kernel_rfl) (wi (by omega)) fun a hF => ?_)
                    refine sB 1 [(89, .int .i64 ((kc11 : Int) + 1))] hF (by kernel_rfl) fun a hF => ?_
                    refine wpList_nil ?_
                    refine hK177 _ _ ⟨(kc11 + 1), ⟨(((((((((Fr.nil hF).c hF (i := 88) rfl rfl).c hF (i := 82) rfl rfl).c hF (i := 81) rfl rfl).c hF (i := 16) rfl rfl).c hF (i := 14) rfl rfl).c hF (i := 11) rfl rfl).c hF (i := 7) rfl rfl).c hF (i := 89) rfl (vi (show ((kc11 : Int) + 1 : Int) = ((kc11 + 1) : Int) from by omega))), (hM.sub (((((((((Sub.nil.c (k := 25) rfl rfl).c (k := 24) rfl rfl).c (k := 17) rfl rfl).c (k := 8) rfl rfl).c (k := 7) rfl rfl).c (k := 6) rfl rfl).c (k := 3) rfl rfl).c (k := 2) rfl rfl).c (k := 1) rfl rfl)), (show ((kc11 + 1) : Int) ≤ 3 from by omega)⟩, (show 3 - (kc11 + 1) < 3 - kc11 from by omega)⟩
                  · skip
                    replace hF := hF.c hF (i := 90) (v := .bool false) rfl (bF hz29)
                    refine cF hF (by kernel_rfl) (by kernel_rfl) ?_
                    refine wp_exit ?_
                    refine hK174 _ _ ?_
                    refine wp_region_lit ?_
                    refine wl (eP 113 (v0 := .int .i64 (IntKind.i64.wrap (2 + 1))) (v := .int .i64 3) hF (by kernel_rfl) (fun _ => by kernel_rfl) (vi (by decide)) fun a hF => ?_)
                    refine sB 1 [(82, .int .i64 3)] hF (by kernel_rfl) fun a hF => ?_
                    refine wpList_nil ?_
                    refine hK171 _ _ ?_
                    refine rounds_k fun K185 hK185 => ?_
                    refine wp_seq_k fun K186 hK186 => ?_
                    refine wp_region_lit ?_
                    refine wl (eP 83 (v0 := .bool (decide (3 < 4))) (v := .bool true) hF (by kernel_rfl) (fun _ => by kernel_rfl) (bT (by omega)) fun a hF => ?_)
                    refine wpList_nil ?_
                    refine hK186 _ _ ?_
                    refine wp_seq_k fun K187 hK187 => ?_
                    refine cT hF (by kernel_rfl) (by kernel_rfl) ?_
                    refine wp_skip ?_
                    refine hK187 _ _ ?_
                    refine wp_seq_k fun K188 hK188 => ?_
                    refine wp_block ?_
                    refine wp_seq_k fun K189 hK189 => ?_
                    refine wp_region_lit ?_
                    refine sB 2 [(84, .slice AA31 (k + lsl.length) cc31), (16, .slice AA31 (k + lsl.length) cc31)] hF (by kernel_rfl) fun a hF => ?_
                    refine wpList_nil ?_
                    refine hK189 _ _ ?_
                    refine wp_seq_k fun K190 hK190 => ?_
                    refine wp_region_lit ?_
                    refine wl (eL 85 3 0 (v := .agg #[.int .i64 sv0, .int .i64 sv1]) hF hM (by kernel_rfl) rfl rfl (by kernel_rfl) (by kernel_rfl) fun a w hF hM => ?_)
                    refine wl (eL 86 7 0 (v := .agg #[.int .i64 (1 + n0 % 2097152), .int .i64 (n1 % 268435457)]) hF hM (by kernel_rfl) rfl rfl (by kernel_rfl) (by kernel_rfl) fun a w hF hM => ?_)
                    refine wl (eL 87 17 0 (v := .agg #[.int .i64 (1 + n0 % 2097152), .int .i64 (n1 % 268435457)]) hF hM (by kernel_rfl) rfl rfl (by kernel_rfl) (by kernel_rfl) fun a w hF hM => ?_)
                    refine sB 2 [(88, .agg #[.int .i64 sv0, .int .i64 sv1, .int .i64 (1 + n0 % 2097152), .int .i64 (n1 % 268435457), .int .i64 (1 + n0 % 2097152), .int .i64 (n1 % 268435457)]), (89, .int .i64 0)] hF (by kernel_rfl) fun a hF => ?_
                    refine wpList_nil ?_
                    refine hK190 _ _ ?_
                    refine wp_block ?_
                    refine wp_loop_k (G := Nat) (fun gg a w => Fr 115 [(89, some (.int .i64 (gg : Int))), (7, some (.pointer (some ⟨bb1, 0, none⟩))), (11, some (.pointer (some ⟨bb4, 0, none⟩))), (14, some (.pointer (some ⟨bb17, 0, none⟩))), (16, some (.slice AA31 (k + lsl.length) cc31)), (81, some (.agg #[.slice A lsl.length c, .slice G1 k c1, .slice AA28 (1 + k) cc28, .slice AA31 (k + lsl.length) cc31])), (82, some (.int .i64 3)), (88, some (.agg #[.int .i64 sv0, .int .i64 sv1, .int .i64 (1 + n0 % 2097152), .int .i64 (n1 % 268435457), .int .i64 (1 + n0 % 2097152), .int .i64 (n1 % 268435457)]))] a ∧ Mem w0.heap.size w0 [(1, some (.ro A (flat2 l))), (2, some (.ro Da (flat4 ds))), (3, some (.row bb1 23 #[.int .i64 sv0, .int .i64 sv1])), (6, some (.ro A (flat2 lsl))), (7, some (.row bb4 23 #[.int .i64 (1 + n0 % 2097152), .int .i64 (n1 % 268435457)])), (8, some (.own (.slice G1 k c1) 39 2 k (flat2 mm))), (17, some (.row bb17 23 #[.int .i64 (1 + n0 % 2097152), .int .i64 (n1 % 268435457)])), (24, some (.own (.slice AA28 (1 + k) cc28) 39 2 (1 + k) (flat2 (([(b0, b1)] : List (Int × Int)) ++ mm)))), (25, some (.own (.slice AA31 (k + lsl.length) cc31) 39 2 (k + lsl.length) (flat2 (mm ++ lsl))))] w ∧ ((gg : Int) ≤ 3)) (fun gg => 3 - gg) (0) ?_ ?_
                    · refine ⟨(((((((((Fr.nil hF).c hF (i := 88) rfl rfl).c hF (i := 82) rfl rfl).c hF (i := 81) rfl rfl).c hF (i := 16) rfl rfl).c hF (i := 14) rfl rfl).c hF (i := 11) rfl rfl).c hF (i := 7) rfl rfl).c hF (i := 89) rfl (vi (show (0 : Int) = (0 : Int) from by omega))), (hM.sub (((((((((Sub.nil.c (k := 25) rfl rfl).c (k := 24) rfl rfl).c (k := 17) rfl rfl).c (k := 8) rfl rfl).c (k := 7) rfl rfl).c (k := 6) rfl rfl).c (k := 3) rfl rfl).c (k := 2) rfl rfl).c (k := 1) rfl rfl)), (show (0 : Int) ≤ 3 from by omega)⟩
                    · intro gg a w hI
                      intro K191 hK191
                      obtain ⟨kc12, rfl⟩ : ∃ x, x = gg := ⟨_, rfl⟩
                      try dsimp only at hI hK191
                      obtain ⟨hF, hM, hz30⟩ := hI
                      refine wp_seq_k fun K192 hK192 => ?_
                      refine wp_region_lit ?_
                      refine sB 1 [(90, .bool (decide ((kc12 : Int) < 3)))] hF (by kernel_rfl) fun a hF => ?_
                      refine wpList_nil ?_
                      refine hK192 _ _ ?_
                      refine wp_seq_k fun K193 hK193 => ?_
                      by_cases hz31 : (kc12 : Int) < 3
                      · skip
                        replace hF := hF.c hF (i := 90) (v := .bool true) rfl (bT hz31)
                        refine cT hF (by kernel_rfl) (by kernel_rfl) ?_
                        refine wp_skip ?_
                        refine hK193 _ _ ?_
                        refine wp_seq_k fun K194 hK194 => ?_
                        refine wp_block ?_
                        refine wp_seq_k fun K195 hK195 => ?_
                        refine wp_region_lit ?_
                        obtain ⟨ys24, hl24, hm24, hy24⟩ := idx_agg (P := Try.prog) (t := 45) (e := 23) (len := 3) (m := 2) (kd := .i64) [sv0, sv1, 1 + n0 % 2097152, n1 % 268435457, 1 + n0 % 2097152, n1 % 268435457] ((kc12 : Int)) (by kernel_rfl) (by kernel_rfl) (by omega) rfl
                        obtain ⟨y24_0, y24_1, rfl⟩ := len2 hl24
                        refine wl (eM 91 (v := .agg #[.int .i64 y24_0, .int .i64 y24_1]) hF hM (by kernel_rfl) (yld_index (X := .agg #[.int .i64 sv0, .int .i64 sv1, .int .i64 (1 + n0 % 2097152), .int .i64 (n1 % 268435457), .int .i64 (1 + n0 % 2097152), .int .i64 (n1 % 268435457)]) (I := .int .i64 ((kc12 : Int))) hF rfl (by kernel_rfl) (by kernel_rfl) (by kernel_rfl) (fun w => hy24 w)) fun a w hF hM => ?_)
                        refine wl (eN 18 29 (t := 23) (fun b => .pointer (some ⟨b, 0, none⟩)) #[.int .i64 0, .int .i64 0] hF hM (by kernel_rfl) (fun _ => by kernel_rfl) fun bb35 a w hF hM => ?_)
                        refine wl (sStore (i := 29) (off := 0) (cs' := #[.int .i64 y24_0, .int .i64 y24_1]) hF hM (by kernel_rfl) rfl rfl (by kernel_rfl) (by kernel_rfl) rfl (by kernel_rfl) fun w hM => ?_)
                        refine wpList_nil ?_
                        refine hK195 _ _ ?_
                        refine wp_seq_k fun K196 hK196 => ?_
                        refine wp_region_lit ?_
                        refine sB 1 [(93, .slice AA31 (k + lsl.length) cc31)] hF (by kernel_rfl) fun a hF => ?_
                        refine wl (eL 94 29 0 (v := .agg #[.int .i64 y24_0, .int .i64 y24_1]) hF hM (by kernel_rfl) rfl rfl (by kernel_rfl) (by kernel_rfl) fun a w hF hM => ?_)
                        refine wl (eM 95 (v := .tuple #[.int .i64 (dlV y24_0 y24_1 (mm ++ lsl)), .int .i64 (dlE y24_0 y24_1 (mm ++ lsl))]) hF hM (by kernel_rfl) (yld_call (f := 20) (args := #[.slice AA31 (k + lsl.length) cc31, .agg #[.int .i64 y24_0, .int .i64 y24_1]]) hF (by kernel_rfl) (fun _ => by kernel_rfl) (fun w hM => (by rw [show k + lsl.length = (mm ++ lsl).length from by first | omega | (simp; done) | (simp; omega)]; exact delay_w y24_0 y24_1 AA31 (mm ++ lsl) _ w (ro_of_own (hM.ok 25 _ rfl))))) fun a w hF hM => ?_)
                        refine sB 5 [(92, .tuple #[.int .i64 (dlV y24_0 y24_1 (mm ++ lsl)), .int .i64 (dlE y24_0 y24_1 (mm ++ lsl))]), (96, .int .i64 (dlV y24_0 y24_1 (mm ++ lsl))), (97, .int .i64 (dlE y24_0 y24_1 (mm ++ lsl))), (19, .int .i64 (dlV y24_0 y24_1 (mm ++ lsl))), (20, .int .i64 (dlE y24_0 y24_1 (mm ++ lsl)))] hF (by kernel_rfl) fun a hF => ?_
                        refine wpList_nil ?_
                        refine hK196 _ _ ?_
                        refine wp_seq_k fun K197 hK197 => ?_
                        refine wp_region_lit ?_
                        refine sB 1 [(99, .slice AA31 (k + lsl.length) cc31)] hF (by kernel_rfl) fun a hF => ?_
                        refine wl (eL 100 29 0 (v := .agg #[.int .i64 y24_0, .int .i64 y24_1]) hF hM (by kernel_rfl) rfl rfl (by kernel_rfl) (by kernel_rfl) fun a w hF hM => ?_)
                        refine wl (eM 101 (v := .tuple #[.int .i64 (dlV y24_0 y24_1 (mm ++ lsl)), .int .i64 (dlE y24_0 y24_1 (mm ++ lsl))]) hF hM (by kernel_rfl) (yld_call (f := 21) (args := #[.slice AA31 (k + lsl.length) cc31, .agg #[.int .i64 y24_0, .int .i64 y24_1]]) hF (by kernel_rfl) (fun _ => by kernel_rfl) (fun w hM => (by rw [show k + lsl.length = (mm ++ lsl).length from by first | omega | (simp; done) | (simp; omega)]; exact rDelay_w y24_0 y24_1 AA31 (mm ++ lsl) _ w (ro_of_own (hM.ok 25 _ rfl))))) fun a w hF hM => ?_)
                        refine sB 5 [(98, .tuple #[.int .i64 (dlV y24_0 y24_1 (mm ++ lsl)), .int .i64 (dlE y24_0 y24_1 (mm ++ lsl))]), (102, .int .i64 (dlV y24_0 y24_1 (mm ++ lsl))), (103, .int .i64 (dlE y24_0 y24_1 (mm ++ lsl))), (21, .int .i64 (dlV y24_0 y24_1 (mm ++ lsl))), (22, .int .i64 (dlE y24_0 y24_1 (mm ++ lsl)))] hF (by kernel_rfl) fun a hF => ?_
                        refine wpList_nil ?_
                        refine hK197 _ _ ?_
                        refine wp_seq_k fun K198 hK198 => ?_
                        refine wp_region_lit ?_
                        refine sB 2 [(104, .int .i64 (dlV y24_0 y24_1 (mm ++ lsl))), (105, .int .i64 (dlV y24_0 y24_1 (mm ++ lsl)))] hF (by kernel_rfl) fun a hF => ?_
                        refine wl (eP 106 (v0 := .bool (!decide (dlV y24_0 y24_1 (mm ++ lsl) = dlV y24_0 y24_1 (mm ++ lsl)))) (v := .bool false) hF (by kernel_rfl) (fun _ => by kernel_rfl) (nT (by omega)) fun a hF => ?_)
                        refine sB 3 [(107, .bool false), (108, .int .i64 (dlE y24_0 y24_1 (mm ++ lsl))), (109, .int .i64 (dlE y24_0 y24_1 (mm ++ lsl)))] hF (by kernel_rfl) fun a hF => ?_
                        refine wl (eP 110 (v0 := .bool (!decide (dlE y24_0 y24_1 (mm ++ lsl) = dlE y24_0 y24_1 (mm ++ lsl)))) (v := .bool false) hF (by kernel_rfl) (fun _ => by kernel_rfl) (nT (by omega)) fun a hF => ?_)
                        refine sB 1 [(111, .bool false)] hF (by kernel_rfl) fun a hF => ?_
                        refine wpList_nil ?_
                        refine hK198 _ _ ?_
                        refine cF hF (by kernel_rfl) (by kernel_rfl) ?_
                        refine wp_skip ?_
                        refine hK194 _ _ ?_
                        refine wp_region_lit ?_
                        refine wl (eP 112 (v0 := .int .i64 (IntKind.i64.wrap ((kc12 : Int) + 1))) (v := .int .i64 ((kc12 : Int) + 1)) hF (by kernel_rfl) (fun _ => by kernel_rfl) (wi (by omega)) fun a hF => ?_)
                        refine sB 1 [(89, .int .i64 ((kc12 : Int) + 1))] hF (by kernel_rfl) fun a hF => ?_
                        refine wpList_nil ?_
                        refine hK191 _ _ ⟨(kc12 + 1), ⟨(((((((((Fr.nil hF).c hF (i := 88) rfl rfl).c hF (i := 82) rfl rfl).c hF (i := 81) rfl rfl).c hF (i := 16) rfl rfl).c hF (i := 14) rfl rfl).c hF (i := 11) rfl rfl).c hF (i := 7) rfl rfl).c hF (i := 89) rfl (vi (show ((kc12 : Int) + 1 : Int) = ((kc12 + 1) : Int) from by omega))), (hM.sub (((((((((Sub.nil.c (k := 25) rfl rfl).c (k := 24) rfl rfl).c (k := 17) rfl rfl).c (k := 8) rfl rfl).c (k := 7) rfl rfl).c (k := 6) rfl rfl).c (k := 3) rfl rfl).c (k := 2) rfl rfl).c (k := 1) rfl rfl)), (show ((kc12 + 1) : Int) ≤ 3 from by omega)⟩, (show 3 - (kc12 + 1) < 3 - kc12 from by omega)⟩
                      · skip
                        replace hF := hF.c hF (i := 90) (v := .bool false) rfl (bF hz31)
                        refine cF hF (by kernel_rfl) (by kernel_rfl) ?_
                        refine wp_exit ?_
                        refine hK188 _ _ ?_
                        refine wp_region_lit ?_
                        refine wl (eP 113 (v0 := .int .i64 (IntKind.i64.wrap (3 + 1))) (v := .int .i64 4) hF (by kernel_rfl) (fun _ => by kernel_rfl) (vi (by decide)) fun a hF => ?_)
                        refine sB 1 [(82, .int .i64 4)] hF (by kernel_rfl) fun a hF => ?_
                        refine wpList_nil ?_
                        refine hK185 _ _ ?_
                        refine rounds_k fun K199 hK199 => ?_
                        refine wp_seq_k fun K200 hK200 => ?_
                        refine wp_region_lit ?_
                        refine wl (eP 83 (v0 := .bool (decide (4 < 4))) (v := .bool false) hF (by kernel_rfl) (fun _ => by kernel_rfl) (bF (by omega)) fun a hF => ?_)
                        refine wpList_nil ?_
                        refine hK200 _ _ ?_
                        refine wp_seq_k fun K201 hK201 => ?_
                        refine cF hF (by kernel_rfl) (by kernel_rfl) ?_
                        refine wp_exit ?_
                        refine hK141 _ _ ?_
                        refine wp_seq_k fun K202 hK202 => ?_
                        refine wp_region_lit ?_
                        refine wl (eM 114 (v := .bool true) hF hM (by kernel_rfl) (yld_call (f := 18) (args := #[]) hF (by kernel_rfl) (fun _ => by kernel_rfl) (fun w hM => works4_w w)) fun a w hF hM => ?_)
                        refine sB 1 [(10, .bool true)] hF (by kernel_rfl) fun a hF => ?_
                        refine wpList_nil ?_
                        refine hK202 _ _ ?_
                        refine wp_ret ?_
                        refine hR0 _ _ ?_
                        refine ret_of hF hM (.tmp rfl (.nil)) ?_
                        exact ⟨rfl, hM.bel⟩

end Go.Proofs.Ytoighcbbaacnaaa
