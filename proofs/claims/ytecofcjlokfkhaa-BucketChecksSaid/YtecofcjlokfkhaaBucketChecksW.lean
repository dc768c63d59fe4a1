/-
  The walk of BucketChecks.
-/
import Derived.Test.YtecofcjlokfkhaaBkD
import Derived.Test.YtecofcjlokfkhaaCfTrW
namespace Go.Proofs.Ytecofcjlokfkhaa
open Go.RowKit
set_option linter.unusedVariables false
set_option linter.unusedSimpArgs false

set_option maxRecDepth 100000 in
set_option maxHeartbeats 4000000 in
theorem bucketChecks_walk (b0 b1 : Int) (bu ra : Int) (Ga : Option Addr) (gaps : List Int) (cg : Nat) (Sa : Option Addr) (sizes : List Int) (cs : Nat) (A : Option Addr) (l : List (Int × Int)) (c : Nat) (ax ay t : Int) (w0 : World) (hA : Ro w0 A (flat2 l)) (hlc : l.length ≤ c) (hc : c ≤ 9223372036854775807) (hGa : Ro w0 Ga (gaps.map (Value.int .u16))) (hSa : Ro w0 Sa (sizes.map (Value.int .u16))) (hg : All16 gaps) (hs : All16 sizes) (hmg : gaps.length ≤ 9223372036854775807) (hms : sizes.length ≤ 9223372036854775807) (h : 0 ≤ bu ∧ bu < 4294967296 ∧ 0 ≤ ra ∧ ra < 4294967296) :
    Calls Try.prog 3 #[.agg #[.int .i64 b0, .int .i64 b1], .agg #[.int .u32 bu, .int .u32 ra, .slice Ga gaps.length cg, .slice Sa sizes.length cs], .slice A l.length c, .agg #[.int .i64 ax, .int .i64 ay], .int .i64 t] w0 (Ret w0 (.bool true)) := by
  refine enterK 170 Try.func3 rfl rfl rfl ?_
  intro a hF Q0 hR0 hN0
  have hM := Mem.start w0
  replace hM := hM.addOld 1 hGa (Nat.le_refl _)
  replace hM := hM.addOld 2 hSa (Nat.le_refl _)
  replace hM := hM.addOld 3 hA (Nat.le_refl _)
  refine wp_seq_k fun K1 hK1 => ?_
  refine wp_region_lit ?_
  refine wl (eN 5 4 (t := 23) (fun b => .pointer (some ⟨b, 0, none⟩)) #[.int .i64 b0, .int .i64 b1] hF hM (by kernel_rfl) (fun _ => by kernel_rfl) fun bb1 a w hF hM => ?_)
  refine wl (eN 6 5 (t := 27) (fun b => .pointer (some ⟨b, 0, none⟩)) #[.int .u32 bu, .int .u32 ra, .slice Ga gaps.length cg, .slice Sa sizes.length cs] hF hM (by kernel_rfl) (fun _ => by kernel_rfl) fun bb2 a w hF hM => ?_)
  refine wl (eN 8 6 (t := 30) (fun b => .pointer (some ⟨b, 0, none⟩)) #[.int .i64 ax, .int .i64 ay] hF hM (by kernel_rfl) (fun _ => by kernel_rfl) fun bb3 a w hF hM => ?_)
  refine sB 1 [(10, .bool false)] hF (by kernel_rfl) fun a hF => ?_
  refine wpList_nil ?_
  refine hK1 _ _ ?_
  refine wp_seq_k fun K2 hK2 => ?_
  refine wp_region_lit ?_
  refine sB 3 [(29, .slice A l.length c), (30, .slice A l.length c), (31, .int .i64 (l.length : Int))] hF (by kernel_rfl) fun a hF => ?_
  refine wl (eP 32 (v0 := .int .i64 (if 14 < (l.length : Int) then 14 else (l.length : Int))) (v := .int .i64 (min (l.length : Int) 14)) hF (by kernel_rfl) (fun _ => by kernel_rfl) (vi (min_if _ _)) fun a hF => ?_)
  obtain ⟨lsl, e_lsl⟩ : ∃ x : List (Int × Int), x = l.take ((min (l.length : Int) 14).toNat) := ⟨_, rfl⟩
  have len_lsl : (lsl.length : Int) = min (l.length : Int) 14 := by rw [e_lsl, List.length_take]; omega
  replace hM := hM.roMore 7 3 (xs' := (flat2 lsl)) rfl (by rw [e_lsl]; exact flat2_sub _ _)
  refine wl (eM 33 (v := .slice A lsl.length c) hF hM (by kernel_rfl) (yld_slice0 (e := 23) (len := l.length) (cap := c) (m := lsl.length) (A := A) (i := min (l.length : Int) 14) hF rfl (by kernel_rfl) (by kernel_rfl) (by kernel_rfl) (by kernel_rfl) (by kernel_rfl) (by omega) (by omega)) fun a w hF hM => ?_)
  refine sB 1 [(2, .slice A lsl.length c)] hF (by kernel_rfl) fun a hF => ?_
  refine wpList_nil ?_
  refine hK2 _ _ ?_
  refine wp_seq_k fun K3 hK3 => ?_
  refine wp_region_lit ?_
  refine wl (eL 34 5 0 (v := .agg #[.int .u32 bu, .int .u32 ra, .slice Ga gaps.length cg, .slice Sa sizes.length cs]) hF hM (by kernel_rfl) rfl rfl (by kernel_rfl) (by kernel_rfl) fun a w hF hM => ?_)
  obtain ⟨dbb, e_dbb⟩ : ∃ x : Int, x = 1 + bu % 1048576 := ⟨_, rfl⟩
  obtain ⟨dbr, e_dbr⟩ : ∃ x : Int, x = 1 + ra % 2097152 := ⟨_, rfl⟩
  have hdb : bkE dbb dbr = 0 := by unfold bkE; omega
  have := bkE_ok hdb
  refine wl (eM 35 (v := .agg #[.int .i64 dbb, .int .i64 dbr]) hF hM (by kernel_rfl) (yld_call (f := 10) (args := #[.agg #[.int .u32 bu, .int .u32 ra, .slice Ga gaps.length cg, .slice Sa sizes.length cs]]) hF (by kernel_rfl) (fun _ => by kernel_rfl) (fun w hM => by rw [e_dbb, e_dbr]; exact draftBucket_w bu ra (.slice Ga gaps.length cg) (.slice Sa sizes.length cs) w (by omega))) fun a w hF hM => ?_)
  refine wl (eN 11 8 (t := 23) (fun b => .pointer (some ⟨b, 0, none⟩)) #[.int .i64 0, .int .i64 0] hF hM (by kernel_rfl) (fun _ => by kernel_rfl) fun bb4 a w hF hM => ?_)
  refine wl (sStore (i := 8) (off := 0) (cs' := #[.int .i64 dbb, .int .i64 dbr]) hF hM (by kernel_rfl) rfl rfl (by kernel_rfl) (by kernel_rfl) rfl (by kernel_rfl) fun w hM => ?_)
  refine wpList_nil ?_
  refine hK3 _ _ ?_
  refine wp_seq_k fun K4 hK4 => ?_
  refine wp_region_lit ?_
  refine sB 1 [(12, .slice none 0 0)] hF (by kernel_rfl) fun a hF => ?_
  refine wpList_nil ?_
  refine hK4 _ _ ?_
  refine wp_seq_k fun K5 hK5 => ?_
  refine wp_seq_k fun K6 hK6 => ?_
  refine wp_region_lit ?_
  refine sB 1 [(13, .int .i64 0)] hF (by kernel_rfl) fun a hF => ?_
  refine wpList_nil ?_
  refine hK6 _ _ ?_
  refine wp_block ?_
  replace hM := hM.addNil 9 23 2
  refine wp_loop_k (G := Nat × List (Int × Int) × Option Addr × Nat) (fun gg a w => Fr 170 [(12, some (.slice gg.2.2.1 gg.1 gg.2.2.2)), (13, some (.int .i64 (gg.1 : Int))), (2, some (.slice A lsl.length c)), (4, some (.int .i64 t)), (5, some (.pointer (some ⟨bb1, 0, none⟩))), (6, some (.pointer (some ⟨bb2, 0, none⟩))), (8, some (.pointer (some ⟨bb3, 0, none⟩))), (10, some (.bool false)), (11, some (.pointer (some ⟨bb4, 0, none⟩)))] a ∧ Mem w0.heap.size w0 [(1, some (.ro Ga (gaps.map (Value.int .u16)))), (2, some (.ro Sa (sizes.map (Value.int .u16)))), (3, some (.ro A (flat2 l))), (4, some (.row bb1 23 #[.int .i64 b0, .int .i64 b1])), (5, some (.row bb2 27 #[.int .u32 bu, .int .u32 ra, .slice Ga gaps.length cg, .slice Sa sizes.length cs])), (6, some (.row bb3 30 #[.int .i64 ax, .int .i64 ay])), (7, some (.ro A (flat2 lsl))), (8, some (.row bb4 23 #[.int .i64 dbb, .int .i64 dbr])), (9, some (.own (.slice gg.2.2.1 gg.1 gg.2.2.2) 23 2 gg.1 (flat2 gg.2.1)))] w ∧ ((gg.1 : Int) ≤ (lsl.length : Int)) ∧ ((gg.2.1.length : Int) = (gg.1 : Int))) (fun gg => lsl.length - gg.1) (0, [], none, 0) ?_ ?_
  · refine ⟨((((((((((Fr.nil hF).c hF (i := 11) rfl rfl).c hF (i := 10) rfl rfl).c hF (i := 8) rfl rfl).c hF (i := 6) rfl rfl).c hF (i := 5) rfl rfl).c hF (i := 4) rfl rfl).c hF (i := 2) rfl rfl).c hF (i := 13) rfl (vi (show (0 : Int) = (0 : Int) from by omega))).c hF (i := 12) rfl rfl), (hM.sub (((((((((Sub.nil.c (k := 9) rfl rfl).c (k := 8) rfl rfl).c (k := 7) rfl rfl).c (k := 6) rfl rfl).c (k := 5) rfl rfl).c (k := 4) rfl rfl).c (k := 3) rfl rfl).c (k := 2) rfl rfl).c (k := 1) rfl rfl)), (show (0 : Int) ≤ (lsl.length : Int) from by omega), (show (([]).length : Int) = (0 : Int) from by rfl)⟩
  · intro gg a w hI
    intro K7 hK7
    obtain ⟨k, mm, G1, c1⟩ := gg
    try dsimp only at hI hK7
    obtain ⟨hF, hM, hz1, hz2⟩ := hI
    refine wp_seq_k fun K8 hK8 => ?_
    refine wp_seq_k fun K9 hK9 => ?_
    refine wp_region_lit ?_
    refine sB 4 [(36, .int .i64 (k : Int)), (37, .slice A lsl.length c), (38, .int .i64 (lsl.length : Int)), (39, .bool (decide ((k : Int) < (lsl.length : Int))))] hF (by kernel_rfl) fun a hF => ?_
    refine wpList_nil ?_
    refine hK9 _ _ ?_
    by_cases hz3 : (k : Int) < (lsl.length : Int)
    · skip
      replace hF := hF.c hF (i := 39) (v := .bool true) rfl (bT hz3)
      refine cT hF (by kernel_rfl) (by kernel_rfl) ?_
      refine wp_skip ?_
      refine hK8 _ _ ?_
      refine wp_seq_k fun K10 hK10 => ?_
      refine wp_block ?_
      refine rF (by kernel_rfl) (by kernel_rfl) (fun S a w => ∃ bb5 : Nat, ∃ AA6 : Option Addr, ∃ cc6 : Nat, Fr 170 [(2, some (.slice A lsl.length c)), (4, some (.int .i64 t)), (5, some (.pointer (some ⟨bb1, 0, none⟩))), (6, some (.pointer (some ⟨bb2, 0, none⟩))), (8, some (.pointer (some ⟨bb3, 0, none⟩))), (10, some (.bool false)), (11, some (.pointer (some ⟨bb4, 0, none⟩))), (12, (cond (S.getD 22 false) (some (.slice AA6 (k + 1) cc6)) (some (.slice G1 k c1)))), (13, some (.int .i64 (k : Int))), (36, some (.int .i64 (k : Int))), (37, some (.slice A lsl.length c)), (38, some (.int .i64 (lsl.length : Int))), (39, some (.bool true)), (42, (cond (S.getD 0 false) (some (.slice G1 k c1)) none)), (43, (cond (S.getD 1 false) (some (.slice A lsl.length c)) none)), (44, (cond (S.getD 2 false) (some (.int .i64 (k : Int))) none)), (45, (cond (S.getD 3 false) (some (.pointer (some (ea A (k * 2))))) none)), (46, (cond (S.getD 4 false) (some (.pointer (some (ea A (k * 2))))) none)), (47, (cond (S.getD 5 false) (some (.int .i64 (pr lsl k).1)) none)), (48, (cond (S.getD 6 false) (some (.int .u64 ((pr lsl k).1 % 18446744073709551616))) none)), (49, (cond (S.getD 7 false) (some (.int .u64 ((pr lsl k).1 % 18446744073709551616 % 262144))) none)), (50, (cond (S.getD 8 false) (some (.int .i64 ((pr lsl k).1 % 18446744073709551616 % 262144))) none)), (51, (cond (S.getD 9 false) (some (.int .i64 (1 + (pr lsl k).1 % 18446744073709551616 % 262144))) none)), (52, (cond (S.getD 10 false) (some (.slice A lsl.length c)) none)), (53, (cond (S.getD 11 false) (some (.int .i64 (k : Int))) none)), (54, (cond (S.getD 12 false) (some (.pointer (some (ea A (k * 2))))) none)), (55, (cond (S.getD 13 false) (some (.pointer (some (ea A (k * 2 + 1))))) none)), (56, (cond (S.getD 14 false) (some (.int .i64 (pr lsl k).2)) none)), (57, (cond (S.getD 15 false) (some (.int .u64 ((pr lsl k).2 % 18446744073709551616))) none)), (58, (cond (S.getD 16 false) (some (.int .u64 ((pr lsl k).2 % 18446744073709551616 % 524288))) none)), (59, (cond (S.getD 17 false) (some (.int .i64 ((pr lsl k).2 % 18446744073709551616 % 524288))) none)), (60, (cond (S.getD 18 false) (some (.int .i64 (1 + (pr lsl k).2 % 18446744073709551616 % 524288))) none)), (61, (cond (S.getD 19 false) (some (.agg #[.int .i64 (1 + (pr lsl k).1 % 18446744073709551616 % 262144), .int .i64 (1 + (pr lsl k).2 % 18446744073709551616 % 524288)])) none)), (62, (cond (S.getD 20 false) (some (.slice (some ⟨bb5, 0, none⟩) 1 1)) none)), (63, (cond (S.getD 21 false) (some (.slice AA6 (k + 1) cc6)) none))] a ∧ Mem w0.heap.size w0 [(1, some (.ro Ga (gaps.map (Value.int .u16)))), (2, some (.ro Sa (sizes.map (Value.int .u16)))), (3, some (.ro A (flat2 l))), (4, some (.row bb1 23 #[.int .i64 b0, .int .i64 b1])), (5, some (.row bb2 27 #[.int .u32 bu, .int .u32 ra, .slice Ga gaps.length cg, .slice Sa sizes.length cs])), (6, some (.row bb3 30 #[.int .i64 ax, .int .i64 ay])), (7, some (.ro A (flat2 lsl))), (8, some (.row bb4 23 #[.int .i64 dbb, .int .i64 dbr])), (9, (cond (S.getD 21 false) (some (.own (.slice AA6 (k + 1) cc6) 23 2 (k + 1) (flat2 (mm ++ [(1 + (pr lsl k).1 % 18446744073709551616 % 262144, 1 + (pr lsl k).2 % 18446744073709551616 % 524288)])))) (some (.own (.slice G1 k c1) 23 2 k (flat2 mm))))), (10, (cond (S.getD 20 false) (some (.row bb5 23 #[.int .i64 (1 + (pr lsl k).1 % 18446744073709551616 % 262144), .int .i64 (1 + (pr lsl k).2 % 18446744073709551616 % 524288)])) none))] w) ?_ ?_ ?_
      · exact ⟨0, none, 0, ((((((((((((((((((((((((((((((((((((Fr.nil hF).co hF (i := 63) (by kernel_rfl)).co hF (i := 62) (by kernel_rfl)).co hF (i := 61) (by kernel_rfl)).co hF (i := 60) (by kernel_rfl)).co hF (i := 59) (by kernel_rfl)).co hF (i := 58) (by kernel_rfl)).co hF (i := 57) (by kernel_rfl)).co hF (i := 56) (by kernel_rfl)).co hF (i := 55) (by kernel_rfl)).co hF (i := 54) (by kernel_rfl)).co hF (i := 53) (by kernel_rfl)).co hF (i := 52) (by kernel_rfl)).co hF (i := 51) (by kernel_rfl)).co hF (i := 50) (by kernel_rfl)).co hF (i := 49) (by kernel_rfl)).co hF (i := 48) (by kernel_rfl)).co hF (i := 47) (by kernel_rfl)).co hF (i := 46) (by kernel_rfl)).co hF (i := 45) (by kernel_rfl)).co hF (i := 44) (by kernel_rfl)).co hF (i := 43) (by kernel_rfl)).co hF (i := 42) (by kernel_rfl)).co hF (i := 39) (by kernel_rfl)).co hF (i := 38) (by kernel_rfl)).co hF (i := 37) (by kernel_rfl)).co hF (i := 36) (by kernel_rfl)).co hF (i := 13) (by kernel_rfl)).co hF (i := 12) (by kernel_rfl)).co hF (i := 11) (by kernel_rfl)).co hF (i := 10) (by kernel_rfl)).co hF (i := 8) (by kernel_rfl)).co hF (i := 6) (by kernel_rfl)).co hF (i := 5) (by kernel_rfl)).co hF (i := 4) (by kernel_rfl)).co hF (i := 2) (by kernel_rfl)), hM.drew.sub ((((((((((Sub.nil.co (k := 10) (by kernel_rfl)).co (k := 9) (by kernel_rfl)).co (k := 8) (by kernel_rfl)).co (k := 7) (by kernel_rfl)).co (k := 6) (by kernel_rfl)).co (k := 5) (by kernel_rfl)).co (k := 4) (by kernel_rfl)).co (k := 3) (by kernel_rfl)).co (k := 2) (by kernel_rfl)).co (k := 1) (by kernel_rfl))⟩
      · refine stC ?_ (stC ?_ (stC ?_ (stC ?_ (stC ?_ (stC ?_ (stC ?_ (stC ?_ (stC ?_ (stC ?_ (stC ?_ (stC ?_ (stC ?_ (stC ?_ (stC ?_ (stC ?_ (stC ?_ (stC ?_ (stC ?_ (stC ?_ (stC ?_ (stC ?_ (stC ?_ (trivial)))))))))))))))))))))))
        · intro s0 s1 s2 s3 s4 s5 s6 s7 s8 s9 s10 s11 s12 s13 s14 s15 s16 s17 s18 s19 s20 s21 s22 hc hi hp a w hS
          obtain rfl : s0 = false := hi
          obtain rfl : s21 = false := hc.f 21 0 (by kernel_rfl) rfl
          obtain rfl : s22 = false := hc.f 22 0 (by kernel_rfl) rfl
          obtain ⟨bb5, AA6, cc6, hF, hM⟩ := hS
          refine eP 42 (v0 := .slice G1 k c1) (v := .slice G1 k c1) hF (by kernel_rfl) (fun _ => by kernel_rfl) rfl fun a hF => ?_
          exact ⟨bb5, AA6, cc6, ((hF.repl 13 (by kernel_rfl)).cast (by kernel_rfl)), (hM.cast (by kernel_rfl))⟩
        · intro s0 s1 s2 s3 s4 s5 s6 s7 s8 s9 s10 s11 s12 s13 s14 s15 s16 s17 s18 s19 s20 s21 s22 hc hi hp a w hS
          obtain rfl : s1 = false := hi
          obtain ⟨bb5, AA6, cc6, hF, hM⟩ := hS
          refine eP 43 (v0 := .slice A lsl.length c) (v := .slice A lsl.length c) hF (by kernel_rfl) (fun _ => by kernel_rfl) rfl fun a hF => ?_
          exact ⟨bb5, AA6, cc6, ((hF.repl 14 (by kernel_rfl)).cast (by kernel_rfl)), (hM.cast (by kernel_rfl))⟩
        · intro s0 s1 s2 s3 s4 s5 s6 s7 s8 s9 s10 s11 s12 s13 s14 s15 s16 s17 s18 s19 s20 s21 s22 hc hi hp a w hS
          obtain rfl : s2 = false := hi
          obtain ⟨bb5, AA6, cc6, hF, hM⟩ := hS
          refine eP 44 (v0 := .int .i64 (k : Int)) (v := .int .i64 (k : Int)) hF (by kernel_rfl) (fun _ => by kernel_rfl) rfl fun a hF => ?_
          exact ⟨bb5, AA6, cc6, ((hF.repl 15 (by kernel_rfl)).cast (by kernel_rfl)), (hM.cast (by kernel_rfl))⟩
        · intro s0 s1 s2 s3 s4 s5 s6 s7 s8 s9 s10 s11 s12 s13 s14 s15 s16 s17 s18 s19 s20 s21 s22 hc hi hp a w hS
          obtain rfl : s3 = false := hi
          obtain rfl : s2 = true := hp 2 (by kernel_rfl)
          obtain rfl : s1 = true := hp 1 (by kernel_rfl)
          obtain ⟨bb5, AA6, cc6, hF, hM⟩ := hS
          refine eM 45 (v := .pointer (some (ea A (k * 2)))) hF hM (by kernel_rfl) (yld_ix (kd := .i64) (e := 23) (len := lsl.length) (cap := c) (i := (k : Int)) (size := 2) (A := A) hF rfl (by kernel_rfl) (by kernel_rfl) (by kernel_rfl) (by kernel_rfl) (by kernel_rfl) (roK 7 rfl) (by omega) (by omega) (by rw [flat2_length]; omega)) fun a w hF hM => ?_
          exact ⟨bb5, AA6, cc6, ((hF.repl 16 (by kernel_rfl)).cast (by kernel_rfl)), (hM.cast (by kernel_rfl))⟩
        · intro s0 s1 s2 s3 s4 s5 s6 s7 s8 s9 s10 s11 s12 s13 s14 s15 s16 s17 s18 s19 s20 s21 s22 hc hi hp a w hS
          obtain rfl : s4 = false := hi
          obtain rfl : s3 = true := hp 3 (by kernel_rfl)
          obtain ⟨bb5, AA6, cc6, hF, hM⟩ := hS
          refine eP 46 (v0 := .pointer (some (ea A (k * 2)))) (v := .pointer (some (ea A (k * 2)))) hF (by kernel_rfl) (fun _ => by kernel_rfl) rfl fun a hF => ?_
          exact ⟨bb5, AA6, cc6, ((hF.repl 17 (by kernel_rfl)).cast (by kernel_rfl)), (hM.cast (by kernel_rfl))⟩
        · intro s0 s1 s2 s3 s4 s5 s6 s7 s8 s9 s10 s11 s12 s13 s14 s15 s16 s17 s18 s19 s20 s21 s22 hc hi hp a w hS
          obtain rfl : s5 = false := hi
          obtain rfl : s4 = true := hp 4 (by kernel_rfl)
          obtain ⟨bb5, AA6, cc6, hF, hM⟩ := hS
          refine eM 47 (v := .int .i64 (pr lsl k).1) hF hM (by kernel_rfl) (yld_ro1 (A := A) (j := k * 2) hF rfl (by kernel_rfl) (by kernel_rfl) (roK 7 rfl) (by kernel_rfl) (pr_fst (k := k) (by omega) (by omega))) fun a w hF hM => ?_
          exact ⟨bb5, AA6, cc6, ((hF.repl 18 (by kernel_rfl)).cast (by kernel_rfl)), (hM.cast (by kernel_rfl))⟩
        · intro s0 s1 s2 s3 s4 s5 s6 s7 s8 s9 s10 s11 s12 s13 s14 s15 s16 s17 s18 s19 s20 s21 s22 hc hi hp a w hS
          obtain rfl : s6 = false := hi
          obtain rfl : s5 = true := hp 5 (by kernel_rfl)
          obtain ⟨bb5, AA6, cc6, hF, hM⟩ := hS
          refine eP 48 (v0 := .int .u64 (IntKind.u64.wrap (pr lsl k).1)) (v := .int .u64 ((pr lsl k).1 % 18446744073709551616)) hF (by kernel_rfl) (fun _ => by kernel_rfl) (vi (u64_wrap _)) fun a hF => ?_
          exact ⟨bb5, AA6, cc6, ((hF.repl 19 (by kernel_rfl)).cast (by kernel_rfl)), (hM.cast (by kernel_rfl))⟩
        · intro s0 s1 s2 s3 s4 s5 s6 s7 s8 s9 s10 s11 s12 s13 s14 s15 s16 s17 s18 s19 s20 s21 s22 hc hi hp a w hS
          obtain rfl : s7 = false := hi
          obtain rfl : s6 = true := hp 6 (by kernel_rfl)
          obtain ⟨bb5, AA6, cc6, hF, hM⟩ := hS
          refine eM 49 (v := .int .u64 ((pr lsl k).1 % 18446744073709551616 % 262144)) hF hM (by kernel_rfl) (yld_rem ((pr lsl k).1 % 18446744073709551616) 262144 hF rfl (by kernel_rfl) (by kernel_rfl) (by kernel_rfl) (by decide) (Int.tmod_eq_emod_of_nonneg (by omega))) fun a w hF hM => ?_
          exact ⟨bb5, AA6, cc6, ((hF.repl 20 (by kernel_rfl)).cast (by kernel_rfl)), (hM.cast (by kernel_rfl))⟩
        · intro s0 s1 s2 s3 s4 s5 s6 s7 s8 s9 s10 s11 s12 s13 s14 s15 s16 s17 s18 s19 s20 s21 s22 hc hi hp a w hS
          obtain rfl : s8 = false := hi
          obtain rfl : s7 = true := hp 7 (by kernel_rfl)
          obtain ⟨bb5, AA6, cc6, hF, hM⟩ := hS
          refine eP 50 (v0 := .int .i64 (IntKind.i64.wrap ((pr lsl k).1 % 18446744073709551616 % 262144))) (v := .int .i64 ((pr lsl k).1 % 18446744073709551616 % 262144)) hF (by kernel_rfl) (fun _ => by kernel_rfl) (vi (IntWalk.i64_in _ (by omega))) fun a hF => ?_
          exact ⟨bb5, AA6, cc6, ((hF.repl 21 (by kernel_rfl)).cast (by kernel_rfl)), (hM.cast (by kernel_rfl))⟩
        · intro s0 s1 s2 s3 s4 s5 s6 s7 s8 s9 s10 s11 s12 s13 s14 s15 s16 s17 s18 s19 s20 s21 s22 hc hi hp a w hS
          obtain rfl : s9 = false := hi
          obtain rfl : s8 = true := hp 8 (by kernel_rfl)
          obtain ⟨bb5, AA6, cc6, hF, hM⟩ := hS
          refine eP 51 (v0 := .int .i64 (IntKind.i64.wrap (1 + (pr lsl k).1 % 18446744073709551616 % 262144))) (v := .int .i64 (1 + (pr lsl k).1 % 18446744073709551616 % 262144)) hF (by kernel_rfl) (fun _ => by kernel_rfl) (wi (by omega)) fun a hF => ?_
          exact ⟨bb5, AA6, cc6, ((hF.repl 22 (by kernel_rfl)).cast (by kernel_rfl)), (hM.cast (by kernel_rfl))⟩
        · intro s0 s1 s2 s3 s4 s5 s6 s7 s8 s9 s10 s11 s12 s13 s14 s15 s16 s17 s18 s19 s20 s21 s22 hc hi hp a w hS
          obtain rfl : s10 = false := hi
          obtain ⟨bb5, AA6, cc6, hF, hM⟩ := hS
          refine eP 52 (v0 := .slice A lsl.length c) (v := .slice A lsl.length c) hF (by kernel_rfl) (fun _ => by kernel_rfl) rfl fun a hF => ?_
          exact ⟨bb5, AA6, cc6, ((hF.repl 23 (by kernel_rfl)).cast (by kernel_rfl)), (hM.cast (by kernel_rfl))⟩
        · intro s0 s1 s2 s3 s4 s5 s6 s7 s8 s9 s10 s11 s12 s13 s14 s15 s16 s17 s18 s19 s20 s21 s22 hc hi hp a w hS
          obtain rfl : s11 = false := hi
          obtain ⟨bb5, AA6, cc6, hF, hM⟩ := hS
          refine eP 53 (v0 := .int .i64 (k : Int)) (v := .int .i64 (k : Int)) hF (by kernel_rfl) (fun _ => by kernel_rfl) rfl fun a hF => ?_
          exact ⟨bb5, AA6, cc6, ((hF.repl 24 (by kernel_rfl)).cast (by kernel_rfl)), (hM.cast (by kernel_rfl))⟩
        · intro s0 s1 s2 s3 s4 s5 s6 s7 s8 s9 s10 s11 s12 s13 s14 s15 s16 s17 s18 s19 s20 s21 s22 hc hi hp a w hS
          obtain rfl : s12 = false := hi
          obtain rfl : s11 = true := hp 11 (by kernel_rfl)
          obtain rfl : s10 = true := hp 10 (by kernel_rfl)
          obtain ⟨bb5, AA6, cc6, hF, hM⟩ := hS
          refine eM 54 (v := .pointer (some (ea A (k * 2)))) hF hM (by kernel_rfl) (yld_ix (kd := .i64) (e := 23) (len := lsl.length) (cap := c) (i := (k : Int)) (size := 2) (A := A) hF rfl (by kernel_rfl) (by kernel_rfl) (by kernel_rfl) (by kernel_rfl) (by kernel_rfl) (roK 7 rfl) (by omega) (by omega) (by rw [flat2_length]; omega)) fun a w hF hM => ?_
          exact ⟨bb5, AA6, cc6, ((hF.repl 25 (by kernel_rfl)).cast (by kernel_rfl)), (hM.cast (by kernel_rfl))⟩
        · intro s0 s1 s2 s3 s4 s5 s6 s7 s8 s9 s10 s11 s12 s13 s14 s15 s16 s17 s18 s19 s20 s21 s22 hc hi hp a w hS
          obtain rfl : s13 = false := hi
          obtain rfl : s12 = true := hp 12 (by kernel_rfl)
          obtain ⟨bb5, AA6, cc6, hF, hM⟩ := hS
          refine eP 55 (v0 := .pointer (some (ea A (k * 2 + 1)))) (v := .pointer (some (ea A (k * 2 + 1)))) hF (by kernel_rfl) (fun _ => by kernel_rfl) rfl fun a hF => ?_
          exact ⟨bb5, AA6, cc6, ((hF.repl 26 (by kernel_rfl)).cast (by kernel_rfl)), (hM.cast (by kernel_rfl))⟩
        · intro s0 s1 s2 s3 s4 s5 s6 s7 s8 s9 s10 s11 s12 s13 s14 s15 s16 s17 s18 s19 s20 s21 s22 hc hi hp a w hS
          obtain rfl : s14 = false := hi
          obtain rfl : s13 = true := hp 13 (by kernel_rfl)
          obtain ⟨bb5, AA6, cc6, hF, hM⟩ := hS
          refine eM 56 (v := .int .i64 (pr lsl k).2) hF hM (by kernel_rfl) (yld_ro1 (A := A) (j := k * 2 + 1) hF rfl (by kernel_rfl) (by kernel_rfl) (roK 7 rfl) (by kernel_rfl) (pr_snd (k := k) (by omega) (by omega))) fun a w hF hM => ?_
          exact ⟨bb5, AA6, cc6, ((hF.repl 27 (by kernel_rfl)).cast (by kernel_rfl)), (hM.cast (by kernel_rfl))⟩
        · intro s0 s1 s2 s3 s4 s5 s6 s7 s8 s9 s10 s11 s12 s13 s14 s15 s16 s17 s18 s19 s20 s21 s22 hc hi hp a w hS
          obtain rfl : s15 = false := hi
          obtain rfl : s14 = true := hp 14 (by kernel_rfl)
          obtain ⟨bb5, AA6, cc6, hF, hM⟩ := hS
          refine eP 57 (v0 := .int .u64 (IntKind.u64.wrap (pr lsl k).2)) (v := .int .u64 ((pr lsl k).2 % 18446744073709551616)) hF (by kernel_rfl) (fun _ => by kernel_rfl) (vi (u64_wrap _)) fun a hF => ?_
          exact ⟨bb5, AA6, cc6, ((hF.repl 28 (by kernel_rfl)).cast (by kernel_rfl)), (hM.cast (by kernel_rfl))⟩
        · intro s0 s1 s2 s3 s4 s5 s6 s7 s8 s9 s10 s11 s12 s13 s14 s15 s16 s17 s18 s19 s20 s21 s22 hc hi hp a w hS
          obtain rfl : s16 = false := hi
          obtain rfl : s15 = true := hp 15 (by kernel_rfl)
          obtain ⟨bb5, AA6, cc6, hF, hM⟩ := hS
          refine eM 58 (v := .int .u64 ((pr lsl k).2 % 18446744073709551616 % 524288)) hF hM (by kernel_rfl) (yld_rem ((pr lsl k).2 % 18446744073709551616) 524288 hF rfl (by kernel_rfl) (by kernel_rfl) (by kernel_rfl) (by decide) (Int.tmod_eq_emod_of_nonneg (by omega))) fun a w hF hM => ?_
          exact ⟨bb5, AA6, cc6, ((hF.repl 29 (by kernel_rfl)).cast (by kernel_rfl)), (hM.cast (by kernel_rfl))⟩
        · intro s0 s1 s2 s3 s4 s5 s6 s7 s8 s9 s10 s11 s12 s13 s14 s15 s16 s17 s18 s19 s20 s21 s22 hc hi hp a w hS
          obtain rfl : s17 = false := hi
          obtain rfl : s16 = true := hp 16 (by kernel_rfl)
          obtain ⟨bb5, AA6, cc6, hF, hM⟩ := hS
          refine eP 59 (v0 := .int .i64 (IntKind.i64.wrap ((pr lsl k).2 % 18446744073709551616 % 524288))) (v := .int .i64 ((pr lsl k).2 % 18446744073709551616 % 524288)) hF (by kernel_rfl) (fun _ => by kernel_rfl) (vi (IntWalk.i64_in _ (by omega))) fun a hF => ?_
          exact ⟨bb5, AA6, cc6, ((hF.repl 30 (by kernel_rfl)).cast (by kernel_rfl)), (hM.cast (by kernel_rfl))⟩
        · intro s0 s1 s2 s3 s4 s5 s6 s7 s8 s9 s10 s11 s12 s13 s14 s15 s16 s17 s18 s19 s20 s21 s22 hc hi hp a w hS
          obtain rfl : s18 = false := hi
          obtain rfl : s17 = true := hp 17 (by kernel_rfl)
          obtain ⟨bb5, AA6, cc6, hF, hM⟩ := hS
          refine eP 60 (v0 := .int .i64 (IntKind.i64.wrap (1 + (pr lsl k).2 % 18446744073709551616 % 524288))) (v := .int .i64 (1 + (pr lsl k).2 % 18446744073709551616 % 524288)) hF (by kernel_rfl) (fun _ => by kernel_rfl) (wi (by omega)) fun a hF => ?_
          exact ⟨bb5, AA6, cc6, ((hF.repl 31 (by kernel_rfl)).cast (by kernel_rfl)), (hM.cast (by kernel_rfl))⟩
        · intro s0 s1 s2 s3 s4 s5 s6 s7 s8 s9 s10 s11 s12 s13 s14 s15 s16 s17 s18 s19 s20 s21 s22 hc hi hp a w hS
          obtain rfl : s19 = false := hi
          obtain rfl : s18 = true := hp 18 (by kernel_rfl)
          obtain rfl : s9 = true := hp 9 (by kernel_rfl)
          obtain ⟨bb5, AA6, cc6, hF, hM⟩ := hS
          refine eP 61 (v0 := .agg #[.int .i64 (1 + (pr lsl k).1 % 18446744073709551616 % 262144), .int .i64 (1 + (pr lsl k).2 % 18446744073709551616 % 524288)]) (v := .agg #[.int .i64 (1 + (pr lsl k).1 % 18446744073709551616 % 262144), .int .i64 (1 + (pr lsl k).2 % 18446744073709551616 % 524288)]) hF (by kernel_rfl) (fun _ => by kernel_rfl) rfl fun a hF => ?_
          exact ⟨bb5, AA6, cc6, ((hF.repl 32 (by kernel_rfl)).cast (by kernel_rfl)), (hM.cast (by kernel_rfl))⟩
        · intro s0 s1 s2 s3 s4 s5 s6 s7 s8 s9 s10 s11 s12 s13 s14 s15 s16 s17 s18 s19 s20 s21 s22 hc hi hp a w hS
          obtain rfl : s20 = false := hi
          obtain rfl : s19 = true := hp 19 (by kernel_rfl)
          obtain ⟨bb5, AA6, cc6, hF, hM⟩ := hS
          refine eN 62 10 (t := 23) (fun b => .slice (some ⟨b, 0, none⟩) 1 1) #[.int .i64 (1 + (pr lsl k).1 % 18446744073709551616 % 262144), .int .i64 (1 + (pr lsl k).2 % 18446744073709551616 % 524288)] hF hM (by kernel_rfl) (fun _ => by kernel_rfl) fun bb5 a w hF hM => ?_
          exact ⟨bb5, AA6, cc6, ((hF.repl 33 (by kernel_rfl)).cast (by kernel_rfl)), ((hM.repl 9 (by kernel_rfl)).cast (by kernel_rfl))⟩
        · intro s0 s1 s2 s3 s4 s5 s6 s7 s8 s9 s10 s11 s12 s13 s14 s15 s16 s17 s18 s19 s20 s21 s22 hc hi hp a w hS
          obtain rfl : s21 = false := hi
          obtain rfl : s20 = true := hp 20 (by kernel_rfl)
          obtain rfl : s0 = true := hp 0 (by kernel_rfl)
          obtain rfl : s22 = false := hc.f 22 21 (by kernel_rfl) rfl
          obtain ⟨bb5, AA6, cc6, hF, hM⟩ := hS
          refine sApp 63 9 (e := 23) (size := 2) (bytes := 16) (z := .agg #[.int .i64 0, .int .i64 0]) (m := 1) (c := 1) (l := k) (cap := c1) (A := G1) (news := [.int .i64 (1 + (pr lsl k).1 % 18446744073709551616 % 262144), .int .i64 (1 + (pr lsl k).2 % 18446744073709551616 % 524288)]) (flat2 (mm ++ [(1 + (pr lsl k).1 % 18446744073709551616 % 262144, 1 + (pr lsl k).2 % 18446744073709551616 % 524288)])) hF hM (by kernel_rfl) rfl (by kernel_rfl) (by kernel_rfl) (by kernel_rfl) rfl rfl rfl rfl (roR 10 rfl) (by simp [Value.oneCell']) (by omega) (by decide) (flat2_snoc' _ _ _) fun AA6 cc6 a w hF hM => ?_
          exact ⟨bb5, AA6, cc6, ((hF.repl 34 (by kernel_rfl)).cast (by kernel_rfl)), ((hM.repl 8 (by kernel_rfl)).cast (by kernel_rfl))⟩
        · intro s0 s1 s2 s3 s4 s5 s6 s7 s8 s9 s10 s11 s12 s13 s14 s15 s16 s17 s18 s19 s20 s21 s22 hc hi hp a w hS
          obtain rfl : s22 = false := hi
          obtain rfl : s21 = true := hp 21 (by kernel_rfl)
          obtain ⟨bb5, AA6, cc6, hF, hM⟩ := hS
          refine eP 12 (v0 := .slice AA6 (k + 1) cc6) (v := .slice AA6 (k + 1) cc6) hF (by kernel_rfl) (fun _ => by kernel_rfl) rfl fun a hF => ?_
          exact ⟨bb5, AA6, cc6, ((hF.repl 7 (by kernel_rfl)).cast (by kernel_rfl)), (hM.cast (by kernel_rfl))⟩
      · intro a w hS
        obtain ⟨bb5, AA6, cc6, hF, hM⟩ := hS
        replace hF : Fr 170 [(2, some (.slice A lsl.length c)), (4, some (.int .i64 t)), (5, some (.pointer (some ⟨bb1, 0, none⟩))), (6, some (.pointer (some ⟨bb2, 0, none⟩))), (8, some (.pointer (some ⟨bb3, 0, none⟩))), (10, some (.bool false)), (11, some (.pointer (some ⟨bb4, 0, none⟩))), (12, some (.slice AA6 (k + 1) cc6)), (13, some (.int .i64 (k : Int))), (36, some (.int .i64 (k : Int))), (37, some (.slice A lsl.length c)), (38, some (.int .i64 (lsl.length : Int))), (39, some (.bool true)), (42, some (.slice G1 k c1)), (43, some (.slice A lsl.length c)), (44, some (.int .i64 (k : Int))), (45, some (.pointer (some (ea A (k * 2))))), (46, some (.pointer (some (ea A (k * 2))))), (47, some (.int .i64 (pr lsl k).1)), (48, some (.int .u64 ((pr lsl k).1 % 18446744073709551616))), (49, some (.int .u64 ((pr lsl k).1 % 18446744073709551616 % 262144))), (50, some (.int .i64 ((pr lsl k).1 % 18446744073709551616 % 262144))), (51, some (.int .i64 (1 + (pr lsl k).1 % 18446744073709551616 % 262144))), (52, some (.slice A lsl.length c)), (53, some (.int .i64 (k : Int))), (54, some (.pointer (some (ea A (k * 2))))), (55, some (.pointer (some (ea A (k * 2 + 1))))), (56, some (.int .i64 (pr lsl k).2)), (57, some (.int .u64 ((pr lsl k).2 % 18446744073709551616))), (58, some (.int .u64 ((pr lsl k).2 % 18446744073709551616 % 524288))), (59, some (.int .i64 ((pr lsl k).2 % 18446744073709551616 % 524288))), (60, some (.int .i64 (1 + (pr lsl k).2 % 18446744073709551616 % 524288))), (61, some (.agg #[.int .i64 (1 + (pr lsl k).1 % 18446744073709551616 % 262144), .int .i64 (1 + (pr lsl k).2 % 18446744073709551616 % 524288)])), (62, some (.slice (some ⟨bb5, 0, none⟩) 1 1)), (63, some (.slice AA6 (k + 1) cc6))] a := hF.cast (by kernel_rfl)
        replace hM : Mem w0.heap.size w0 [(1, some (.ro Ga (gaps.map (Value.int .u16)))), (2, some (.ro Sa (sizes.map (Value.int .u16)))), (3, some (.ro A (flat2 l))), (4, some (.row bb1 23 #[.int .i64 b0, .int .i64 b1])), (5, some (.row bb2 27 #[.int .u32 bu, .int .u32 ra, .slice Ga gaps.length cg, .slice Sa sizes.length cs])), (6, some (.row bb3 30 #[.int .i64 ax, .int .i64 ay])), (7, some (.ro A (flat2 lsl))), (8, some (.row bb4 23 #[.int .i64 dbb, .int .i64 dbr])), (9, some (.own (.slice AA6 (k + 1) cc6) 23 2 (k + 1) (flat2 (mm ++ [(1 + (pr lsl k).1 % 18446744073709551616 % 262144, 1 + (pr lsl k).2 % 18446744073709551616 % 524288)])))), (10, some (.row bb5 23 #[.int .i64 (1 + (pr lsl k).1 % 18446744073709551616 % 262144), .int .i64 (1 + (pr lsl k).2 % 18446744073709551616 % 524288)]))] w := hM.cast (by kernel_rfl)
        refine hK10 _ _ ?_
        refine wp_region_lit ?_
        refine sB 1 [(40, .int .i64 (k : Int))] hF (by kernel_rfl) fun a hF => ?_
        refine wl (eP 41 (v0 := .int .i64 (IntKind.i64.wrap ((k : Int) + 1))) (v := .int .i64 ((k : Int) + 1)) hF (by kernel_rfl) (fun _ => by kernel_rfl) (wi (by omega)) fun a hF => ?_)
        refine sB 1 [(13, .int .i64 ((k : Int) + 1))] hF (by kernel_rfl) fun a hF => ?_
        refine wpList_nil ?_
        refine hK7 _ _ ⟨(k + 1, mm ++ [(1 + (pr lsl k).1 % 18446744073709551616 % 262144, 1 + (pr lsl k).2 % 18446744073709551616 % 524288)], AA6, cc6), ⟨((((((((((Fr.nil hF).c hF (i := 11) rfl rfl).c hF (i := 10) rfl rfl).c hF (i := 8) rfl rfl).c hF (i := 6) rfl rfl).c hF (i := 5) rfl rfl).c hF (i := 4) rfl rfl).c hF (i := 2) rfl rfl).c hF (i := 13) rfl (vi (show ((k : Int) + 1 : Int) = ((k + 1) : Int) from by omega))).c hF (i := 12) rfl rfl), (hM.sub (((((((((Sub.nil.c (k := 9) rfl rfl).c (k := 8) rfl rfl).c (k := 7) rfl rfl).c (k := 6) rfl rfl).c (k := 5) rfl rfl).c (k := 4) rfl rfl).c (k := 3) rfl rfl).c (k := 2) rfl rfl).c (k := 1) rfl rfl)), (show ((k + 1) : Int) ≤ (lsl.length : Int) from by omega), (show ((mm ++ [(1 + (pr lsl k).1 % 18446744073709551616 % 262144, 1 + (pr lsl k).2 % 18446744073709551616 % 524288)]).length : Int) = ((k + 1) : Int) from by first | omega | (simp; omega))⟩, (show lsl.length - (k + 1) < lsl.length - k from by omega)⟩
    · skip
      replace hF := hF.c hF (i := 39) (v := .bool false) rfl (bF hz3)
      refine cF hF (by kernel_rfl) (by kernel_rfl) ?_
      refine wp_exit ?_
      refine hK5 _ _ ?_
      refine wp_seq_k fun K11 hK11 => ?_
      refine wp_seq_k fun K12 hK12 => ?_
      refine wp_region_lit ?_
      refine sB 2 [(64, .slice A lsl.length c), (65, .slice G1 k c1)] hF (by kernel_rfl) fun a hF => ?_
      refine wl (eL 66 8 0 (v := .agg #[.int .i64 dbb, .int .i64 dbr]) hF hM (by kernel_rfl) rfl rfl (by kernel_rfl) (by kernel_rfl) fun a w hF hM => ?_)
      refine wl (eN 67 11 (t := 23) (fun b => .slice (some ⟨b, 0, none⟩) 1 1) #[.int .i64 dbb, .int .i64 dbr] hF hM (by kernel_rfl) (fun _ => by kernel_rfl) fun bb7 a w hF hM => ?_)
      refine wl (eL 68 4 0 (v := .agg #[.int .i64 b0, .int .i64 b1]) hF hM (by kernel_rfl) rfl rfl (by kernel_rfl) (by kernel_rfl) fun a w hF hM => ?_)
      refine wl (eN 69 12 (t := 23) (fun b => .slice (some ⟨b, 0, none⟩) 1 1) #[.int .i64 b0, .int .i64 b1] hF hM (by kernel_rfl) (fun _ => by kernel_rfl) fun bb8 a w hF hM => ?_)
      refine wl (sAppR 70 11 (e := 23) (size := 2) (bytes := 16) (z := .agg #[.int .i64 0, .int .i64 0]) (m := 1) (c := 1) (l := 1) (news := [.int .i64 b0, .int .i64 b1]) (flat2 (([(dbb, dbr)] : List (Int × Int)) ++ [(b0, b1)])) hF hM (by kernel_rfl) rfl (by kernel_rfl) (by kernel_rfl) (by kernel_rfl) rfl rfl rfl rfl rfl (roR 12 rfl) (by simp [Value.oneCell']) (by omega) (by decide) (by kernel_rfl) (fun h => nomatch h) fun AA9 cc9 a w hF hM => ?_)
      refine sB 2 [(71, .agg #[.slice A lsl.length c, .slice G1 k c1, .slice AA9 (1 + 1) cc9]), (72, .int .i64 0)] hF (by kernel_rfl) fun a hF => ?_
      refine wpList_nil ?_
      refine hK12 _ _ ?_
      refine wp_block ?_
      refine wp_loop_rounds 4 ?_
      refine rounds_k fun K13 hK13 => ?_
      refine wp_seq_k fun K14 hK14 => ?_
      refine wp_region_lit ?_
      refine wl (eP 73 (v0 := .bool (decide (0 < 3))) (v := .bool true) hF (by kernel_rfl) (fun _ => by kernel_rfl) (bT (by omega)) fun a hF => ?_)
      refine wpList_nil ?_
      refine hK14 _ _ ?_
      refine wp_seq_k fun K15 hK15 => ?_
      refine cT hF (by kernel_rfl) (by kernel_rfl) ?_
      refine wp_skip ?_
      refine hK15 _ _ ?_
      refine wp_seq_k fun K16 hK16 => ?_
      refine wp_block ?_
      refine wp_seq_k fun K17 hK17 => ?_
      refine wp_region_lit ?_
      refine sB 2 [(74, .slice A lsl.length c), (15, .slice A lsl.length c)] hF (by kernel_rfl) fun a hF => ?_
      refine wpList_nil ?_
      refine hK17 _ _ ?_
      refine wp_seq_k fun K18 hK18 => ?_
      refine wp_region_lit ?_
      refine sB 1 [(76, .slice A lsl.length c)] hF (by kernel_rfl) fun a hF => ?_
      refine wl (eM 77 (v := .tuple #[.agg #[.int .i64 (smB lsl), .int .i64 (smR lsl)], .int .i64 (smE lsl)]) hF hM (by kernel_rfl) (yld_call (f := 11) (args := #[.slice A lsl.length c]) hF (by kernel_rfl) (fun _ => by kernel_rfl) (fun w hM => bSum_w A lsl _ w (hM.ok 7 _ rfl))) fun a w hF hM => ?_)
      refine sB 3 [(75, .tuple #[.agg #[.int .i64 (smB lsl), .int .i64 (smR lsl)], .int .i64 (smE lsl)]), (78, .agg #[.int .i64 (smB lsl), .int .i64 (smR lsl)]), (79, .int .i64 (smE lsl))] hF (by kernel_rfl) fun a hF => ?_
      refine wl (eN 16 13 (t := 23) (fun b => .pointer (some ⟨b, 0, none⟩)) #[.int .i64 0, .int .i64 0] hF hM (by kernel_rfl) (fun _ => by kernel_rfl) fun bb10 a w hF hM => ?_)
      refine wl (sStore (i := 13) (off := 0) (cs' := #[.int .i64 (smB lsl), .int .i64 (smR lsl)]) hF hM (by kernel_rfl) rfl rfl (by kernel_rfl) (by kernel_rfl) rfl (by kernel_rfl) fun w hM => ?_)
      refine sB 1 [(17, .int .i64 (smE lsl))] hF (by kernel_rfl) fun a hF => ?_
      refine wpList_nil ?_
      refine hK18 _ _ ?_
      refine wp_seq_k fun K19 hK19 => ?_
      refine wp_region_lit ?_
      refine sB 1 [(81, .slice A lsl.length c)] hF (by kernel_rfl) fun a hF => ?_
      refine wl (eM 82 (v := .tuple #[.agg #[.int .i64 (smB lsl), .int .i64 (smR lsl)], .int .i64 (smE lsl)]) hF hM (by kernel_rfl) (yld_call (f := 12) (args := #[.slice A lsl.length c]) hF (by kernel_rfl) (fun _ => by kernel_rfl) (fun w hM => rSum_w A lsl _ w (hM.ok 7 _ rfl))) fun a w hF hM => ?_)
      refine sB 3 [(80, .tuple #[.agg #[.int .i64 (smB lsl), .int .i64 (smR lsl)], .int .i64 (smE lsl)]), (83, .agg #[.int .i64 (smB lsl), .int .i64 (smR lsl)]), (84, .int .i64 (smE lsl))] hF (by kernel_rfl) fun a hF => ?_
      refine wl (eN 18 14 (t := 23) (fun b => .pointer (some ⟨b, 0, none⟩)) #[.int .i64 0, .int .i64 0] hF hM (by kernel_rfl) (fun _ => by kernel_rfl) fun bb11 a w hF hM => ?_)
      refine wl (sStore (i := 14) (off := 0) (cs' := #[.int .i64 (smB lsl), .int .i64 (smR lsl)]) hF hM (by kernel_rfl) rfl rfl (by kernel_rfl) (by kernel_rfl) rfl (by kernel_rfl) fun w hM => ?_)
      refine sB 1 [(19, .int .i64 (smE lsl))] hF (by kernel_rfl) fun a hF => ?_
      refine wpList_nil ?_
      refine hK19 _ _ ?_
      refine wp_seq_k fun K20 hK20 => ?_
      refine wp_region_lit ?_
      refine wl (eL 85 13 0 (v := .agg #[.int .i64 (smB lsl), .int .i64 (smR lsl)]) hF hM (by kernel_rfl) rfl rfl (by kernel_rfl) (by kernel_rfl) fun a w hF hM => ?_)
      refine wl (eL 86 14 0 (v := .agg #[.int .i64 (smB lsl), .int .i64 (smR lsl)]) hF hM (by kernel_rfl) rfl rfl (by kernel_rfl) (by kernel_rfl) fun a w hF hM => ?_)
      refine wl (eM 87 (v := .bool false) hF hM (by kernel_rfl) ((yld_neq (C := Mem _ _ _) [smB lsl, smR lsl] [smB lsl, smR lsl] hF rfl (by kernel_rfl) (by kernel_rfl) (by kernel_rfl) rfl (by kernel_rfl) (by kernel_rfl) (by kernel_rfl) rfl rfl).to (nT rfl)) fun a w hF hM => ?_)
      refine sB 3 [(88, .bool false), (89, .int .i64 (smE lsl)), (90, .int .i64 (smE lsl))] hF (by kernel_rfl) fun a hF => ?_
      refine wl (eP 91 (v0 := .bool (!decide (smE lsl = smE lsl))) (v := .bool false) hF (by kernel_rfl) (fun _ => by kernel_rfl) (nT (by omega)) fun a hF => ?_)
      refine sB 1 [(92, .bool false)] hF (by kernel_rfl) fun a hF => ?_
      refine wpList_nil ?_
      refine hK20 _ _ ?_
      refine cF hF (by kernel_rfl) (by kernel_rfl) ?_
      refine wp_skip ?_
      refine hK16 _ _ ?_
      refine wp_region_lit ?_
      refine wl (eP 93 (v0 := .int .i64 (IntKind.i64.wrap (0 + 1))) (v := .int .i64 1) hF (by kernel_rfl) (fun _ => by kernel_rfl) (vi (by decide)) fun a hF => ?_)
      refine sB 1 [(72, .int .i64 1)] hF (by kernel_rfl) fun a hF => ?_
      refine wpList_nil ?_
      refine hK13 _ _ ?_
      refine rounds_k fun K21 hK21 => ?_
      refine wp_seq_k fun K22 hK22 => ?_
      refine wp_region_lit ?_
      refine wl (eP 73 (v0 := .bool (decide (1 < 3))) (v := .bool true) hF (by kernel_rfl) (fun _ => by kernel_rfl) (bT (by omega)) fun a hF => ?_)
      refine wpList_nil ?_
      refine hK22 _ _ ?_
      refine wp_seq_k fun K23 hK23 => ?_
      refine cT hF (by kernel_rfl) (by kernel_rfl) ?_
      refine wp_skip ?_
      refine hK23 _ _ ?_
      refine wp_seq_k fun K24 hK24 => ?_
      refine wp_block ?_
      refine wp_seq_k fun K25 hK25 => ?_
      refine wp_region_lit ?_
      refine sB 2 [(74, .slice G1 k c1), (15, .slice G1 k c1)] hF (by kernel_rfl) fun a hF => ?_
      refine wpList_nil ?_
      refine hK25 _ _ ?_
      refine wp_seq_k fun K26 hK26 => ?_
      refine wp_region_lit ?_
      refine sB 1 [(76, .slice G1 k c1)] hF (by kernel_rfl) fun a hF => ?_
      refine wl (eM 77 (v := .tuple #[.agg #[.int .i64 (smB mm), .int .i64 (smR mm)], .int .i64 (smE mm)]) hF hM (by kernel_rfl) (yld_call (f := 11) (args := #[.slice G1 k c1]) hF (by kernel_rfl) (fun _ => by kernel_rfl) (fun w hM => (by rw [show k = mm.length from by first | omega | (simp; done) | (simp; omega)]; exact bSum_w G1 mm _ w (ro_of_own (hM.ok 9 _ rfl))))) fun a w hF hM => ?_)
      refine sB 3 [(75, .tuple #[.agg #[.int .i64 (smB mm), .int .i64 (smR mm)], .int .i64 (smE mm)]), (78, .agg #[.int .i64 (smB mm), .int .i64 (smR mm)]), (79, .int .i64 (smE mm))] hF (by kernel_rfl) fun a hF => ?_
      refine wl (eN 16 15 (t := 23) (fun b => .pointer (some ⟨b, 0, none⟩)) #[.int .i64 0, .int .i64 0] hF hM (by kernel_rfl) (fun _ => by kernel_rfl) fun bb12 a w hF hM => ?_)
      refine wl (sStore (i := 15) (off := 0) (cs' := #[.int .i64 (smB mm), .int .i64 (smR mm)]) hF hM (by kernel_rfl) rfl rfl (by kernel_rfl) (by kernel_rfl) rfl (by kernel_rfl) fun w hM => ?_)
      refine sB 1 [(17, .int .i64 (smE mm))] hF (by kernel_rfl) fun a hF => ?_
      refine wpList_nil ?_
      refine hK26 _ _ ?_
      refine wp_seq_k fun K27 hK27 => ?_
      refine wp_region_lit ?_
      refine sB 1 [(81, .slice G1 k c1)] hF (by kernel_rfl) fun a hF => ?_
      refine wl (eM 82 (v := .tuple #[.agg #[.int .i64 (smB mm), .int .i64 (smR mm)], .int .i64 (smE mm)]) hF hM (by kernel_rfl) (yld_call (f := 12) (args := #[.slice G1 k c1]) hF (by kernel_rfl) (fun _ => by kernel_rfl) (fun w hM => (by rw [show k = mm.length from by first | omega | (simp; done) | (simp; omega)]; exact rSum_w G1 mm _ w (ro_of_own (hM.ok 9 _ rfl))))) fun a w hF hM => ?_)
      refine sB 3 [(80, .tuple #[.agg #[.int .i64 (smB mm), .int .i64 (smR mm)], .int .i64 (smE mm)]), (83, .agg #[.int .i64 (smB mm), .int .i64 (smR mm)]), (84, .int .i64 (smE mm))] hF (by kernel_rfl) fun a hF => ?_
      refine wl (eN 18 16 (t := 23) (fun b => .pointer (some ⟨b, 0, none⟩)) #[.int .i64 0, .int .i64 0] hF hM (by kernel_rfl) (fun _ => by kernel_rfl) fun bb13 a w hF hM => ?_)
      refine wl (sStore (i := 16) (off := 0) (cs' := #[.int .i64 (smB mm), .int .i64 (smR mm)]) hF hM (by kernel_rfl) rfl rfl (by kernel_rfl) (by kernel_rfl) rfl (by kernel_rfl) fun w hM => ?_)
      refine sB 1 [(19, .int .i64 (smE mm))] hF (by kernel_rfl) fun a hF => ?_
      refine wpList_nil ?_
      refine hK27 _ _ ?_
      refine wp_seq_k fun K28 hK28 => ?_
      refine wp_region_lit ?_
      refine wl (eL 85 15 0 (v := .agg #[.int .i64 (smB mm), .int .i64 (smR mm)]) hF hM (by kernel_rfl) rfl rfl (by kernel_rfl) (by kernel_rfl) fun a w hF hM => ?_)
      refine wl (eL 86 16 0 (v := .agg #[.int .i64 (smB mm), .int .i64 (smR mm)]) hF hM (by kernel_rfl) rfl rfl (by kernel_rfl) (by kernel_rfl) fun a w hF hM => ?_)
      refine wl (eM 87 (v := .bool false) hF hM (by kernel_rfl) ((yld_neq (C := Mem _ _ _) [smB mm, smR mm] [smB mm, smR mm] hF rfl (by kernel_rfl) (by kernel_rfl) (by kernel_rfl) rfl (by kernel_rfl) (by kernel_rfl) (by kernel_rfl) rfl rfl).to (nT rfl)) fun a w hF hM => ?_)
      refine sB 3 [(88, .bool false), (89, .int .i64 (smE mm)), (90, .int .i64 (smE mm))] hF (by kernel_rfl) fun a hF => ?_
      refine wl (eP 91 (v0 := .bool (!decide (smE mm = smE mm))) (v := .bool false) hF (by kernel_rfl) (fun _ => by kernel_rfl) (nT (by omega)) fun a hF => ?_)
      refine sB 1 [(92, .bool false)] hF (by kernel_rfl) fun a hF => ?_
      refine wpList_nil ?_
      refine hK28 _ _ ?_
      refine cF hF (by kernel_rfl) (by kernel_rfl) ?_
      refine wp_skip ?_
      refine hK24 _ _ ?_
      refine wp_region_lit ?_
      refine wl (eP 93 (v0 := .int .i64 (IntKind.i64.wrap (1 + 1))) (v := .int .i64 2) hF (by kernel_rfl) (fun _ => by kernel_rfl) (vi (by decide)) fun a hF => ?_)
      refine sB 1 [(72, .int .i64 2)] hF (by kernel_rfl) fun a hF => ?_
      refine wpList_nil ?_
      refine hK21 _ _ ?_
      refine rounds_k fun K29 hK29 => ?_
      refine wp_seq_k fun K30 hK30 => ?_
      refine wp_region_lit ?_
      refine wl (eP 73 (v0 := .bool (decide (2 < 3))) (v := .bool true) hF (by kernel_rfl) (fun _ => by kernel_rfl) (bT (by omega)) fun a hF => ?_)
      refine wpList_nil ?_
      refine hK30 _ _ ?_
      refine wp_seq_k fun K31 hK31 => ?_
      refine cT hF (by kernel_rfl) (by kernel_rfl) ?_
      refine wp_skip ?_
      refine hK31 _ _ ?_
      refine wp_seq_k fun K32 hK32 => ?_
      refine wp_block ?_
      refine wp_seq_k fun K33 hK33 => ?_
      refine wp_region_lit ?_
      refine sB 2 [(74, .slice AA9 (1 + 1) cc9), (15, .slice AA9 (1 + 1) cc9)] hF (by kernel_rfl) fun a hF => ?_
      refine wpList_nil ?_
      refine hK33 _ _ ?_
      refine wp_seq_k fun K34 hK34 => ?_
      refine wp_region_lit ?_
      refine sB 1 [(76, .slice AA9 (1 + 1) cc9)] hF (by kernel_rfl) fun a hF => ?_
      refine wl (eM 77 (v := .tuple #[.agg #[.int .i64 (smB (([(dbb, dbr)] : List (Int × Int)) ++ [(b0, b1)])), .int .i64 (smR (([(dbb, dbr)] : List (Int × Int)) ++ [(b0, b1)]))], .int .i64 (smE (([(dbb, dbr)] : List (Int × Int)) ++ [(b0, b1)]))]) hF hM (by kernel_rfl) (yld_call (f := 11) (args := #[.slice AA9 (1 + 1) cc9]) hF (by kernel_rfl) (fun _ => by kernel_rfl) (fun w hM => (by rw [show 1 + 1 = (([(dbb, dbr)] : List (Int × Int)) ++ [(b0, b1)]).length from by first | omega | (simp; done) | (simp; omega)]; exact bSum_w AA9 (([(dbb, dbr)] : List (Int × Int)) ++ [(b0, b1)]) _ w (ro_of_own (hM.ok 11 _ rfl))))) fun a w hF hM => ?_)
      refine sB 3 [(75, .tuple #[.agg #[.int .i64 (smB (([(dbb, dbr)] : List (Int × Int)) ++ [(b0, b1)])), .int .i64 (smR (([(dbb, dbr)] : List (Int × Int)) ++ [(b0, b1)]))], .int .i64 (smE (([(dbb, dbr)] : List (Int × Int)) ++ [(b0, b1)]))]), (78, .agg #[.int .i64 (smB (([(dbb, dbr)] : List (Int × Int)) ++ [(b0, b1)])), .int .i64 (smR (([(dbb, dbr)] : List (Int × Int)) ++ [(b0, b1)]))]), (79, .int .i64 (smE (([(dbb, dbr)] : List (Int × Int)) ++ [(b0, b1)])))] hF (by kernel_rfl) fun a hF => ?_
      refine wl (eN 16 17 (t := 23) (fun b => .pointer (some ⟨b, 0, none⟩)) #[.int .i64 0, .int .i64 0] hF hM (by kernel_rfl) (fun _ => by kernel_rfl) fun bb14 a w hF hM => ?_)
      refine wl (sStore (i := 17) (off := 0) (cs' := #[.int .i64 (smB (([(dbb, dbr)] : List (Int × Int)) ++ [(b0, b1)])), .int .i64 (smR (([(dbb, dbr)] : List (Int × Int)) ++ [(b0, b1)]))]) hF hM (by kernel_rfl) rfl rfl (by kernel_rfl) (by kernel_rfl) rfl (by kernel_rfl) fun w hM => ?_)
      refine sB 1 [(17, .int .i64 (smE (([(dbb, dbr)] : List (Int × Int)) ++ [(b0, b1)])))] hF (by kernel_rfl) fun a hF => ?_
      refine wpList_nil ?_
      refine hK34 _ _ ?_
      refine wp_seq_k fun K35 hK35 => ?_
      refine wp_region_lit ?_
      refine sB 1 [(81, .slice AA9 (1 + 1) cc9)] hF (by kernel_rfl) fun a hF => ?_
      refine wl (eM 82 (v := .tuple #[.agg #[.int .i64 (smB (([(dbb, dbr)] : List (Int × Int)) ++ [(b0, b1)])), .int .i64 (smR (([(dbb, dbr)] : List (Int × Int)) ++ [(b0, b1)]))], .int .i64 (smE (([(dbb, dbr)] : List (Int × Int)) ++ [(b0, b1)]))]) hF hM (by kernel_rfl) (yld_call (f := 12) (args := #[.slice AA9 (1 + 1) cc9]) hF (by kernel_rfl) (fun _ => by kernel_rfl) (fun w hM => (by rw [show 1 + 1 = (([(dbb, dbr)] : List (Int × Int)) ++ [(b0, b1)]).length from by first | omega | (simp; done) | (simp; omega)]; exact rSum_w AA9 (([(dbb, dbr)] : List (Int × Int)) ++ [(b0, b1)]) _ w (ro_of_own (hM.ok 11 _ rfl))))) fun a w hF hM => ?_)
      refine sB 3 [(80, .tuple #[.agg #[.int .i64 (smB (([(dbb, dbr)] : List (Int × Int)) ++ [(b0, b1)])), .int .i64 (smR (([(dbb, dbr)] : List (Int × Int)) ++ [(b0, b1)]))], .int .i64 (smE (([(dbb, dbr)] : List (Int × Int)) ++ [(b0, b1)]))]), (83, .agg #[.int .i64 (smB (([(dbb, dbr)] : List (Int × Int)) ++ [(b0, b1)])), .int .i64 (smR (([(dbb, dbr)] : List (Int × Int)) ++ [(b0, b1)]))]), (84, .int .i64 (smE (([(dbb, dbr)] : List (Int × Int)) ++ [(b0, b1)])))] hF (by kernel_rfl) fun a hF => ?_
      refine wl (eN 18 18 (t := 23) (fun b => .pointer (some ⟨b, 0, none⟩)) #[.int .i64 0, .int .i64 0] hF hM (by kernel_rfl) (fun _ => by kernel_rfl) fun bb15 a w hF hM => ?_)
      refine wl (sStore (i := 18) (off := 0) (cs' := #[.int .i64 (smB (([(dbb, dbr)] : List (Int × Int)) ++ [(b0, b1)])), .int .i64 (smR (([(dbb, dbr)] : List (Int × Int)) ++ [(b0, b1)]))]) hF hM (by kernel_rfl) rfl rfl (by kernel_rfl) (by kernel_rfl) rfl (by kernel_rfl) fun w hM => ?_)
      refine sB 1 [(19, .int .i64 (smE (([(dbb, dbr)] : List (Int × Int)) ++ [(b0, b1)])))] hF (by kernel_rfl) fun a hF => ?_
      refine wpList_nil ?_
      refine hK35 _ _ ?_
      refine wp_seq_k fun K36 hK36 => ?_
      refine wp_region_lit ?_
      refine wl (eL 85 17 0 (v := .agg #[.int .i64 (smB (([(dbb, dbr)] : List (Int × Int)) ++ [(b0, b1)])), .int .i64 (smR (([(dbb, dbr)] : List (Int × Int)) ++ [(b0, b1)]))]) hF hM (by kernel_rfl) rfl rfl (by kernel_rfl) (by kernel_rfl) fun a w hF hM => ?_)
      refine wl (eL 86 18 0 (v := .agg #[.int .i64 (smB (([(dbb, dbr)] : List (Int × Int)) ++ [(b0, b1)])), .int .i64 (smR (([(dbb, dbr)] : List (Int × Int)) ++ [(b0, b1)]))]) hF hM (by kernel_rfl) rfl rfl (by kernel_rfl) (by kernel_rfl) fun a w hF hM => ?_)
      refine wl (eM 87 (v := .bool false) hF hM (by kernel_rfl) ((yld_neq (C := Mem _ _ _) [smB (([(dbb, dbr)] : List (Int × Int)) ++ [(b0, b1)]), smR (([(dbb, dbr)] : List (Int × Int)) ++ [(b0, b1)])] [smB (([(dbb, dbr)] : List (Int × Int)) ++ [(b0, b1)]), smR (([(dbb, dbr)] : List (Int × Int)) ++ [(b0, b1)])] hF rfl (by kernel_rfl) (by kernel_rfl) (by kernel_rfl) rfl (by kernel_rfl) (by kernel_rfl) (by kernel_rfl) rfl rfl).to (nT rfl)) fun a w hF hM => ?_)
      refine sB 3 [(88, .bool false), (89, .int .i64 (smE (([(dbb, dbr)] : List (Int × Int)) ++ [(b0, b1)]))), (90, .int .i64 (smE (([(dbb, dbr)] : List (Int × Int)) ++ [(b0, b1)])))] hF (by kernel_rfl) fun a hF => ?_
      refine wl (eP 91 (v0 := .bool (!decide (smE (([(dbb, dbr)] : List (Int × Int)) ++ [(b0, b1)]) = smE (([(dbb, dbr)] : List (Int × Int)) ++ [(b0, b1)])))) (v := .bool false) hF (by kernel_rfl) (fun _ => by kernel_rfl) (nT (by omega)) fun a hF => ?_)
      refine sB 1 [(92, .bool false)] hF (by kernel_rfl) fun a hF => ?_
      refine wpList_nil ?_
      refine hK36 _ _ ?_
      refine cF hF (by kernel_rfl) (by kernel_rfl) ?_
      refine wp_skip ?_
      refine hK32 _ _ ?_
      refine wp_region_lit ?_
      refine wl (eP 93 (v0 := .int .i64 (IntKind.i64.wrap (2 + 1))) (v := .int .i64 3) hF (by kernel_rfl) (fun _ => by kernel_rfl) (vi (by decide)) fun a hF => ?_)
      refine sB 1 [(72, .int .i64 3)] hF (by kernel_rfl) fun a hF => ?_
      refine wpList_nil ?_
      refine hK29 _ _ ?_
      refine rounds_k fun K37 hK37 => ?_
      refine wp_seq_k fun K38 hK38 => ?_
      refine wp_region_lit ?_
      refine wl (eP 73 (v0 := .bool (decide (3 < 3))) (v := .bool false) hF (by kernel_rfl) (fun _ => by kernel_rfl) (bF (by omega)) fun a hF => ?_)
      refine wpList_nil ?_
      refine hK38 _ _ ?_
      refine wp_seq_k fun K39 hK39 => ?_
      refine cF hF (by kernel_rfl) (by kernel_rfl) ?_
      refine wp_exit ?_
      refine hK11 _ _ ?_
      refine wp_seq_k fun K40 hK40 => ?_
      refine wp_seq_k fun K41 hK41 => ?_
      refine wp_region_lit ?_
      refine wl (eL 94 4 0 (v := .agg #[.int .i64 b0, .int .i64 b1]) hF hM (by kernel_rfl) rfl rfl (by kernel_rfl) (by kernel_rfl) fun a w hF hM => ?_)
      refine wl (eL 95 8 0 (v := .agg #[.int .i64 dbb, .int .i64 dbr]) hF hM (by kernel_rfl) rfl rfl (by kernel_rfl) (by kernel_rfl) fun a w hF hM => ?_)
      refine sB 1 [(96, .pointer (some ⟨bb4, 0, none⟩))] hF (by kernel_rfl) fun a hF => ?_
      refine wl (eL 97 8 0 (v := .int .i64 dbb) hF hM (by kernel_rfl) rfl rfl (by kernel_rfl) (by kernel_rfl) fun a w hF hM => ?_)
      refine sB 1 [(98, .pointer (some ⟨bb1, 1, none⟩))] hF (by kernel_rfl) fun a hF => ?_
      refine wl (eL 99 4 1 (v := .int .i64 b1) hF hM (by kernel_rfl) rfl rfl (by kernel_rfl) (by kernel_rfl) fun a w hF hM => ?_)
      refine sB 3 [(100, .agg #[.int .i64 dbb, .int .i64 b1]), (101, .agg #[.int .i64 b0, .int .i64 b1, .int .i64 dbb, .int .i64 dbr, .int .i64 dbb, .int .i64 b1]), (102, .int .i64 0)] hF (by kernel_rfl) fun a hF => ?_
      refine wpList_nil ?_
      refine hK41 _ _ ?_
      refine wp_block ?_
      refine wp_loop_k (G := Nat) (fun gg a w => Fr 170 [(102, some (.int .i64 (gg : Int))), (4, some (.int .i64 t)), (6, some (.pointer (some ⟨bb2, 0, none⟩))), (8, some (.pointer (some ⟨bb3, 0, none⟩))), (101, some (.agg #[.int .i64 b0, .int .i64 b1, .int .i64 dbb, .int .i64 dbr, .int .i64 dbb, .int .i64 b1]))] a ∧ Mem w0.heap.size w0 [(1, some (.ro Ga (gaps.map (Value.int .u16)))), (2, some (.ro Sa (sizes.map (Value.int .u16)))), (3, some (.ro A (flat2 l))), (5, some (.row bb2 27 #[.int .u32 bu, .int .u32 ra, .slice Ga gaps.length cg, .slice Sa sizes.length cs])), (6, some (.row bb3 30 #[.int .i64 ax, .int .i64 ay])), (7, some (.ro A (flat2 lsl)))] w ∧ ((gg : Int) ≤ 3)) (fun gg => 3 - gg) (0) ?_ ?_
      · refine ⟨((((((Fr.nil hF).c hF (i := 101) rfl rfl).c hF (i := 8) rfl rfl).c hF (i := 6) rfl rfl).c hF (i := 4) rfl rfl).c hF (i := 102) rfl (vi (show (0 : Int) = (0 : Int) from by omega))), (hM.sub ((((((Sub.nil.c (k := 7) rfl rfl).c (k := 6) rfl rfl).c (k := 5) rfl rfl).c (k := 3) rfl rfl).c (k := 2) rfl rfl).c (k := 1) rfl rfl)), (show (0 : Int) ≤ 3 from by omega)⟩
      · intro gg a w hI
        intro K42 hK42
        obtain ⟨k102, rfl⟩ : ∃ x, x = gg := ⟨_, rfl⟩
        try dsimp only at hI hK42
        obtain ⟨hF, hM, hz4⟩ := hI
        refine wp_seq_k fun K43 hK43 => ?_
        refine wp_region_lit ?_
        refine sB 1 [(103, .bool (decide ((k102 : Int) < 3)))] hF (by kernel_rfl) fun a hF => ?_
        refine wpList_nil ?_
        refine hK43 _ _ ?_
        refine wp_seq_k fun K44 hK44 => ?_
        by_cases hz5 : (k102 : Int) < 3
        · skip
          replace hF := hF.c hF (i := 103) (v := .bool true) rfl (bT hz5)
          refine cT hF (by kernel_rfl) (by kernel_rfl) ?_
          refine wp_skip ?_
          refine hK44 _ _ ?_
          refine wp_seq_k fun K45 hK45 => ?_
          refine wp_block ?_
          refine wp_seq_k fun K46 hK46 => ?_
          refine wp_region_lit ?_
          obtain ⟨ys2, hl2, hm2, hy2⟩ := idx_agg (P := Try.prog) (t := 37) (e := 23) (len := 3) (m := 2) (kd := .i64) [b0, b1, dbb, dbr, dbb, b1] ((k102 : Int)) (by kernel_rfl) (by kernel_rfl) (by omega) rfl
          obtain ⟨y2_0, y2_1, rfl⟩ := len2 hl2
          refine wl (eM 104 (v := .agg #[.int .i64 y2_0, .int .i64 y2_1]) hF hM (by kernel_rfl) (yld_index (X := .agg #[.int .i64 b0, .int .i64 b1, .int .i64 dbb, .int .i64 dbr, .int .i64 dbb, .int .i64 b1]) (I := .int .i64 ((k102 : Int))) hF rfl (by kernel_rfl) (by kernel_rfl) (by kernel_rfl) (fun w => hy2 w)) fun a w hF hM => ?_)
          refine wl (eN 21 19 (t := 23) (fun b => .pointer (some ⟨b, 0, none⟩)) #[.int .i64 0, .int .i64 0] hF hM (by kernel_rfl) (fun _ => by kernel_rfl) fun bb16 a w hF hM => ?_)
          refine wl (sStore (i := 19) (off := 0) (cs' := #[.int .i64 y2_0, .int .i64 y2_1]) hF hM (by kernel_rfl) rfl rfl (by kernel_rfl) (by kernel_rfl) rfl (by kernel_rfl) fun w hM => ?_)
          refine wpList_nil ?_
          refine hK46 _ _ ?_
          refine wp_seq_k fun K47 hK47 => ?_
          refine wp_region_lit ?_
          refine sB 2 [(105, .int .i64 t), (106, .int .i64 t)] hF (by kernel_rfl) fun a hF => ?_
          refine wl (eP 107 (v0 := .int .u64 (IntKind.u64.wrap t)) (v := .int .u64 (t % 18446744073709551616)) hF (by kernel_rfl) (fun _ => by kernel_rfl) (vi (u64_wrap _)) fun a hF => ?_)
          refine wl (eM 108 (v := .int .u64 (t % 18446744073709551616 % 1099511627776)) hF hM (by kernel_rfl) (yld_rem (t % 18446744073709551616) 1099511627776 hF rfl (by kernel_rfl) (by kernel_rfl) (by kernel_rfl) (by decide) (Int.tmod_eq_emod_of_nonneg (by omega))) fun a w hF hM => ?_)
          refine wl (eP 109 (v0 := .int .i64 (IntKind.i64.wrap (t % 18446744073709551616 % 1099511627776))) (v := .int .i64 (t % 18446744073709551616 % 1099511627776)) hF (by kernel_rfl) (fun _ => by kernel_rfl) (vi (IntWalk.i64_in _ (by omega))) fun a hF => ?_)
          refine sB 1 [(110, .int .i64 t)] hF (by kernel_rfl) fun a hF => ?_
          refine wl (eP 111 (v0 := .int .u64 (IntKind.u64.wrap t)) (v := .int .u64 (t % 18446744073709551616)) hF (by kernel_rfl) (fun _ => by kernel_rfl) (vi (u64_wrap _)) fun a hF => ?_)
          refine wl (eM 112 (v := .int .u64 (t % 18446744073709551616 % 99)) hF hM (by kernel_rfl) (yld_rem (t % 18446744073709551616) 99 hF rfl (by kernel_rfl) (by kernel_rfl) (by kernel_rfl) (by decide) (Int.tmod_eq_emod_of_nonneg (by omega))) fun a w hF hM => ?_)
          refine wl (eP 113 (v0 := .int .i64 (IntKind.i64.wrap (t % 18446744073709551616 % 99))) (v := .int .i64 (t % 18446744073709551616 % 99)) hF (by kernel_rfl) (fun _ => by kernel_rfl) (vi (IntWalk.i64_in _ (by omega))) fun a hF => ?_)
          refine sB 2 [(114, .agg #[.int .i64 t, .int .i64 (t % 18446744073709551616 % 1099511627776), .int .i64 (t % 18446744073709551616 % 99)]), (115, .int .i64 0)] hF (by kernel_rfl) fun a hF => ?_
          refine wpList_nil ?_
          refine hK47 _ _ ?_
          refine wp_block ?_
          refine wp_loop_k (G := Nat) (fun gg a w => Fr 170 [(115, some (.int .i64 (gg : Int))), (4, some (.int .i64 t)), (6, some (.pointer (some ⟨bb2, 0, none⟩))), (8, some (.pointer (some ⟨bb3, 0, none⟩))), (21, some (.pointer (some ⟨bb16, 0, none⟩))), (101, some (.agg #[.int .i64 b0, .int .i64 b1, .int .i64 dbb, .int .i64 dbr, .int .i64 dbb, .int .i64 b1])), (102, some (.int .i64 (k102 : Int))), (103, some (.bool true)), (104, some (.agg #[.int .i64 y2_0, .int .i64 y2_1])), (105, some (.int .i64 t)), (106, some (.int .i64 t)), (107, some (.int .u64 (t % 18446744073709551616))), (108, some (.int .u64 (t % 18446744073709551616 % 1099511627776))), (109, some (.int .i64 (t % 18446744073709551616 % 1099511627776))), (110, some (.int .i64 t)), (111, some (.int .u64 (t % 18446744073709551616))), (112, some (.int .u64 (t % 18446744073709551616 % 99))), (113, some (.int .i64 (t % 18446744073709551616 % 99))), (114, some (.agg #[.int .i64 t, .int .i64 (t % 18446744073709551616 % 1099511627776), .int .i64 (t % 18446744073709551616 % 99)]))] a ∧ Mem w0.heap.size w0 [(1, some (.ro Ga (gaps.map (Value.int .u16)))), (2, some (.ro Sa (sizes.map (Value.int .u16)))), (3, some (.ro A (flat2 l))), (5, some (.row bb2 27 #[.int .u32 bu, .int .u32 ra, .slice Ga gaps.length cg, .slice Sa sizes.length cs])), (6, some (.row bb3 30 #[.int .i64 ax, .int .i64 ay])), (7, some (.ro A (flat2 lsl))), (19, some (.row bb16 23 #[.int .i64 y2_0, .int .i64 y2_1]))] w ∧ ((gg : Int) ≤ 3)) (fun gg => 3 - gg) (0) ?_ ?_
          · refine ⟨((((((((((((((((((((Fr.nil hF).c hF (i := 114) rfl rfl).c hF (i := 113) rfl rfl).c hF (i := 112) rfl rfl).c hF (i := 111) rfl rfl).c hF (i := 110) rfl rfl).c hF (i := 109) rfl rfl).c hF (i := 108) rfl rfl).c hF (i := 107) rfl rfl).c hF (i := 106) rfl rfl).c hF (i := 105) rfl rfl).c hF (i := 104) rfl rfl).c hF (i := 103) rfl rfl).c hF (i := 102) rfl rfl).c hF (i := 101) rfl rfl).c hF (i := 21) rfl rfl).c hF (i := 8) rfl rfl).c hF (i := 6) rfl rfl).c hF (i := 4) rfl rfl).c hF (i := 115) rfl (vi (show (0 : Int) = (0 : Int) from by omega))), (hM.sub (((((((Sub.nil.c (k := 19) rfl rfl).c (k := 7) rfl rfl).c (k := 6) rfl rfl).c (k := 5) rfl rfl).c (k := 3) rfl rfl).c (k := 2) rfl rfl).c (k := 1) rfl rfl)), (show (0 : Int) ≤ 3 from by omega)⟩
          · intro gg a w hI
            intro K48 hK48
            obtain ⟨k115, rfl⟩ : ∃ x, x = gg := ⟨_, rfl⟩
            try dsimp only at hI hK48
            obtain ⟨hF, hM, hz6⟩ := hI
            refine wp_seq_k fun K49 hK49 => ?_
            refine wp_region_lit ?_
            refine sB 1 [(116, .bool (decide ((k115 : Int) < 3)))] hF (by kernel_rfl) fun a hF => ?_
            refine wpList_nil ?_
            refine hK49 _ _ ?_
            refine wp_seq_k fun K50 hK50 => ?_
            by_cases hz7 : (k115 : Int) < 3
            · skip
              replace hF := hF.c hF (i := 116) (v := .bool true) rfl (bT hz7)
              refine cT hF (by kernel_rfl) (by kernel_rfl) ?_
              refine wp_skip ?_
              refine hK50 _ _ ?_
              refine wp_seq_k fun K51 hK51 => ?_
              refine wp_block ?_
              refine wp_seq_k fun K52 hK52 => ?_
              refine wp_region_lit ?_
              obtain ⟨y4, hm4, hy4⟩ := idx_one (P := Try.prog) (t := 38) (e := 3) (len := 3) (kd := .i64) [t, t % 18446744073709551616 % 1099511627776, t % 18446744073709551616 % 99] ((k115 : Int)) (by kernel_rfl) (by kernel_rfl) (by kernel_rfl) (by omega) rfl
              refine wl (eM 117 (v := .int .i64 y4) hF hM (by kernel_rfl) (yld_index (X := .agg #[.int .i64 t, .int .i64 (t % 18446744073709551616 % 1099511627776), .int .i64 (t % 18446744073709551616 % 99)]) (I := .int .i64 ((k115 : Int))) hF rfl (by kernel_rfl) (by kernel_rfl) (by kernel_rfl) (fun w => hy4 w)) fun a w hF hM => ?_)
              refine sB 1 [(23, .int .i64 y4)] hF (by kernel_rfl) fun a hF => ?_
              refine wpList_nil ?_
              refine hK52 _ _ ?_
              refine wp_seq_k fun K53 hK53 => ?_
              refine wp_region_lit ?_
              refine wl (eL 119 19 0 (v := .agg #[.int .i64 y2_0, .int .i64 y2_1]) hF hM (by kernel_rfl) rfl rfl (by kernel_rfl) (by kernel_rfl) fun a w hF hM => ?_)
              refine sB 1 [(120, .int .i64 y4)] hF (by kernel_rfl) fun a hF => ?_
              refine wl (eM 121 (v := .tuple #[.int .i64 (wiV y2_0 y2_1 y4), .int .i64 (wiE y2_0 y2_1 y4)]) hF hM (by kernel_rfl) (yld_call (f := 13) (args := #[.agg #[.int .i64 y2_0, .int .i64 y2_1], .int .i64 y4]) hF (by kernel_rfl) (fun _ => by kernel_rfl) (fun w hM => bWithin_w y2_0 y2_1 y4 w)) fun a w hF hM => ?_)
              refine sB 5 [(118, .tuple #[.int .i64 (wiV y2_0 y2_1 y4), .int .i64 (wiE y2_0 y2_1 y4)]), (122, .int .i64 (wiV y2_0 y2_1 y4)), (123, .int .i64 (wiE y2_0 y2_1 y4)), (24, .int .i64 (wiV y2_0 y2_1 y4)), (25, .int .i64 (wiE y2_0 y2_1 y4))] hF (by kernel_rfl) fun a hF => ?_
              refine wpList_nil ?_
              refine hK53 _ _ ?_
              refine wp_seq_k fun K54 hK54 => ?_
              refine wp_region_lit ?_
              refine wl (eL 125 19 0 (v := .agg #[.int .i64 y2_0, .int .i64 y2_1]) hF hM (by kernel_rfl) rfl rfl (by kernel_rfl) (by kernel_rfl) fun a w hF hM => ?_)
              refine sB 1 [(126, .int .i64 y4)] hF (by kernel_rfl) fun a hF => ?_
              refine wl (eM 127 (v := .tuple #[.int .i64 (wiV y2_0 y2_1 y4), .int .i64 (wiE y2_0 y2_1 y4)]) hF hM (by kernel_rfl) (yld_call (f := 14) (args := #[.agg #[.int .i64 y2_0, .int .i64 y2_1], .int .i64 y4]) hF (by kernel_rfl) (fun _ => by kernel_rfl) (fun w hM => rWithin_w y2_0 y2_1 y4 w)) fun a w hF hM => ?_)
              refine sB 5 [(124, .tuple #[.int .i64 (wiV y2_0 y2_1 y4), .int .i64 (wiE y2_0 y2_1 y4)]), (128, .int .i64 (wiV y2_0 y2_1 y4)), (129, .int .i64 (wiE y2_0 y2_1 y4)), (26, .int .i64 (wiV y2_0 y2_1 y4)), (27, .int .i64 (wiE y2_0 y2_1 y4))] hF (by kernel_rfl) fun a hF => ?_
              refine wpList_nil ?_
              refine hK54 _ _ ?_
              refine wp_seq_k fun K55 hK55 => ?_
              refine rQ hM (by kernel_rfl) (by kernel_rfl) ?_
              refine eQ 130 (v0 := .int .i64 (wiV y2_0 y2_1 y4)) (v := .int .i64 (wiV y2_0 y2_1 y4)) hF (by kernel_rfl) (fun _ => by kernel_rfl) rfl fun a hF => ?_
              refine eQ 131 (v0 := .int .i64 (wiV y2_0 y2_1 y4)) (v := .int .i64 (wiV y2_0 y2_1 y4)) hF (by kernel_rfl) (fun _ => by kernel_rfl) rfl fun a hF => ?_
              refine eQ 132 (v0 := .bool (!decide (wiV y2_0 y2_1 y4 = wiV y2_0 y2_1 y4))) (v := .bool false) hF (by kernel_rfl) (fun _ => by kernel_rfl) (nT (by omega)) fun a hF => ?_
              refine eQ 133 (v0 := .bool false) (v := .bool false) hF (by kernel_rfl) (fun _ => by kernel_rfl) rfl fun a hF => ?_
              refine eQ 134 (v0 := .int .i64 (wiE y2_0 y2_1 y4)) (v := .int .i64 (wiE y2_0 y2_1 y4)) hF (by kernel_rfl) (fun _ => by kernel_rfl) rfl fun a hF => ?_
              refine eQ 135 (v0 := .int .i64 (wiE y2_0 y2_1 y4)) (v := .int .i64 (wiE y2_0 y2_1 y4)) hF (by kernel_rfl) (fun _ => by kernel_rfl) rfl fun a hF => ?_
              refine eQ 136 (v0 := .bool (!decide (wiE y2_0 y2_1 y4 = wiE y2_0 y2_1 y4))) (v := .bool false) hF (by kernel_rfl) (fun _ => by kernel_rfl) (nT (by omega)) fun a hF => ?_
              refine eQ 137 (v0 := .bool false) (v := .bool false) hF (by kernel_rfl) (fun _ => by kernel_rfl) rfl fun a hF => ?_
              refine eQ 138 (v0 := .bool false) (v := .bool false) hF (by kernel_rfl) (fun _ => by kernel_rfl) rfl fun a hF => ?_
              refine eQL 139 19 0 (v := .agg #[.int .i64 y2_0, .int .i64 y2_1]) hF (by kernel_rfl) rfl rfl (by kernel_rfl) (by kernel_rfl) fun a hF => ?_
              refine eQ2 140 (v := .int .i64 (bkE y2_0 y2_1)) hF (by kernel_rfl) (yld_call (f := 15) (args := #[.agg #[.int .i64 y2_0, .int .i64 y2_1]]) hF (by kernel_rfl) (fun _ => by kernel_rfl) (fun w hM => bkCheck_w y2_0 y2_1 w)) fun a hF => ?_
              refine eQL 141 19 0 (v := .agg #[.int .i64 y2_0, .int .i64 y2_1]) hF (by kernel_rfl) rfl rfl (by kernel_rfl) (by kernel_rfl) fun a hF => ?_
              refine eQ2 142 (v := .int .i64 (bkE y2_0 y2_1)) hF (by kernel_rfl) (yld_call (f := 16) (args := #[.agg #[.int .i64 y2_0, .int .i64 y2_1]]) hF (by kernel_rfl) (fun _ => by kernel_rfl) (fun w hM => rCheck_w y2_0 y2_1 w)) fun a hF => ?_
              refine eQ 143 (v0 := .bool (!decide (bkE y2_0 y2_1 = bkE y2_0 y2_1))) (v := .bool false) hF (by kernel_rfl) (fun _ => by kernel_rfl) (nT (by omega)) fun a hF => ?_
              refine eQ 144 (v0 := .bool false) (v := .bool false) hF (by kernel_rfl) (fun _ => by kernel_rfl) rfl fun a hF => ?_
              refine wpQuiet_nil ?_
              intro w hM
              refine hK55 _ _ ?_
              refine cF hF (by kernel_rfl) (by kernel_rfl) ?_
              refine wp_skip ?_
              refine hK51 _ _ ?_
              refine wp_region_lit ?_
              refine wl (eP 145 (v0 := .int .i64 (IntKind.i64.wrap ((k115 : Int) + 1))) (v := .int .i64 ((k115 : Int) + 1)) hF (by kernel_rfl) (fun _ => by kernel_rfl) (wi (by omega)) fun a hF => ?_)
              refine sB 1 [(115, .int .i64 ((k115 : Int) + 1))] hF (by kernel_rfl) fun a hF => ?_
              refine wpList_nil ?_
              refine hK48 _ _ ⟨(k115 + 1), ⟨((((((((((((((((((((Fr.nil hF).c hF (i := 114) rfl rfl).c hF (i := 113) rfl rfl).c hF (i := 112) rfl rfl).c hF (i := 111) rfl rfl).c hF (i := 110) rfl rfl).c hF (i := 109) rfl rfl).c hF (i := 108) rfl rfl).c hF (i := 107) rfl rfl).c hF (i := 106) rfl rfl).c hF (i := 105) rfl rfl).c hF (i := 104) rfl rfl).c hF (i := 103) rfl rfl).c hF (i := 102) rfl rfl).c hF (i := 101) rfl rfl).c hF (i := 21) rfl rfl).c hF (i := 8) rfl rfl).c hF (i := 6) rfl rfl).c hF (i := 4) rfl rfl).c hF (i := 115) rfl (vi (show ((k115 : Int) + 1 : Int) = ((k115 + 1) : Int) from by omega))), (hM.sub (((((((Sub.nil.c (k := 19) rfl rfl).c (k := 7) rfl rfl).c (k := 6) rfl rfl).c (k := 5) rfl rfl).c (k := 3) rfl rfl).c (k := 2) rfl rfl).c (k := 1) rfl rfl)), (show ((k115 + 1) : Int) ≤ 3 from by omega)⟩, (show 3 - (k115 + 1) < 3 - k115 from by omega)⟩
            · skip
              replace hF := hF.c hF (i := 116) (v := .bool false) rfl (bF hz7)
              refine cF hF (by kernel_rfl) (by kernel_rfl) ?_
              refine wp_exit ?_
              refine hK45 _ _ ?_
              refine wp_region_lit ?_
              refine wl (eP 146 (v0 := .int .i64 (IntKind.i64.wrap ((k102 : Int) + 1))) (v := .int .i64 ((k102 : Int) + 1)) hF (by kernel_rfl) (fun _ => by kernel_rfl) (wi (by omega)) fun a hF => ?_)
              refine sB 1 [(102, .int .i64 ((k102 : Int) + 1))] hF (by kernel_rfl) fun a hF => ?_
              refine wpList_nil ?_
              refine hK42 _ _ ⟨(k102 + 1), ⟨((((((Fr.nil hF).c hF (i := 101) rfl rfl).c hF (i := 8) rfl rfl).c hF (i := 6) rfl rfl).c hF (i := 4) rfl rfl).c hF (i := 102) rfl (vi (show ((k102 : Int) + 1 : Int) = ((k102 + 1) : Int) from by omega))), (hM.sub ((((((Sub.nil.c (k := 7) rfl rfl).c (k := 6) rfl rfl).c (k := 5) rfl rfl).c (k := 3) rfl rfl).c (k := 2) rfl rfl).c (k := 1) rfl rfl)), (show ((k102 + 1) : Int) ≤ 3 from by omega)⟩, (show 3 - (k102 + 1) < 3 - k102 from by omega)⟩
        · skip
          replace hF := hF.c hF (i := 103) (v := .bool false) rfl (bF hz5)
          refine cF hF (by kernel_rfl) (by kernel_rfl) ?_
          refine wp_exit ?_
          refine hK40 _ _ ?_
          refine wp_seq_k fun K56 hK56 => ?_
          refine wp_region_lit ?_
          refine wl (eL 147 5 0 (v := .agg #[.int .u32 bu, .int .u32 ra, .slice Ga gaps.length cg, .slice Sa sizes.length cs]) hF hM (by kernel_rfl) rfl rfl (by kernel_rfl) (by kernel_rfl) fun a w hF hM => ?_)
          obtain ⟨ltr, e_ltr⟩ : ∃ x : List (Int × Int), x = drTrace gaps sizes := ⟨_, rfl⟩
          have tr_ltr : trE ltr = 0 := by rw [e_ltr]; exact dr_trE hg hs
          have le_ltr : ltr.length ≤ 30 := by rw [e_ltr]; exact dr_le _ _
          refine wl (sOwn 20 (f := 17) (args := #[.agg #[.int .u32 bu, .int .u32 ra, .slice Ga gaps.length cg, .slice Sa sizes.length cs]]) (mk := fun v => v) (e := 30) (size := 2) (m := ltr.length) (xs := (flat2 ltr)) hF hM (by kernel_rfl) rfl (by decide) (by kernel_rfl) (fun _ => by kernel_rfl) (by rw [e_ltr]; exact draftTrace_w bu ra Ga gaps cg Sa sizes cs w (hM.ok 1 _ rfl) (hM.ok 2 _ rfl) hg hs (by omega) (by omega)) fun AA17 cc17 a w hF hM => ?_)
          refine sB 1 [(28, .slice AA17 ltr.length cc17)] hF (by kernel_rfl) fun a hF => ?_
          refine wpList_nil ?_
          refine hK56 _ _ ?_
          refine wp_seq_k fun K57 hK57 => ?_
          obtain ⟨lbt, e_lbt⟩ : ∃ x : List (Int × Int), x = bentL ltr ax ay (t % 256) := ⟨_, rfl⟩
          have le_lbt : lbt.length = ltr.length := by rw [e_lbt]; exact bentL_length _ _ _ _
          refine rF (by kernel_rfl) (by kernel_rfl) (fun S a w => ∃ AA18 : Option Addr, ∃ cc18 : Nat, ∃ AA19 : Option Addr, ∃ cc19 : Nat, Fr 170 [(4, some (.int .i64 t)), (8, some (.pointer (some ⟨bb3, 0, none⟩))), (10, (cond (S.getD 21 false) (some (.bool true)) none)), (28, some (.slice AA17 ltr.length cc17)), (149, (cond (S.getD 0 false) (some (.slice AA17 ltr.length cc17)) none)), (150, (cond (S.getD 1 false) (some (.int .i64 (trE ltr))) none)), (151, (cond (S.getD 2 false) (some (.bool true)) none)), (152, (cond (S.getD 3 false) (some (.bool true)) none)), (153, (cond (S.getD 4 false) (some (.slice AA17 ltr.length cc17)) none)), (154, (cond (S.getD 5 false) (some (.agg #[.int .i64 ax, .int .i64 ay])) none)), (155, (cond (S.getD 6 false) (some (.int .i64 t)) none)), (156, (cond (S.getD 7 false) (some (.int .u8 (t % 256))) none)), (157, (cond (S.getD 8 false) (some (.slice AA18 lbt.length cc18)) none)), (158, (cond (S.getD 9 false) (some (.int .i64 (trE lbt))) none)), (159, (cond (S.getD 10 false) (some (.slice AA17 ltr.length cc17)) none)), (160, (cond (S.getD 11 false) (some (.agg #[.int .i64 ax, .int .i64 ay])) none)), (161, (cond (S.getD 12 false) (some (.int .i64 t)) none)), (162, (cond (S.getD 13 false) (some (.int .u8 (t % 256))) none)), (163, (cond (S.getD 14 false) (some (.slice AA19 lbt.length cc19)) none)), (164, (cond (S.getD 15 false) (some (.int .i64 (trE lbt))) none)), (165, (cond (S.getD 16 false) (some (.bool true)) none)), (166, (cond (S.getD 17 false) (some (.bool true)) none)), (167, (cond (S.getD 18 false) (some (.bool true)) none)), (168, (cond (S.getD 19 false) (some (.bool true)) none)), (169, (cond (S.getD 20 false) (some (.bool true)) none))] a ∧ Mem w0.heap.size w0 [(1, some (.ro Ga (gaps.map (Value.int .u16)))), (2, some (.ro Sa (sizes.map (Value.int .u16)))), (3, some (.ro A (flat2 l))), (6, some (.row bb3 30 #[.int .i64 ax, .int .i64 ay])), (7, some (.ro A (flat2 lsl))), (20, some (.own (.slice AA17 ltr.length cc17) 30 2 ltr.length (flat2 ltr))), (21, (cond (S.getD 8 false) (some (.own (.slice AA18 lbt.length cc18) 30 2 lbt.length (flat2 lbt))) none)), (22, (cond (S.getD 14 false) (some (.own (.slice AA19 lbt.length cc19) 30 2 lbt.length (flat2 lbt))) none))] w) ?_ ?_ ?_
          · exact ⟨none, 0, none, 0, ((((((((((((((((((((((((((Fr.nil hF).co hF (i := 169) (by kernel_rfl)).co hF (i := 168) (by kernel_rfl)).co hF (i := 167) (by kernel_rfl)).co hF (i := 166) (by kernel_rfl)).co hF (i := 165) (by kernel_rfl)).co hF (i := 164) (by kernel_rfl)).co hF (i := 163) (by kernel_rfl)).co hF (i := 162) (by kernel_rfl)).co hF (i := 161) (by kernel_rfl)).co hF (i := 160) (by kernel_rfl)).co hF (i := 159) (by kernel_rfl)).co hF (i := 158) (by kernel_rfl)).co hF (i := 157) (by kernel_rfl)).co hF (i := 156) (by kernel_rfl)).co hF (i := 155) (by kernel_rfl)).co hF (i := 154) (by kernel_rfl)).co hF (i := 153) (by kernel_rfl)).co hF (i := 152) (by kernel_rfl)).co hF (i := 151) (by kernel_rfl)).co hF (i := 150) (by kernel_rfl)).co hF (i := 149) (by kernel_rfl)).co hF (i := 28) (by kernel_rfl)).co hF (i := 10) (by kernel_rfl)).co hF (i := 8) (by kernel_rfl)).co hF (i := 4) (by kernel_rfl)), hM.drew.sub ((((((((Sub.nil.co (k := 22) (by kernel_rfl)).co (k := 21) (by kernel_rfl)).co (k := 20) (by kernel_rfl)).co (k := 7) (by kernel_rfl)).co (k := 6) (by kernel_rfl)).co (k := 3) (by kernel_rfl)).co (k := 2) (by kernel_rfl)).co (k := 1) (by kernel_rfl))⟩
          · refine stC ?_ (stC ?_ (stC ?_ (stC ?_ (stC ?_ (stC ?_ (stC ?_ (stC ?_ (stC ?_ (stC ?_ (stC ?_ (stC ?_ (stC ?_ (stC ?_ (stC ?_ (stC ?_ (stC ?_ (stC ?_ (stC ?_ (stC ?_ (stC ?_ (stC ?_ (trivial))))))))))))))))))))))
            · intro s0 s1 s2 s3 s4 s5 s6 s7 s8 s9 s10 s11 s12 s13 s14 s15 s16 s17 s18 s19 s20 s21 hc hi hp a w hS
              obtain rfl : s0 = false := hi
              obtain ⟨AA18, cc18, AA19, cc19, hF, hM⟩ := hS
              refine eP 149 (v0 := .slice AA17 ltr.length cc17) (v := .slice AA17 ltr.length cc17) hF (by kernel_rfl) (fun _ => by kernel_rfl) rfl fun a hF => ?_
              exact ⟨AA18, cc18, AA19, cc19, ((hF.repl 4 (by kernel_rfl)).cast (by kernel_rfl)), (hM.cast (by kernel_rfl))⟩
            · intro s0 s1 s2 s3 s4 s5 s6 s7 s8 s9 s10 s11 s12 s13 s14 s15 s16 s17 s18 s19 s20 s21 hc hi hp a w hS
              obtain rfl : s1 = false := hi
              obtain rfl : s0 = true := hp 0 (by kernel_rfl)
              obtain ⟨AA18, cc18, AA19, cc19, hF, hM⟩ := hS
              refine eM 150 (v := .int .i64 (trE ltr)) hF hM (by kernel_rfl) (yld_call (f := 18) (args := #[.slice AA17 ltr.length cc17]) hF (by kernel_rfl) (fun _ => by kernel_rfl) (fun w hM => checkTrace_w AA17 ltr _ w (ro_of_own (hM.ok 20 _ rfl)))) fun a w hF hM => ?_
              exact ⟨AA18, cc18, AA19, cc19, ((hF.repl 5 (by kernel_rfl)).cast (by kernel_rfl)), (hM.cast (by kernel_rfl))⟩
            · intro s0 s1 s2 s3 s4 s5 s6 s7 s8 s9 s10 s11 s12 s13 s14 s15 s16 s17 s18 s19 s20 s21 hc hi hp a w hS
              obtain rfl : s2 = false := hi
              obtain rfl : s1 = true := hp 1 (by kernel_rfl)
              obtain ⟨AA18, cc18, AA19, cc19, hF, hM⟩ := hS
              refine eP 151 (v0 := .bool (decide (trE ltr = 0))) (v := .bool true) hF (by kernel_rfl) (fun _ => by kernel_rfl) (bT tr_ltr) fun a hF => ?_
              exact ⟨AA18, cc18, AA19, cc19, ((hF.repl 6 (by kernel_rfl)).cast (by kernel_rfl)), (hM.cast (by kernel_rfl))⟩
            · intro s0 s1 s2 s3 s4 s5 s6 s7 s8 s9 s10 s11 s12 s13 s14 s15 s16 s17 s18 s19 s20 s21 hc hi hp a w hS
              obtain rfl : s3 = false := hi
              obtain rfl : s2 = true := hp 2 (by kernel_rfl)
              obtain ⟨AA18, cc18, AA19, cc19, hF, hM⟩ := hS
              refine eP 152 (v0 := .bool true) (v := .bool true) hF (by kernel_rfl) (fun _ => by kernel_rfl) rfl fun a hF => ?_
              exact ⟨AA18, cc18, AA19, cc19, ((hF.repl 7 (by kernel_rfl)).cast (by kernel_rfl)), (hM.cast (by kernel_rfl))⟩
            · intro s0 s1 s2 s3 s4 s5 s6 s7 s8 s9 s10 s11 s12 s13 s14 s15 s16 s17 s18 s19 s20 s21 hc hi hp a w hS
              obtain rfl : s4 = false := hi
              obtain rfl : s3 = true := hp 3 (by kernel_rfl)
              obtain ⟨AA18, cc18, AA19, cc19, hF, hM⟩ := hS
              refine eP 153 (v0 := .slice AA17 ltr.length cc17) (v := .slice AA17 ltr.length cc17) hF (by kernel_rfl) (fun _ => by kernel_rfl) rfl fun a hF => ?_
              exact ⟨AA18, cc18, AA19, cc19, ((hF.repl 8 (by kernel_rfl)).cast (by kernel_rfl)), (hM.cast (by kernel_rfl))⟩
            · intro s0 s1 s2 s3 s4 s5 s6 s7 s8 s9 s10 s11 s12 s13 s14 s15 s16 s17 s18 s19 s20 s21 hc hi hp a w hS
              obtain rfl : s5 = false := hi
              obtain rfl : s3 = true := hp 3 (by kernel_rfl)
              obtain ⟨AA18, cc18, AA19, cc19, hF, hM⟩ := hS
              refine eL 154 6 0 (v := .agg #[.int .i64 ax, .int .i64 ay]) hF hM (by kernel_rfl) rfl rfl (by kernel_rfl) (by kernel_rfl) fun a w hF hM => ?_
              exact ⟨AA18, cc18, AA19, cc19, ((hF.repl 9 (by kernel_rfl)).cast (by kernel_rfl)), (hM.cast (by kernel_rfl))⟩
            · intro s0 s1 s2 s3 s4 s5 s6 s7 s8 s9 s10 s11 s12 s13 s14 s15 s16 s17 s18 s19 s20 s21 hc hi hp a w hS
              obtain rfl : s6 = false := hi
              obtain rfl : s3 = true := hp 3 (by kernel_rfl)
              obtain ⟨AA18, cc18, AA19, cc19, hF, hM⟩ := hS
              refine eP 155 (v0 := .int .i64 t) (v := .int .i64 t) hF (by kernel_rfl) (fun _ => by kernel_rfl) rfl fun a hF => ?_
              exact ⟨AA18, cc18, AA19, cc19, ((hF.repl 10 (by kernel_rfl)).cast (by kernel_rfl)), (hM.cast (by kernel_rfl))⟩
            · intro s0 s1 s2 s3 s4 s5 s6 s7 s8 s9 s10 s11 s12 s13 s14 s15 s16 s17 s18 s19 s20 s21 hc hi hp a w hS
              obtain rfl : s7 = false := hi
              obtain rfl : s6 = true := hp 6 (by kernel_rfl)
              obtain rfl : s3 = true := hp 3 (by kernel_rfl)
              obtain ⟨AA18, cc18, AA19, cc19, hF, hM⟩ := hS
              refine eP 156 (v0 := .int .u8 (IntKind.u8.wrap t)) (v := .int .u8 (t % 256)) hF (by kernel_rfl) (fun _ => by kernel_rfl) (vi (u8_wrap _)) fun a hF => ?_
              exact ⟨AA18, cc18, AA19, cc19, ((hF.repl 11 (by kernel_rfl)).cast (by kernel_rfl)), (hM.cast (by kernel_rfl))⟩
            · intro s0 s1 s2 s3 s4 s5 s6 s7 s8 s9 s10 s11 s12 s13 s14 s15 s16 s17 s18 s19 s20 s21 hc hi hp a w hS
              obtain rfl : s8 = false := hi
              obtain rfl : s7 = true := hp 7 (by kernel_rfl)
              obtain rfl : s5 = true := hp 5 (by kernel_rfl)
              obtain rfl : s4 = true := hp 4 (by kernel_rfl)
              obtain rfl : s3 = true := hp 3 (by kernel_rfl)
              obtain ⟨AA18, cc18, AA19, cc19, hF, hM⟩ := hS
              refine sOwn 21 (f := 19) (args := #[.slice AA17 ltr.length cc17, .agg #[.int .i64 ax, .int .i64 ay], .int .u8 (t % 256)]) (mk := fun v => v) (e := 30) (size := 2) (m := lbt.length) (xs := (flat2 lbt)) hF hM (by kernel_rfl) rfl (by decide) (by kernel_rfl) (fun _ => by kernel_rfl) (by rw [e_lbt]; exact bent_w AA17 ltr _ ax ay (t % 256) w (ro_of_own (hM.ok 20 _ rfl)) (fun h => by have := own_nil hM (k := 20) rfl h; first | omega | (simp; omega)) (by first | omega | (simp; omega)) (by omega)) fun AA18 cc18 a w hF hM => ?_
              exact ⟨AA18, cc18, AA19, cc19, ((hF.repl 12 (by kernel_rfl)).cast (by kernel_rfl)), ((hM.repl 6 (by kernel_rfl)).cast (by kernel_rfl))⟩
            · intro s0 s1 s2 s3 s4 s5 s6 s7 s8 s9 s10 s11 s12 s13 s14 s15 s16 s17 s18 s19 s20 s21 hc hi hp a w hS
              obtain rfl : s9 = false := hi
              obtain rfl : s8 = true := hp 8 (by kernel_rfl)
              obtain rfl : s3 = true := hp 3 (by kernel_rfl)
              obtain ⟨AA18, cc18, AA19, cc19, hF, hM⟩ := hS
              refine eM 158 (v := .int .i64 (trE lbt)) hF hM (by kernel_rfl) (yld_call (f := 18) (args := #[.slice AA18 lbt.length cc18]) hF (by kernel_rfl) (fun _ => by kernel_rfl) (fun w hM => checkTrace_w AA18 lbt _ w (ro_of_own (hM.ok 21 _ rfl)))) fun a w hF hM => ?_
              exact ⟨AA18, cc18, AA19, cc19, ((hF.repl 13 (by kernel_rfl)).cast (by kernel_rfl)), (hM.cast (by kernel_rfl))⟩
            · intro s0 s1 s2 s3 s4 s5 s6 s7 s8 s9 s10 s11 s12 s13 s14 s15 s16 s17 s18 s19 s20 s21 hc hi hp a w hS
              obtain rfl : s10 = false := hi
              obtain rfl : s3 = true := hp 3 (by kernel_rfl)
              obtain ⟨AA18, cc18, AA19, cc19, hF, hM⟩ := hS
              refine eP 159 (v0 := .slice AA17 ltr.length cc17) (v := .slice AA17 ltr.length cc17) hF (by kernel_rfl) (fun _ => by kernel_rfl) rfl fun a hF => ?_
              exact ⟨AA18, cc18, AA19, cc19, ((hF.repl 14 (by kernel_rfl)).cast (by kernel_rfl)), (hM.cast (by kernel_rfl))⟩
            · intro s0 s1 s2 s3 s4 s5 s6 s7 s8 s9 s10 s11 s12 s13 s14 s15 s16 s17 s18 s19 s20 s21 hc hi hp a w hS
              obtain rfl : s11 = false := hi
              obtain rfl : s3 = true := hp 3 (by kernel_rfl)
              obtain ⟨AA18, cc18, AA19, cc19, hF, hM⟩ := hS
              refine eL 160 6 0 (v := .agg #[.int .i64 ax, .int .i64 ay]) hF hM (by kernel_rfl) rfl rfl (by kernel_rfl) (by kernel_rfl) fun a w hF hM => ?_
              exact ⟨AA18, cc18, AA19, cc19, ((hF.repl 15 (by kernel_rfl)).cast (by kernel_rfl)), (hM.cast (by kernel_rfl))⟩
            · intro s0 s1 s2 s3 s4 s5 s6 s7 s8 s9 s10 s11 s12 s13 s14 s15 s16 s17 s18 s19 s20 s21 hc hi hp a w hS
              obtain rfl : s12 = false := hi
              obtain rfl : s3 = true := hp 3 (by kernel_rfl)
              obtain ⟨AA18, cc18, AA19, cc19, hF, hM⟩ := hS
              refine eP 161 (v0 := .int .i64 t) (v := .int .i64 t) hF (by kernel_rfl) (fun _ => by kernel_rfl) rfl fun a hF => ?_
              exact ⟨AA18, cc18, AA19, cc19, ((hF.repl 16 (by kernel_rfl)).cast (by kernel_rfl)), (hM.cast (by kernel_rfl))⟩
            · intro s0 s1 s2 s3 s4 s5 s6 s7 s8 s9 s10 s11 s12 s13 s14 s15 s16 s17 s18 s19 s20 s21 hc hi hp a w hS
              obtain rfl : s13 = false := hi
              obtain rfl : s12 = true := hp 12 (by kernel_rfl)
              obtain rfl : s3 = true := hp 3 (by kernel_rfl)
              obtain ⟨AA18, cc18, AA19, cc19, hF, hM⟩ := hS
              refine eP 162 (v0 := .int .u8 (IntKind.u8.wrap t)) (v := .int .u8 (t % 256)) hF (by kernel_rfl) (fun _ => by kernel_rfl) (vi (u8_wrap _)) fun a hF => ?_
              exact ⟨AA18, cc18, AA19, cc19, ((hF.repl 17 (by kernel_rfl)).cast (by kernel_rfl)), (hM.cast (by kernel_rfl))⟩
            · intro s0 s1 s2 s3 s4 s5 s6 s7 s8 s9 s10 s11 s12 s13 s14 s15 s16 s17 s18 s19 s20 s21 hc hi hp a w hS
              obtain rfl : s14 = false := hi
              obtain rfl : s13 = true := hp 13 (by kernel_rfl)
              obtain rfl : s11 = true := hp 11 (by kernel_rfl)
              obtain rfl : s10 = true := hp 10 (by kernel_rfl)
              obtain rfl : s3 = true := hp 3 (by kernel_rfl)
              obtain ⟨AA18, cc18, AA19, cc19, hF, hM⟩ := hS
              refine sOwn 22 (f := 19) (args := #[.slice AA17 ltr.length cc17, .agg #[.int .i64 ax, .int .i64 ay], .int .u8 (t % 256)]) (mk := fun v => v) (e := 30) (size := 2) (m := lbt.length) (xs := (flat2 lbt)) hF hM (by kernel_rfl) rfl (by decide) (by kernel_rfl) (fun _ => by kernel_rfl) (by rw [e_lbt]; exact bent_w AA17 ltr _ ax ay (t % 256) w (ro_of_own (hM.ok 20 _ rfl)) (fun h => by have := own_nil hM (k := 20) rfl h; first | omega | (simp; omega)) (by first | omega | (simp; omega)) (by omega)) fun AA19 cc19 a w hF hM => ?_
              exact ⟨AA18, cc18, AA19, cc19, ((hF.repl 18 (by kernel_rfl)).cast (by kernel_rfl)), ((hM.repl 7 (by kernel_rfl)).cast (by kernel_rfl))⟩
            · intro s0 s1 s2 s3 s4 s5 s6 s7 s8 s9 s10 s11 s12 s13 s14 s15 s16 s17 s18 s19 s20 s21 hc hi hp a w hS
              obtain rfl : s15 = false := hi
              obtain rfl : s14 = true := hp 14 (by kernel_rfl)
              obtain rfl : s3 = true := hp 3 (by kernel_rfl)
              obtain ⟨AA18, cc18, AA19, cc19, hF, hM⟩ := hS
              refine eM 164 (v := .int .i64 (trE lbt)) hF hM (by kernel_rfl) (yld_call (f := 20) (args := #[.slice AA19 lbt.length cc19]) hF (by kernel_rfl) (fun _ => by kernel_rfl) (fun w hM => rCheckTrace_w AA19 lbt _ w (ro_of_own (hM.ok 22 _ rfl)))) fun a w hF hM => ?_
              exact ⟨AA18, cc18, AA19, cc19, ((hF.repl 19 (by kernel_rfl)).cast (by kernel_rfl)), (hM.cast (by kernel_rfl))⟩
            · intro s0 s1 s2 s3 s4 s5 s6 s7 s8 s9 s10 s11 s12 s13 s14 s15 s16 s17 s18 s19 s20 s21 hc hi hp a w hS
              obtain rfl : s16 = false := hi
              obtain rfl : s15 = true := hp 15 (by kernel_rfl)
              obtain rfl : s9 = true := hp 9 (by kernel_rfl)
              obtain rfl : s3 = true := hp 3 (by kernel_rfl)
              obtain ⟨AA18, cc18, AA19, cc19, hF, hM⟩ := hS
              refine eP 165 (v0 := .bool (decide (trE lbt = trE lbt))) (v := .bool true) hF (by kernel_rfl) (fun _ => by kernel_rfl) (bT (by omega)) fun a hF => ?_
              exact ⟨AA18, cc18, AA19, cc19, ((hF.repl 20 (by kernel_rfl)).cast (by kernel_rfl)), (hM.cast (by kernel_rfl))⟩
            · intro s0 s1 s2 s3 s4 s5 s6 s7 s8 s9 s10 s11 s12 s13 s14 s15 s16 s17 s18 s19 s20 s21 hc hi hp a w hS
              obtain rfl : s17 = false := hi
              obtain rfl : s16 = true := hp 16 (by kernel_rfl)
              obtain rfl : s3 = true := hp 3 (by kernel_rfl)
              obtain ⟨AA18, cc18, AA19, cc19, hF, hM⟩ := hS
              refine eP 166 (v0 := .bool true) (v := .bool true) hF (by kernel_rfl) (fun _ => by kernel_rfl) rfl fun a hF => ?_
              exact ⟨AA18, cc18, AA19, cc19, ((hF.repl 21 (by kernel_rfl)).cast (by kernel_rfl)), (hM.cast (by kernel_rfl))⟩
            · intro s0 s1 s2 s3 s4 s5 s6 s7 s8 s9 s10 s11 s12 s13 s14 s15 s16 s17 s18 s19 s20 s21 hc hi hp a w hS
              obtain rfl : s18 = false := hi
              obtain rfl : s17 = true := hp 17 (by kernel_rfl)
              obtain ⟨AA18, cc18, AA19, cc19, hF, hM⟩ := hS
              refine eP 167 (v0 := .bool true) (v := .bool true) hF (by kernel_rfl) (fun _ => by kernel_rfl) rfl fun a hF => ?_
              exact ⟨AA18, cc18, AA19, cc19, ((hF.repl 22 (by kernel_rfl)).cast (by kernel_rfl)), (hM.cast (by kernel_rfl))⟩
            · intro s0 s1 s2 s3 s4 s5 s6 s7 s8 s9 s10 s11 s12 s13 s14 s15 s16 s17 s18 s19 s20 s21 hc hi hp a w hS
              obtain rfl : s19 = false := hi
              obtain rfl : s18 = true := hp 18 (by kernel_rfl)
              obtain ⟨AA18, cc18, AA19, cc19, hF, hM⟩ := hS
              refine eM 168 (v := .bool true) hF hM (by kernel_rfl) (yld_call (f := 21) (args := #[]) hF (by kernel_rfl) (fun _ => by kernel_rfl) (fun w hM => works_w w)) fun a w hF hM => ?_
              exact ⟨AA18, cc18, AA19, cc19, ((hF.repl 23 (by kernel_rfl)).cast (by kernel_rfl)), (hM.cast (by kernel_rfl))⟩
            · intro s0 s1 s2 s3 s4 s5 s6 s7 s8 s9 s10 s11 s12 s13 s14 s15 s16 s17 s18 s19 s20 s21 hc hi hp a w hS
              obtain rfl : s20 = false := hi
              obtain rfl : s19 = true := hp 19 (by kernel_rfl)
              obtain rfl : s18 = true := hp 18 (by kernel_rfl)
              obtain ⟨AA18, cc18, AA19, cc19, hF, hM⟩ := hS
              refine eP 169 (v0 := .bool true) (v := .bool true) hF (by kernel_rfl) (fun _ => by kernel_rfl) rfl fun a hF => ?_
              exact ⟨AA18, cc18, AA19, cc19, ((hF.repl 24 (by kernel_rfl)).cast (by kernel_rfl)), (hM.cast (by kernel_rfl))⟩
            · intro s0 s1 s2 s3 s4 s5 s6 s7 s8 s9 s10 s11 s12 s13 s14 s15 s16 s17 s18 s19 s20 s21 hc hi hp a w hS
              obtain rfl : s21 = false := hi
              obtain rfl : s20 = true := hp 20 (by kernel_rfl)
              obtain ⟨AA18, cc18, AA19, cc19, hF, hM⟩ := hS
              refine eP 10 (v0 := .bool true) (v := .bool true) hF (by kernel_rfl) (fun _ => by kernel_rfl) rfl fun a hF => ?_
              exact ⟨AA18, cc18, AA19, cc19, ((hF.repl 2 (by kernel_rfl)).cast (by kernel_rfl)), (hM.cast (by kernel_rfl))⟩
          · intro a w hS
            obtain ⟨AA18, cc18, AA19, cc19, hF, hM⟩ := hS
            replace hF : Fr 170 [(4, some (.int .i64 t)), (8, some (.pointer (some ⟨bb3, 0, none⟩))), (10, some (.bool true)), (28, some (.slice AA17 ltr.length cc17)), (149, some (.slice AA17 ltr.length cc17)), (150, some (.int .i64 (trE ltr))), (151, some (.bool true)), (152, some (.bool true)), (153, some (.slice AA17 ltr.length cc17)), (154, some (.agg #[.int .i64 ax, .int .i64 ay])), (155, some (.int .i64 t)), (156, some (.int .u8 (t % 256))), (157, some (.slice AA18 lbt.length cc18)), (158, some (.int .i64 (trE lbt))), (159, some (.slice AA17 ltr.length cc17)), (160, some (.agg #[.int .i64 ax, .int .i64 ay])), (161, some (.int .i64 t)), (162, some (.int .u8 (t % 256))), (163, some (.slice AA19 lbt.length cc19)), (164, some (.int .i64 (trE lbt))), (165, some (.bool true)), (166, some (.bool true)), (167, some (.bool true)), (168, some (.bool true)), (169, some (.bool true))] a := hF.cast (by kernel_rfl)
            replace hM : Mem w0.heap.size w0 [(1, some (.ro Ga (gaps.map (Value.int .u16)))), (2, some (.ro Sa (sizes.map (Value.int .u16)))), (3, some (.ro A (flat2 l))), (6, some (.row bb3 30 #[.int .i64 ax, .int .i64 ay])), (7, some (.ro A (flat2 lsl))), (20, some (.own (.slice AA17 ltr.length cc17) 30 2 ltr.length (flat2 ltr))), (21, some (.own (.slice AA18 lbt.length cc18) 30 2 lbt.length (flat2 lbt))), (22, some (.own (.slice AA19 lbt.length cc19) 30 2 lbt.length (flat2 lbt)))] w := hM.cast (by kernel_rfl)
            refine hK57 _ _ ?_
            refine wp_ret ?_
            refine hR0 _ _ ?_
            refine ret_of hF hM (.tmp rfl (.nil)) ?_
            exact ⟨rfl, hM.bel⟩

end Go.Proofs.Ytecofcjlokfkhaa
