/-
  The walk of CurveDrains.
-/
import Derived.Test.YtoighcbbaacnaaaCurveJ
namespace Go.Proofs.Ytoighcbbaacnaaa
open Go.RowKit
set_option linter.unusedVariables false
set_option linter.unusedSimpArgs false

theorem shl22 {q : Int} (h : 0 ≤ q ∧ q < 22) : ∃ z : Int, IntKind.i64.wrap (1 * 2 ^ min q.toNat IntKind.i64.bits) = z ∧ 1 ≤ z ∧ z ≤ 2097152 := by
  have k : ∀ n : Nat, n < 22 → IntKind.i64.wrap (1 * 2 ^ min n IntKind.i64.bits) = 2 ^ n ∧ 1 ≤ (2 : Int) ^ n ∧ (2 : Int) ^ n ≤ 2097152 := by decide
  exact ⟨_, k q.toNat (by omega)⟩
set_option maxRecDepth 100000 in
set_option maxHeartbeats 8000000 in
theorem curveDrains_walk (A : Option Addr) (l : List (Int × Int)) (c : Nat) (bu ra : Int) (Ga : Option Addr) (gaps : List Int) (cg : Nat) (Sa : Option Addr) (sizes : List Int) (cs : Nat) (s0 s1 n0 n1 : Int) (w0 : World) (hA : Ro w0 A (flat2 l)) (hlc : l.length ≤ c) (hc : c ≤ 9223372036854775807) (hGa : Ro w0 Ga (gaps.map (Value.int .u16))) (hSa : Ro w0 Sa (sizes.map (Value.int .u16))) (hg : All16 gaps) (hs : All16 sizes) (hmg : gaps.length ≤ 9223372036854775807) (hms : sizes.length ≤ 9223372036854775807) (h : 0 ≤ bu ∧ bu < 4294967296 ∧ 0 ≤ ra ∧ ra < 4294967296 ∧ 0 ≤ n0 ∧ n0 < 4294967296 ∧ 0 ≤ n1 ∧ n1 < 4294967296) :
    Calls Try.prog 6 #[.slice A l.length c, .agg #[.int .u32 bu, .int .u32 ra, .slice Ga gaps.length cg, .slice Sa sizes.length cs], .agg #[.int .i64 s0, .int .i64 s1], .agg #[.int .u32 n0, .int .u32 n1]] w0 (Ret w0 (.bool true)) := by
  obtain ⟨shv, hshv, hsh1⟩ := shl22 (q := n0 % 22) (by omega)
  refine enterK 72 Try.func6 rfl rfl rfl ?_
  intro a hF Q0 hR0 hN0
  have hM := Mem.start w0
  replace hM := hM.addOld 1 hGa (Nat.le_refl _)
  replace hM := hM.addOld 2 hSa (Nat.le_refl _)
  replace hM := hM.addOld 3 hA (Nat.le_refl _)
  refine wp_seq_k fun K1 hK1 => ?_
  refine wp_region_lit ?_
  refine wl (eN 5 4 (t := 42) (fun b => .pointer (some ⟨b, 0, none⟩)) #[.int .u32 bu, .int .u32 ra, .slice Ga gaps.length cg, .slice Sa sizes.length cs] hF hM (by kernel_rfl) (fun _ => by kernel_rfl) fun bb1 a w hF hM => ?_)
  refine wl (eN 6 5 (t := 23) (fun b => .pointer (some ⟨b, 0, none⟩)) #[.int .i64 s0, .int .i64 s1] hF hM (by kernel_rfl) (fun _ => by kernel_rfl) fun bb2 a w hF hM => ?_)
  refine wl (eN 7 6 (t := 37) (fun b => .pointer (some ⟨b, 0, none⟩)) #[.int .u32 n0, .int .u32 n1] hF hM (by kernel_rfl) (fun _ => by kernel_rfl) fun bb3 a w hF hM => ?_)
  refine sB 1 [(8, .bool false)] hF (by kernel_rfl) fun a hF => ?_
  refine wpList_nil ?_
  refine hK1 _ _ ?_
  refine wp_seq_k fun K2 hK2 => ?_
  refine wp_region_lit ?_
  refine sB 3 [(17, .slice A l.length c), (18, .slice A l.length c), (19, .int .i64 (l.length : Int))] hF (by kernel_rfl) fun a hF => ?_
  refine wl (eP 20 (v0 := .int .i64 (if 40 < (l.length : Int) then 40 else (l.length : Int))) (v := .int .i64 (min (l.length : Int) 40)) hF (by kernel_rfl) (fun _ => by kernel_rfl) (vi (min_if _ _)) fun a hF => ?_)
  obtain ⟨lsl, e_lsl⟩ : ∃ x : List (Int × Int), x = l.take ((min (l.length : Int) 40).toNat) := ⟨_, rfl⟩
  have len_lsl : (lsl.length : Int) = min (l.length : Int) 40 := by rw [e_lsl, List.length_take]; omega
  replace hM := hM.roMore 7 3 (xs' := (flat2 lsl)) rfl (by rw [e_lsl]; exact flat2_sub _ _)
  refine wl (eM 21 (v := .slice A lsl.length c) hF hM (by kernel_rfl) (yld_slice0 (e := 64) (len := l.length) (cap := c) (m := lsl.length) (A := A) (i := min (l.length : Int) 40) hF rfl (by kernel_rfl) (by kernel_rfl) (by kernel_rfl) (by kernel_rfl) (by kernel_rfl) (by omega) (by omega)) fun a w hF hM => ?_)
  refine sB 1 [(0, .slice A lsl.length c)] hF (by kernel_rfl) fun a hF => ?_
  refine wpList_nil ?_
  refine hK2 _ _ ?_
  refine wp_seq_k fun K3 hK3 => ?_
  refine wp_seq_k fun K4 hK4 => ?_
  refine wp_region_lit ?_
  refine sB 1 [(22, .slice A lsl.length c)] hF (by kernel_rfl) fun a hF => ?_
  refine wl (eL 23 4 0 (v := .agg #[.int .u32 bu, .int .u32 ra, .slice Ga gaps.length cg, .slice Sa sizes.length cs]) hF hM (by kernel_rfl) rfl rfl (by kernel_rfl) (by kernel_rfl) fun a w hF hM => ?_)
  obtain ⟨ltr, e_ltr⟩ : ∃ x : List (Int × Int), x = drTrace gaps sizes := ⟨_, rfl⟩
  have tr_ltr : trE ltr = 0 := by rw [e_ltr]; exact dr_trE hg hs
  have le_ltr : ltr.length ≤ 30 := by rw [e_ltr]; exact dr_le _ _
  refine wl (sOwn 8 (f := 26) (args := #[.agg #[.int .u32 bu, .int .u32 ra, .slice Ga gaps.length cg, .slice Sa sizes.length cs]]) (mk := fun v => v) (e := 64) (size := 2) (m := ltr.length) (xs := (flat2 ltr)) hF hM (by kernel_rfl) rfl (by decide) (by kernel_rfl) (fun _ => by kernel_rfl) (by rw [e_ltr]; exact draftTrace_w bu ra Ga gaps cg Sa sizes cs w (hM.ok 1 _ rfl) (hM.ok 2 _ rfl) hg hs (by omega) (by omega)) fun AA4 cc4 a w hF hM => ?_)
  refine sB 2 [(25, .agg #[.slice A lsl.length c, .slice AA4 ltr.length cc4]), (26, .int .i64 0)] hF (by kernel_rfl) fun a hF => ?_
  refine wpList_nil ?_
  refine hK4 _ _ ?_
  refine wp_block ?_
  refine wp_loop_rounds 3 ?_
  refine rounds_k fun K5 hK5 => ?_
  refine wp_seq_k fun K6 hK6 => ?_
  refine wp_region_lit ?_
  refine wl (eP 27 (v0 := .bool (decide (0 < 2))) (v := .bool true) hF (by kernel_rfl) (fun _ => by kernel_rfl) (bT (by omega)) fun a hF => ?_)
  refine wpList_nil ?_
  refine hK6 _ _ ?_
  refine wp_seq_k fun K7 hK7 => ?_
  refine cT hF (by kernel_rfl) (by kernel_rfl) ?_
  refine wp_skip ?_
  refine hK7 _ _ ?_
  refine wp_seq_k fun K8 hK8 => ?_
  refine wp_block ?_
  refine wp_seq_k fun K9 hK9 => ?_
  refine wp_region_lit ?_
  refine sB 2 [(28, .slice A lsl.length c), (10, .slice A lsl.length c)] hF (by kernel_rfl) fun a hF => ?_
  refine wpList_nil ?_
  refine hK9 _ _ ?_
  refine wp_seq_k fun K10 hK10 => ?_
  refine rQ hM (by kernel_rfl) (by kernel_rfl) ?_
  refine eQL 29 5 0 (v := .agg #[.int .i64 s0, .int .i64 s1]) hF (by kernel_rfl) rfl rfl (by kernel_rfl) (by kernel_rfl) fun a hF => ?_
  refine eQ 30 (v0 := .pointer (some ⟨bb3, 0, none⟩)) (v := .pointer (some ⟨bb3, 0, none⟩)) hF (by kernel_rfl) (fun _ => by kernel_rfl) rfl fun a hF => ?_
  refine eQL 31 6 0 (v := .int .u32 n0) hF (by kernel_rfl) rfl rfl (by kernel_rfl) (by kernel_rfl) fun a hF => ?_
  refine eQ 32 (v0 := .pointer (some ⟨bb3, 1, none⟩)) (v := .pointer (some ⟨bb3, 1, none⟩)) hF (by kernel_rfl) (fun _ => by kernel_rfl) rfl fun a hF => ?_
  refine eQL 33 6 1 (v := .int .u32 n1) hF (by kernel_rfl) rfl rfl (by kernel_rfl) (by kernel_rfl) fun a hF => ?_
  refine eQ2 34 (v := .agg #[.int .i64 (1 + n0 % 2097152), .int .i64 (n1 % 268435457)]) hF (by kernel_rfl) (yld_call (f := 13) (args := #[.int .u32 n0, .int .u32 n1]) hF (by kernel_rfl) (fun _ => by kernel_rfl) (fun w hM => rOf4_w n0 n1 w (by omega))) fun a hF => ?_
  refine eQ 35 (v0 := .pointer (some ⟨bb3, 0, none⟩)) (v := .pointer (some ⟨bb3, 0, none⟩)) hF (by kernel_rfl) (fun _ => by kernel_rfl) rfl fun a hF => ?_
  refine eQL 36 6 0 (v := .int .u32 n0) hF (by kernel_rfl) rfl rfl (by kernel_rfl) (by kernel_rfl) fun a hF => ?_
  refine eQ2 37 (v := .int .u32 (n0 % 22)) hF (by kernel_rfl) (yld_rem n0 22 hF rfl (by kernel_rfl) (by kernel_rfl) (by kernel_rfl) (by decide) (Int.tmod_eq_emod_of_nonneg (by omega))) fun a hF => ?_
  refine eQ2 38 (v := .int .i64 shv) hF (by kernel_rfl) (yld_shl (yk := .u32) 1 (n0 % 22) hF rfl (by kernel_rfl) (by kernel_rfl) (by kernel_rfl) (by omega) (hshv)) fun a hF => ?_
  refine eQ 39 (v0 := .pointer (some ⟨bb3, 1, none⟩)) (v := .pointer (some ⟨bb3, 1, none⟩)) hF (by kernel_rfl) (fun _ => by kernel_rfl) rfl fun a hF => ?_
  refine eQL 40 6 1 (v := .int .u32 n1) hF (by kernel_rfl) rfl rfl (by kernel_rfl) (by kernel_rfl) fun a hF => ?_
  refine eQ2 41 (v := .int .u32 (n1 % 300)) hF (by kernel_rfl) (yld_rem n1 300 hF rfl (by kernel_rfl) (by kernel_rfl) (by kernel_rfl) (by decide) (Int.tmod_eq_emod_of_nonneg (by omega))) fun a hF => ?_
  refine eQ 42 (v0 := .int .i64 (IntKind.i64.wrap (n1 % 300))) (v := .int .i64 (n1 % 300)) hF (by kernel_rfl) (fun _ => by kernel_rfl) (vi (IntWalk.i64_in _ (by omega))) fun a hF => ?_
  refine eQ 43 (v0 := .agg #[.int .i64 shv, .int .i64 (n1 % 300)]) (v := .agg #[.int .i64 shv, .int .i64 (n1 % 300)]) hF (by kernel_rfl) (fun _ => by kernel_rfl) rfl fun a hF => ?_
  refine eQ 44 (v0 := .agg #[.int .i64 s0, .int .i64 s1, .int .i64 (1 + n0 % 2097152), .int .i64 (n1 % 268435457), .int .i64 shv, .int .i64 (n1 % 300)]) (v := .agg #[.int .i64 s0, .int .i64 s1, .int .i64 (1 + n0 % 2097152), .int .i64 (n1 % 268435457), .int .i64 shv, .int .i64 (n1 % 300)]) hF (by kernel_rfl) (fun _ => by kernel_rfl) rfl fun a hF => ?_
  refine eQ 45 (v0 := .int .i64 0) (v := .int .i64 0) hF (by kernel_rfl) (fun _ => by kernel_rfl) rfl fun a hF => ?_
  refine wpQuiet_nil ?_
  intro w hM
  refine hK10 _ _ ?_
  refine wp_block ?_
  refine wp_loop_k (G := Nat) (fun gg a w => Fr 72 [(45, some (.int .i64 (gg : Int))), (6, some (.pointer (some ⟨bb2, 0, none⟩))), (7, some (.pointer (some ⟨bb3, 0, none⟩))), (10, some (.slice A lsl.length c)), (25, some (.agg #[.slice A lsl.length c, .slice AA4 ltr.length cc4])), (26, some (.int .i64 0)), (44, some (.agg #[.int .i64 s0, .int .i64 s1, .int .i64 (1 + n0 % 2097152), .int .i64 (n1 % 268435457), .int .i64 shv, .int .i64 (n1 % 300)]))] a ∧ Mem w0.heap.size w0 [(1, some (.ro Ga (gaps.map (Value.int .u16)))), (2, some (.ro Sa (sizes.map (Value.int .u16)))), (3, some (.ro A (flat2 l))), (5, some (.row bb2 23 #[.int .i64 s0, .int .i64 s1])), (6, some (.row bb3 37 #[.int .u32 n0, .int .u32 n1])), (7, some (.ro A (flat2 lsl))), (8, some (.own (.slice AA4 ltr.length cc4) 64 2 ltr.length (flat2 ltr)))] w ∧ ((gg : Int) ≤ 3)) (fun gg => 3 - gg) (0) ?_ ?_
  · refine ⟨((((((((Fr.nil hF).c hF (i := 44) rfl rfl).c hF (i := 26) rfl rfl).c hF (i := 25) rfl rfl).c hF (i := 10) rfl rfl).c hF (i := 7) rfl rfl).c hF (i := 6) rfl rfl).c hF (i := 45) rfl (vi (show (0 : Int) = (0 : Int) from by omega))), (hM.sub (((((((Sub.nil.c (k := 8) rfl rfl).c (k := 7) rfl rfl).c (k := 6) rfl rfl).c (k := 5) rfl rfl).c (k := 3) rfl rfl).c (k := 2) rfl rfl).c (k := 1) rfl rfl)), (show (0 : Int) ≤ 3 from by omega)⟩
  · intro gg a w hI
    intro K11 hK11
    obtain ⟨kc1, rfl⟩ : ∃ x, x = gg := ⟨_, rfl⟩
    try dsimp only at hI hK11
    obtain ⟨hF, hM, hz1⟩ := hI
    refine wp_seq_k fun K12 hK12 => ?_
    refine wp_region_lit ?_
    refine sB 1 [(46, .bool (decide ((kc1 : Int) < 3)))] hF (by kernel_rfl) fun a hF => ?_
    refine wpList_nil ?_
    refine hK12 _ _ ?_
    refine wp_seq_k fun K13 hK13 => ?_
    by_cases hz2 : (kc1 : Int) < 3
    · skip
      replace hF := hF.c hF (i := 46) (v := .bool true) rfl (bT hz2)
      refine cT hF (by kernel_rfl) (by kernel_rfl) ?_
      refine wp_skip ?_
      refine hK13 _ _ ?_
      refine wp_seq_k fun K14 hK14 => ?_
      refine wp_block ?_
      refine wp_seq_k fun K15 hK15 => ?_
      refine wp_region_lit ?_
      obtain ⟨ys2, hl2, hm2, hy2⟩ := idx_agg (P := Try.prog) (t := 45) (e := 23) (len := 3) (m := 2) (kd := .i64) [s0, s1, 1 + n0 % 2097152, n1 % 268435457, shv, n1 % 300] ((kc1 : Int)) (by kernel_rfl) (by kernel_rfl) (by omega) rfl
      obtain ⟨y2_0, y2_1, rfl⟩ := len2 hl2
      refine wl (eM 47 (v := .agg #[.int .i64 y2_0, .int .i64 y2_1]) hF hM (by kernel_rfl) (yld_index (X := .agg #[.int .i64 s0, .int .i64 s1, .int .i64 (1 + n0 % 2097152), .int .i64 (n1 % 268435457), .int .i64 shv, .int .i64 (n1 % 300)]) (I := .int .i64 ((kc1 : Int))) hF rfl (by kernel_rfl) (by kernel_rfl) (by kernel_rfl) (fun w => hy2 w)) fun a w hF hM => ?_)
      refine wl (eN 12 9 (t := 23) (fun b => .pointer (some ⟨b, 0, none⟩)) #[.int .i64 0, .int .i64 0] hF hM (by kernel_rfl) (fun _ => by kernel_rfl) fun bb5 a w hF hM => ?_)
      refine wl (sStore (i := 9) (off := 0) (cs' := #[.int .i64 y2_0, .int .i64 y2_1]) hF hM (by kernel_rfl) rfl rfl (by kernel_rfl) (by kernel_rfl) rfl (by kernel_rfl) fun w hM => ?_)
      refine wpList_nil ?_
      refine hK15 _ _ ?_
      refine wp_seq_k fun K16 hK16 => ?_
      by_cases hz3 : trE lsl = 0
      · skip
        have hz4 := trE_ok hz3
        by_cases hz5 : svE y2_0 y2_1 = 0
        · skip
          have hz6 := svE_ok hz5
          refine wp_region_lit ?_
          refine sB 1 [(49, .slice A lsl.length c)] hF (by kernel_rfl) fun a hF => ?_
          refine wl (eL 50 9 0 (v := .agg #[.int .i64 y2_0, .int .i64 y2_1]) hF hM (by kernel_rfl) rfl rfl (by kernel_rfl) (by kernel_rfl) fun a w hF hM => ?_)
          have := drL_len y2_0 y2_1 lsl lsl.length
          refine wl (sOwn 10 (f := 27) (args := #[.slice A lsl.length c, .agg #[.int .i64 y2_0, .int .i64 y2_1]]) (mk := fun v => .tuple #[v, .int .i64 0]) (e := 3) (size := 1) (m := lsl.length) (xs := ((drL y2_0 y2_1 lsl lsl.length).map (Value.int .i64))) hF hM (by kernel_rfl) rfl (by decide) (by kernel_rfl) (fun _ => by kernel_rfl) (drain_ok y2_0 y2_1 A lsl _ w (hM.ok 7 _ rfl) hz3 hz5) fun AA6 cc6 a w hF hM => ?_)
          refine sB 5 [(48, .tuple #[.slice AA6 lsl.length cc6, .int .i64 0]), (52, .slice AA6 lsl.length cc6), (53, .int .i64 0), (13, .slice AA6 lsl.length cc6), (14, .int .i64 0)] hF (by kernel_rfl) fun a hF => ?_
          refine wpList_nil ?_
          refine hK16 _ _ ?_
          refine wp_seq_k fun K17 hK17 => ?_
          refine wp_region_lit ?_
          refine sB 1 [(55, .slice A lsl.length c)] hF (by kernel_rfl) fun a hF => ?_
          refine wl (eL 56 9 0 (v := .agg #[.int .i64 y2_0, .int .i64 y2_1]) hF hM (by kernel_rfl) rfl rfl (by kernel_rfl) (by kernel_rfl) fun a w hF hM => ?_)
          have := drL_len y2_0 y2_1 lsl lsl.length
          refine wl (sOwn 11 (f := 28) (args := #[.slice A lsl.length c, .agg #[.int .i64 y2_0, .int .i64 y2_1]]) (mk := fun v => .tuple #[v, .int .i64 0]) (e := 3) (size := 1) (m := lsl.length) (xs := ((drL y2_0 y2_1 lsl lsl.length).map (Value.int .i64))) hF hM (by kernel_rfl) rfl (by decide) (by kernel_rfl) (fun _ => by kernel_rfl) (rDrain_ok y2_0 y2_1 A lsl _ w (hM.ok 7 _ rfl) hz3 hz5) fun AA7 cc7 a w hF hM => ?_)
          refine sB 5 [(54, .tuple #[.slice AA7 lsl.length cc7, .int .i64 0]), (58, .slice AA7 lsl.length cc7), (59, .int .i64 0), (15, .slice AA7 lsl.length cc7), (16, .int .i64 0)] hF (by kernel_rfl) fun a hF => ?_
          refine wpList_nil ?_
          refine hK17 _ _ ?_
          refine wp_seq_k fun K18 hK18 => ?_
          refine wp_region_lit ?_
          refine sB 2 [(60, .int .i64 0), (61, .int .i64 0)] hF (by kernel_rfl) fun a hF => ?_
          refine wl (eP 62 (v0 := .bool (!decide (0 = 0))) (v := .bool false) hF (by kernel_rfl) (fun _ => by kernel_rfl) (nT (by omega)) fun a hF => ?_)
          refine sB 3 [(63, .bool false), (64, .slice AA6 lsl.length cc6), (65, .slice AA7 lsl.length cc7)] hF (by kernel_rfl) fun a hF => ?_
          refine wl (eM 66 (v := .bool true) hF hM (by kernel_rfl) (yld_call (f := 29) (args := #[.slice AA6 lsl.length cc6, .slice AA7 lsl.length cc7]) hF (by kernel_rfl) (fun _ => by kernel_rfl) (fun w hM => (by rw [show lsl.length = (drL y2_0 y2_1 lsl lsl.length).length from by first | omega | (simp; done)]; exact same_yes AA6 (drL y2_0 y2_1 lsl lsl.length) cc6 AA7 (drL y2_0 y2_1 lsl lsl.length) cc7 w (ro_of_own (hM.ok 10 _ rfl)) (ro_of_own (hM.ok 11 _ rfl)) (by omega) rfl))) fun a w hF hM => ?_)
          refine sB 2 [(67, .bool false), (68, .bool false)] hF (by kernel_rfl) fun a hF => ?_
          refine wpList_nil ?_
          refine hK18 _ _ ?_
          refine cF hF (by kernel_rfl) (by kernel_rfl) ?_
          refine wp_skip ?_
          refine hK14 _ _ ?_
          refine wp_region_lit ?_
          refine wl (eP 69 (v0 := .int .i64 (IntKind.i64.wrap ((kc1 : Int) + 1))) (v := .int .i64 ((kc1 : Int) + 1)) hF (by kernel_rfl) (fun _ => by kernel_rfl) (wi (by omega)) fun a hF => ?_)
          refine sB 1 [(45, .int .i64 ((kc1 : Int) + 1))] hF (by kernel_rfl) fun a hF => ?_
          refine wpList_nil ?_
          refine hK11 _ _ ⟨(kc1 + 1), ⟨((((((((Fr.nil hF).c hF (i := 44) rfl rfl).c hF (i := 26) rfl rfl).c hF (i := 25) rfl rfl).c hF (i := 10) rfl rfl).c hF (i := 7) rfl rfl).c hF (i := 6) rfl rfl).c hF (i := 45) rfl (vi (show ((kc1 : Int) + 1 : Int) = ((kc1 + 1) : Int) from by omega))), (hM.sub (((((((Sub.nil.c (k := 8) rfl rfl).c (k := 7) rfl rfl).c (k := 6) rfl rfl).c (k := 5) rfl rfl).c (k := 3) rfl rfl).c (k := 2) rfl rfl).c (k := 1) rfl rfl)), (show ((kc1 + 1) : Int) ≤ 3 from by omega)⟩, (show 3 - (kc1 + 1) < 3 - kc1 from by omega)⟩
        · skip
          refine wp_region_lit ?_
          refine sB 1 [(49, .slice A lsl.length c)] hF (by kernel_rfl) fun a hF => ?_
          refine wl (eL 50 9 0 (v := .agg #[.int .i64 y2_0, .int .i64 y2_1]) hF hM (by kernel_rfl) rfl rfl (by kernel_rfl) (by kernel_rfl) fun a w hF hM => ?_)
          refine wl (eM 51 (v := .tuple #[.slice none 0 0, .int .i64 (drE y2_0 y2_1 lsl)]) hF hM (by kernel_rfl) (yld_call (f := 27) (args := #[.slice A lsl.length c, .agg #[.int .i64 y2_0, .int .i64 y2_1]]) hF (by kernel_rfl) (fun _ => by kernel_rfl) (fun w hM => drain_err y2_0 y2_1 A lsl _ w (hM.ok 7 _ rfl) (by rw [dr_2 hz3]; exact hz5))) fun a w hF hM => ?_)
          refine sB 5 [(48, .tuple #[.slice none 0 0, .int .i64 (drE y2_0 y2_1 lsl)]), (52, .slice none 0 0), (53, .int .i64 (drE y2_0 y2_1 lsl)), (13, .slice none 0 0), (14, .int .i64 (drE y2_0 y2_1 lsl))] hF (by kernel_rfl) fun a hF => ?_
          refine wpList_nil ?_
          refine hK16 _ _ ?_
          refine wp_seq_k fun K19 hK19 => ?_
          refine wp_region_lit ?_
          refine sB 1 [(55, .slice A lsl.length c)] hF (by kernel_rfl) fun a hF => ?_
          refine wl (eL 56 9 0 (v := .agg #[.int .i64 y2_0, .int .i64 y2_1]) hF hM (by kernel_rfl) rfl rfl (by kernel_rfl) (by kernel_rfl) fun a w hF hM => ?_)
          refine wl (eM 57 (v := .tuple #[.slice none 0 0, .int .i64 (drE y2_0 y2_1 lsl)]) hF hM (by kernel_rfl) (yld_call (f := 28) (args := #[.slice A lsl.length c, .agg #[.int .i64 y2_0, .int .i64 y2_1]]) hF (by kernel_rfl) (fun _ => by kernel_rfl) (fun w hM => rDrain_err y2_0 y2_1 A lsl _ w (hM.ok 7 _ rfl) (by rw [dr_2 hz3]; exact hz5))) fun a w hF hM => ?_)
          refine sB 5 [(54, .tuple #[.slice none 0 0, .int .i64 (drE y2_0 y2_1 lsl)]), (58, .slice none 0 0), (59, .int .i64 (drE y2_0 y2_1 lsl)), (15, .slice none 0 0), (16, .int .i64 (drE y2_0 y2_1 lsl))] hF (by kernel_rfl) fun a hF => ?_
          refine wpList_nil ?_
          refine hK19 _ _ ?_
          refine wp_seq_k fun K20 hK20 => ?_
          refine wp_region_lit ?_
          refine sB 2 [(60, .int .i64 (drE y2_0 y2_1 lsl)), (61, .int .i64 (drE y2_0 y2_1 lsl))] hF (by kernel_rfl) fun a hF => ?_
          refine wl (eP 62 (v0 := .bool (!decide (drE y2_0 y2_1 lsl = drE y2_0 y2_1 lsl))) (v := .bool false) hF (by kernel_rfl) (fun _ => by kernel_rfl) (nT (by omega)) fun a hF => ?_)
          refine sB 3 [(63, .bool false), (64, .slice none 0 0), (65, .slice none 0 0)] hF (by kernel_rfl) fun a hF => ?_
          refine wl (eM 66 (v := .bool true) hF hM (by kernel_rfl) (yld_call (f := 29) (args := #[.slice none 0 0, .slice none 0 0]) hF (by kernel_rfl) (fun _ => by kernel_rfl) (fun w hM => same_yes none ([] : List Int) 0 none ([] : List Int) 0 w Ro.nil Ro.nil (by decide) (by decide))) fun a w hF hM => ?_)
          refine sB 2 [(67, .bool false), (68, .bool false)] hF (by kernel_rfl) fun a hF => ?_
          refine wpList_nil ?_
          refine hK20 _ _ ?_
          refine cF hF (by kernel_rfl) (by kernel_rfl) ?_
          refine wp_skip ?_
          refine hK14 _ _ ?_
          refine wp_region_lit ?_
          refine wl (eP 69 (v0 := .int .i64 (IntKind.i64.wrap ((kc1 : Int) + 1))) (v := .int .i64 ((kc1 : Int) + 1)) hF (by kernel_rfl) (fun _ => by kernel_rfl) (wi (by omega)) fun a hF => ?_)
          refine sB 1 [(45, .int .i64 ((kc1 : Int) + 1))] hF (by kernel_rfl) fun a hF => ?_
          refine wpList_nil ?_
          refine hK11 _ _ ⟨(kc1 + 1), ⟨((((((((Fr.nil hF).c hF (i := 44) rfl rfl).c hF (i := 26) rfl rfl).c hF (i := 25) rfl rfl).c hF (i := 10) rfl rfl).c hF (i := 7) rfl rfl).c hF (i := 6) rfl rfl).c hF (i := 45) rfl (vi (show ((kc1 : Int) + 1 : Int) = ((kc1 + 1) : Int) from by omega))), (hM.sub (((((((Sub.nil.c (k := 8) rfl rfl).c (k := 7) rfl rfl).c (k := 6) rfl rfl).c (k := 5) rfl rfl).c (k := 3) rfl rfl).c (k := 2) rfl rfl).c (k := 1) rfl rfl)), (show ((kc1 + 1) : Int) ≤ 3 from by omega)⟩, (show 3 - (kc1 + 1) < 3 - kc1 from by omega)⟩
      · skip
        refine wp_region_lit ?_
        refine sB 1 [(49, .slice A lsl.length c)] hF (by kernel_rfl) fun a hF => ?_
        refine wl (eL 50 9 0 (v := .agg #[.int .i64 y2_0, .int .i64 y2_1]) hF hM (by kernel_rfl) rfl rfl (by kernel_rfl) (by kernel_rfl) fun a w hF hM => ?_)
        refine wl (eM 51 (v := .tuple #[.slice none 0 0, .int .i64 (drE y2_0 y2_1 lsl)]) hF hM (by kernel_rfl) (yld_call (f := 27) (args := #[.slice A lsl.length c, .agg #[.int .i64 y2_0, .int .i64 y2_1]]) hF (by kernel_rfl) (fun _ => by kernel_rfl) (fun w hM => drain_err y2_0 y2_1 A lsl _ w (hM.ok 7 _ rfl) (by rw [dr_1 hz3]; exact hz3))) fun a w hF hM => ?_)
        refine sB 5 [(48, .tuple #[.slice none 0 0, .int .i64 (drE y2_0 y2_1 lsl)]), (52, .slice none 0 0), (53, .int .i64 (drE y2_0 y2_1 lsl)), (13, .slice none 0 0), (14, .int .i64 (drE y2_0 y2_1 lsl))] hF (by kernel_rfl) fun a hF => ?_
        refine wpList_nil ?_
        refine hK16 _ _ ?_
        refine wp_seq_k fun K21 hK21 => ?_
        refine wp_region_lit ?_
        refine sB 1 [(55, .slice A lsl.length c)] hF (by kernel_rfl) fun a hF => ?_
        refine wl (eL 56 9 0 (v := .agg #[.int .i64 y2_0, .int .i64 y2_1]) hF hM (by kernel_rfl) rfl rfl (by kernel_rfl) (by kernel_rfl) fun a w hF hM => ?_)
        refine wl (eM 57 (v := .tuple #[.slice none 0 0, .int .i64 (drE y2_0 y2_1 lsl)]) hF hM (by kernel_rfl) (yld_call (f := 28) (args := #[.slice A lsl.length c, .agg #[.int .i64 y2_0, .int .i64 y2_1]]) hF (by kernel_rfl) (fun _ => by kernel_rfl) (fun w hM => rDrain_err y2_0 y2_1 A lsl _ w (hM.ok 7 _ rfl) (by rw [dr_1 hz3]; exact hz3))) fun a w hF hM => ?_)
        refine sB 5 [(54, .tuple #[.slice none 0 0, .int .i64 (drE y2_0 y2_1 lsl)]), (58, .slice none 0 0), (59, .int .i64 (drE y2_0 y2_1 lsl)), (15, .slice none 0 0), (16, .int .i64 (drE y2_0 y2_1 lsl))] hF (by kernel_rfl) fun a hF => ?_
        refine wpList_nil ?_
        refine hK21 _ _ ?_
        refine wp_seq_k fun K22 hK22 => ?_
        refine wp_region_lit ?_
        refine sB 2 [(60, .int .i64 (drE y2_0 y2_1 lsl)), (61, .int .i64 (drE y2_0 y2_1 lsl))] hF (by kernel_rfl) fun a hF => ?_
        refine wl (eP 62 (v0 := .bool (!decide (drE y2_0 y2_1 lsl = drE y2_0 y2_1 lsl))) (v := .bool false) hF (by kernel_rfl) (fun _ => by kernel_rfl) (nT (by omega)) fun a hF => ?_)
        refine sB 3 [(63, .bool false), (64, .slice none 0 0), (65, .slice none 0 0)] hF (by kernel_rfl) fun a hF => ?_
        refine wl (eM 66 (v := .bool true) hF hM (by kernel_rfl) (yld_call (f := 29) (args := #[.slice none 0 0, .slice none 0 0]) hF (by kernel_rfl) (fun _ => by kernel_rfl) (fun w hM => same_yes none ([] : List Int) 0 none ([] : List Int) 0 w Ro.nil Ro.nil (by decide) (by decide))) fun a w hF hM => ?_)
        refine sB 2 [(67, .bool false), (68, .bool false)] hF (by kernel_rfl) fun a hF => ?_
        refine wpList_nil ?_
        refine hK22 _ _ ?_
        refine cF hF (by kernel_rfl) (by kernel_rfl) ?_
        refine wp_skip ?_
        refine hK14 _ _ ?_
        refine wp_region_lit ?_
        refine wl (eP 69 (v0 := .int .i64 (IntKind.i64.wrap ((kc1 : Int) + 1))) (v := .int .i64 ((kc1 : Int) + 1)) hF (by kernel_rfl) (fun _ => by kernel_rfl) (wi (by omega)) fun a hF => ?_)
        refine sB 1 [(45, .int .i64 ((kc1 : Int) + 1))] hF (by kernel_rfl) fun a hF => ?_
        refine wpList_nil ?_
        refine hK11 _ _ ⟨(kc1 + 1), ⟨((((((((Fr.nil hF).c hF (i := 44) rfl rfl).c hF (i := 26) rfl rfl).c hF (i := 25) rfl rfl).c hF (i := 10) rfl rfl).c hF (i := 7) rfl rfl).c hF (i := 6) rfl rfl).c hF (i := 45) rfl (vi (show ((kc1 : Int) + 1 : Int) = ((kc1 + 1) : Int) from by omega))), (hM.sub (((((((Sub.nil.c (k := 8) rfl rfl).c (k := 7) rfl rfl).c (k := 6) rfl rfl).c (k := 5) rfl rfl).c (k := 3) rfl rfl).c (k := 2) rfl rfl).c (k := 1) rfl rfl)), (show ((kc1 + 1) : Int) ≤ 3 from by omega)⟩, (show 3 - (kc1 + 1) < 3 - kc1 from by omega)⟩
    · skip
      replace hF := hF.c hF (i := 46) (v := .bool false) rfl (bF hz2)
      refine cF hF (by kernel_rfl) (by kernel_rfl) ?_
      refine wp_exit ?_
      refine hK8 _ _ ?_
      refine wp_region_lit ?_
      refine wl (eP 70 (v0 := .int .i64 (IntKind.i64.wrap (0 + 1))) (v := .int .i64 1) hF (by kernel_rfl) (fun _ => by kernel_rfl) (vi (by decide)) fun a hF => ?_)
      refine sB 1 [(26, .int .i64 1)] hF (by kernel_rfl) fun a hF => ?_
      refine wpList_nil ?_
      refine hK5 _ _ ?_
      refine rounds_k fun K23 hK23 => ?_
      refine wp_seq_k fun K24 hK24 => ?_
      refine wp_region_lit ?_
      refine wl (eP 27 (v0 := .bool (decide (1 < 2))) (v := .bool true) hF (by kernel_rfl) (fun _ => by kernel_rfl) (bT (by omega)) fun a hF => ?_)
      refine wpList_nil ?_
      refine hK24 _ _ ?_
      refine wp_seq_k fun K25 hK25 => ?_
      refine cT hF (by kernel_rfl) (by kernel_rfl) ?_
      refine wp_skip ?_
      refine hK25 _ _ ?_
      refine wp_seq_k fun K26 hK26 => ?_
      refine wp_block ?_
      refine wp_seq_k fun K27 hK27 => ?_
      refine wp_region_lit ?_
      refine sB 2 [(28, .slice AA4 ltr.length cc4), (10, .slice AA4 ltr.length cc4)] hF (by kernel_rfl) fun a hF => ?_
      refine wpList_nil ?_
      refine hK27 _ _ ?_
      refine wp_seq_k fun K28 hK28 => ?_
      refine rQ hM (by kernel_rfl) (by kernel_rfl) ?_
      refine eQL 29 5 0 (v := .agg #[.int .i64 s0, .int .i64 s1]) hF (by kernel_rfl) rfl rfl (by kernel_rfl) (by kernel_rfl) fun a hF => ?_
      refine eQ 30 (v0 := .pointer (some ⟨bb3, 0, none⟩)) (v := .pointer (some ⟨bb3, 0, none⟩)) hF (by kernel_rfl) (fun _ => by kernel_rfl) rfl fun a hF => ?_
      refine eQL 31 6 0 (v := .int .u32 n0) hF (by kernel_rfl) rfl rfl (by kernel_rfl) (by kernel_rfl) fun a hF => ?_
      refine eQ 32 (v0 := .pointer (some ⟨bb3, 1, none⟩)) (v := .pointer (some ⟨bb3, 1, none⟩)) hF (by kernel_rfl) (fun _ => by kernel_rfl) rfl fun a hF => ?_
      refine eQL 33 6 1 (v := .int .u32 n1) hF (by kernel_rfl) rfl rfl (by kernel_rfl) (by kernel_rfl) fun a hF => ?_
      refine eQ2 34 (v := .agg #[.int .i64 (1 + n0 % 2097152), .int .i64 (n1 % 268435457)]) hF (by kernel_rfl) (yld_call (f := 13) (args := #[.int .u32 n0, .int .u32 n1]) hF (by kernel_rfl) (fun _ => by kernel_rfl) (fun w hM => rOf4_w n0 n1 w (by omega))) fun a hF => ?_
      refine eQ 35 (v0 := .pointer (some ⟨bb3, 0, none⟩)) (v := .pointer (some ⟨bb3, 0, none⟩)) hF (by kernel_rfl) (fun _ => by kernel_rfl) rfl fun a hF => ?_
      refine eQL 36 6 0 (v := .int .u32 n0) hF (by kernel_rfl) rfl rfl (by kernel_rfl) (by kernel_rfl) fun a hF => ?_
      refine eQ2 37 (v := .int .u32 (n0 % 22)) hF (by kernel_rfl) (yld_rem n0 22 hF rfl (by kernel_rfl) (by kernel_rfl) (by kernel_rfl) (by decide) (Int.tmod_eq_emod_of_nonneg (by omega))) fun a hF => ?_
      refine eQ2 38 (v := .int .i64 shv) hF (by kernel_rfl) (yld_shl (yk := .u32) 1 (n0 % 22) hF rfl (by kernel_rfl) (by kernel_rfl) (by kernel_rfl) (by omega) (hshv)) fun a hF => ?_
      refine eQ 39 (v0 := .pointer (some ⟨bb3, 1, none⟩)) (v := .pointer (some ⟨bb3, 1, none⟩)) hF (by kernel_rfl) (fun _ => by kernel_rfl) rfl fun a hF => ?_
      refine eQL 40 6 1 (v := .int .u32 n1) hF (by kernel_rfl) rfl rfl (by kernel_rfl) (by kernel_rfl) fun a hF => ?_
      refine eQ2 41 (v := .int .u32 (n1 % 300)) hF (by kernel_rfl) (yld_rem n1 300 hF rfl (by kernel_rfl) (by kernel_rfl) (by kernel_rfl) (by decide) (Int.tmod_eq_emod_of_nonneg (by omega))) fun a hF => ?_
      refine eQ 42 (v0 := .int .i64 (IntKind.i64.wrap (n1 % 300))) (v := .int .i64 (n1 % 300)) hF (by kernel_rfl) (fun _ => by kernel_rfl) (vi (IntWalk.i64_in _ (by omega))) fun a hF => ?_
      refine eQ 43 (v0 := .agg #[.int .i64 shv, .int .i64 (n1 % 300)]) (v := .agg #[.int .i64 shv, .int .i64 (n1 % 300)]) hF (by kernel_rfl) (fun _ => by kernel_rfl) rfl fun a hF => ?_
      refine eQ 44 (v0 := .agg #[.int .i64 s0, .int .i64 s1, .int .i64 (1 + n0 % 2097152), .int .i64 (n1 % 268435457), .int .i64 shv, .int .i64 (n1 % 300)]) (v := .agg #[.int .i64 s0, .int .i64 s1, .int .i64 (1 + n0 % 2097152), .int .i64 (n1 % 268435457), .int .i64 shv, .int .i64 (n1 % 300)]) hF (by kernel_rfl) (fun _ => by kernel_rfl) rfl fun a hF => ?_
      refine eQ 45 (v0 := .int .i64 0) (v := .int .i64 0) hF (by kernel_rfl) (fun _ => by kernel_rfl) rfl fun a hF => ?_
      refine wpQuiet_nil ?_
      intro w hM
      refine hK28 _ _ ?_
      refine wp_block ?_
      refine wp_loop_k (G := Nat) (fun gg a w => Fr 72 [(45, some (.int .i64 (gg : Int))), (6, some (.pointer (some ⟨bb2, 0, none⟩))), (7, some (.pointer (some ⟨bb3, 0, none⟩))), (10, some (.slice AA4 ltr.length cc4)), (25, some (.agg #[.slice A lsl.length c, .slice AA4 ltr.length cc4])), (26, some (.int .i64 1)), (44, some (.agg #[.int .i64 s0, .int .i64 s1, .int .i64 (1 + n0 % 2097152), .int .i64 (n1 % 268435457), .int .i64 shv, .int .i64 (n1 % 300)]))] a ∧ Mem w0.heap.size w0 [(1, some (.ro Ga (gaps.map (Value.int .u16)))), (2, some (.ro Sa (sizes.map (Value.int .u16)))), (3, some (.ro A (flat2 l))), (5, some (.row bb2 23 #[.int .i64 s0, .int .i64 s1])), (6, some (.row bb3 37 #[.int .u32 n0, .int .u32 n1])), (7, some (.ro A (flat2 lsl))), (8, some (.own (.slice AA4 ltr.length cc4) 64 2 ltr.length (flat2 ltr)))] w ∧ ((gg : Int) ≤ 3)) (fun gg => 3 - gg) (0) ?_ ?_
      · refine ⟨((((((((Fr.nil hF).c hF (i := 44) rfl rfl).c hF (i := 26) rfl rfl).c hF (i := 25) rfl rfl).c hF (i := 10) rfl rfl).c hF (i := 7) rfl rfl).c hF (i := 6) rfl rfl).c hF (i := 45) rfl (vi (show (0 : Int) = (0 : Int) from by omega))), (hM.sub (((((((Sub.nil.c (k := 8) rfl rfl).c (k := 7) rfl rfl).c (k := 6) rfl rfl).c (k := 5) rfl rfl).c (k := 3) rfl rfl).c (k := 2) rfl rfl).c (k := 1) rfl rfl)), (show (0 : Int) ≤ 3 from by omega)⟩
      · intro gg a w hI
        intro K29 hK29
        obtain ⟨kc2, rfl⟩ : ∃ x, x = gg := ⟨_, rfl⟩
        try dsimp only at hI hK29
        obtain ⟨hF, hM, hz7⟩ := hI
        refine wp_seq_k fun K30 hK30 => ?_
        refine wp_region_lit ?_
        refine sB 1 [(46, .bool (decide ((kc2 : Int) < 3)))] hF (by kernel_rfl) fun a hF => ?_
        refine wpList_nil ?_
        refine hK30 _ _ ?_
        refine wp_seq_k fun K31 hK31 => ?_
        by_cases hz8 : (kc2 : Int) < 3
        · skip
          replace hF := hF.c hF (i := 46) (v := .bool true) rfl (bT hz8)
          refine cT hF (by kernel_rfl) (by kernel_rfl) ?_
          refine wp_skip ?_
          refine hK31 _ _ ?_
          refine wp_seq_k fun K32 hK32 => ?_
          refine wp_block ?_
          refine wp_seq_k fun K33 hK33 => ?_
          refine wp_region_lit ?_
          obtain ⟨ys4, hl4, hm4, hy4⟩ := idx_agg (P := Try.prog) (t := 45) (e := 23) (len := 3) (m := 2) (kd := .i64) [s0, s1, 1 + n0 % 2097152, n1 % 268435457, shv, n1 % 300] ((kc2 : Int)) (by kernel_rfl) (by kernel_rfl) (by omega) rfl
          obtain ⟨y4_0, y4_1, rfl⟩ := len2 hl4
          refine wl (eM 47 (v := .agg #[.int .i64 y4_0, .int .i64 y4_1]) hF hM (by kernel_rfl) (yld_index (X := .agg #[.int .i64 s0, .int .i64 s1, .int .i64 (1 + n0 % 2097152), .int .i64 (n1 % 268435457), .int .i64 shv, .int .i64 (n1 % 300)]) (I := .int .i64 ((kc2 : Int))) hF rfl (by kernel_rfl) (by kernel_rfl) (by kernel_rfl) (fun w => hy4 w)) fun a w hF hM => ?_)
          refine wl (eN 12 12 (t := 23) (fun b => .pointer (some ⟨b, 0, none⟩)) #[.int .i64 0, .int .i64 0] hF hM (by kernel_rfl) (fun _ => by kernel_rfl) fun bb8 a w hF hM => ?_)
          refine wl (sStore (i := 12) (off := 0) (cs' := #[.int .i64 y4_0, .int .i64 y4_1]) hF hM (by kernel_rfl) rfl rfl (by kernel_rfl) (by kernel_rfl) rfl (by kernel_rfl) fun w hM => ?_)
          refine wpList_nil ?_
          refine hK33 _ _ ?_
          refine wp_seq_k fun K34 hK34 => ?_
          by_cases hz9 : svE y4_0 y4_1 = 0
          · skip
            have hz10 := svE_ok hz9
            refine wp_region_lit ?_
            refine sB 1 [(49, .slice AA4 ltr.length cc4)] hF (by kernel_rfl) fun a hF => ?_
            refine wl (eL 50 12 0 (v := .agg #[.int .i64 y4_0, .int .i64 y4_1]) hF hM (by kernel_rfl) rfl rfl (by kernel_rfl) (by kernel_rfl) fun a w hF hM => ?_)
            have := drL_len y4_0 y4_1 ltr ltr.length
            refine wl (sOwn 13 (f := 27) (args := #[.slice AA4 ltr.length cc4, .agg #[.int .i64 y4_0, .int .i64 y4_1]]) (mk := fun v => .tuple #[v, .int .i64 0]) (e := 3) (size := 1) (m := ltr.length) (xs := ((drL y4_0 y4_1 ltr ltr.length).map (Value.int .i64))) hF hM (by kernel_rfl) rfl (by decide) (by kernel_rfl) (fun _ => by kernel_rfl) (drain_ok y4_0 y4_1 AA4 ltr _ w (ro_of_own (hM.ok 8 _ rfl)) tr_ltr hz9) fun AA9 cc9 a w hF hM => ?_)
            refine sB 5 [(48, .tuple #[.slice AA9 ltr.length cc9, .int .i64 0]), (52, .slice AA9 ltr.length cc9), (53, .int .i64 0), (13, .slice AA9 ltr.length cc9), (14, .int .i64 0)] hF (by kernel_rfl) fun a hF => ?_
            refine wpList_nil ?_
            refine hK34 _ _ ?_
            refine wp_seq_k fun K35 hK35 => ?_
            refine wp_region_lit ?_
            refine sB 1 [(55, .slice AA4 ltr.length cc4)] hF (by kernel_rfl) fun a hF => ?_
            refine wl (eL 56 12 0 (v := .agg #[.int .i64 y4_0, .int .i64 y4_1]) hF hM (by kernel_rfl) rfl rfl (by kernel_rfl) (by kernel_rfl) fun a w hF hM => ?_)
            have := drL_len y4_0 y4_1 ltr ltr.length
            refine wl (sOwn 14 (f := 28) (args := #[.slice AA4 ltr.length cc4, .agg #[.int .i64 y4_0, .int .i64 y4_1]]) (mk := fun v => .tuple #[v, .int .i64 0]) (e := 3) (size := 1) (m := ltr.length) (xs := ((drL y4_0 y4_1 ltr ltr.length).map (Value.int .i64))) hF hM (by kernel_rfl) rfl (by decide) (by kernel_rfl) (fun _ => by kernel_rfl) (rDrain_ok y4_0 y4_1 AA4 ltr _ w (ro_of_own (hM.ok 8 _ rfl)) tr_ltr hz9) fun AA10 cc10 a w hF hM => ?_)
            refine sB 5 [(54, .tuple #[.slice AA10 ltr.length cc10, .int .i64 0]), (58, .slice AA10 ltr.length cc10), (59, .int .i64 0), (15, .slice AA10 ltr.length cc10), (16, .int .i64 0)] hF (by kernel_rfl) fun a hF => ?_
            refine wpList_nil ?_
            refine hK35 _ _ ?_
            refine wp_seq_k fun K36 hK36 => ?_
            refine wp_region_lit ?_
            refine sB 2 [(60, .int .i64 0), (61, .int .i64 0)] hF (by kernel_rfl) fun a hF => ?_
            refine wl (eP 62 (v0 := .bool (!decide (0 = 0))) (v := .bool false) hF (by kernel_rfl) (fun _ => by kernel_rfl) (nT (by omega)) fun a hF => ?_)
            refine sB 3 [(63, .bool false), (64, .slice AA9 ltr.length cc9), (65, .slice AA10 ltr.length cc10)] hF (by kernel_rfl) fun a hF => ?_
            refine wl (eM 66 (v := .bool true) hF hM (by kernel_rfl) (yld_call (f := 29) (args := #[.slice AA9 ltr.length cc9, .slice AA10 ltr.length cc10]) hF (by kernel_rfl) (fun _ => by kernel_rfl) (fun w hM => (by rw [show ltr.length = (drL y4_0 y4_1 ltr ltr.length).length from by first | omega | (simp; done)]; exact same_yes AA9 (drL y4_0 y4_1 ltr ltr.length) cc9 AA10 (drL y4_0 y4_1 ltr ltr.length) cc10 w (ro_of_own (hM.ok 13 _ rfl)) (ro_of_own (hM.ok 14 _ rfl)) (by omega) rfl))) fun a w hF hM => ?_)
            refine sB 2 [(67, .bool false), (68, .bool false)] hF (by kernel_rfl) fun a hF => ?_
            refine wpList_nil ?_
            refine hK36 _ _ ?_
            refine cF hF (by kernel_rfl) (by kernel_rfl) ?_
            refine wp_skip ?_
            refine hK32 _ _ ?_
            refine wp_region_lit ?_
            refine wl (eP 69 (v0 := .int .i64 (IntKind.i64.wrap ((kc2 : Int) + 1))) (v := .int .i64 ((kc2 : Int) + 1)) hF (by kernel_rfl) (fun _ => by kernel_rfl) (wi (by omega)) fun a hF => ?_)
            refine sB 1 [(45, .int .i64 ((kc2 : Int) + 1))] hF (by kernel_rfl) fun a hF => ?_
            refine wpList_nil ?_
            refine hK29 _ _ ⟨(kc2 + 1), ⟨((((((((Fr.nil hF).c hF (i := 44) rfl rfl).c hF (i := 26) rfl rfl).c hF (i := 25) rfl rfl).c hF (i := 10) rfl rfl).c hF (i := 7) rfl rfl).c hF (i := 6) rfl rfl).c hF (i := 45) rfl (vi (show ((kc2 : Int) + 1 : Int) = ((kc2 + 1) : Int) from by omega))), (hM.sub (((((((Sub.nil.c (k := 8) rfl rfl).c (k := 7) rfl rfl).c (k := 6) rfl rfl).c (k := 5) rfl rfl).c (k := 3) rfl rfl).c (k := 2) rfl rfl).c (k := 1) rfl rfl)), (show ((kc2 + 1) : Int) ≤ 3 from by omega)⟩, (show 3 - (kc2 + 1) < 3 - kc2 from by omega)⟩
          · skip
            refine wp_region_lit ?_
            refine sB 1 [(49, .slice AA4 ltr.length cc4)] hF (by kernel_rfl) fun a hF => ?_
            refine wl (eL 50 12 0 (v := .agg #[.int .i64 y4_0, .int .i64 y4_1]) hF hM (by kernel_rfl) rfl rfl (by kernel_rfl) (by kernel_rfl) fun a w hF hM => ?_)
            refine wl (eM 51 (v := .tuple #[.slice none 0 0, .int .i64 (drE y4_0 y4_1 ltr)]) hF hM (by kernel_rfl) (yld_call (f := 27) (args := #[.slice AA4 ltr.length cc4, .agg #[.int .i64 y4_0, .int .i64 y4_1]]) hF (by kernel_rfl) (fun _ => by kernel_rfl) (fun w hM => drain_err y4_0 y4_1 AA4 ltr _ w (ro_of_own (hM.ok 8 _ rfl)) (by rw [dr_2 tr_ltr]; exact hz9))) fun a w hF hM => ?_)
            refine sB 5 [(48, .tuple #[.slice none 0 0, .int .i64 (drE y4_0 y4_1 ltr)]), (52, .slice none 0 0), (53, .int .i64 (drE y4_0 y4_1 ltr)), (13, .slice none 0 0), (14, .int .i64 (drE y4_0 y4_1 ltr))] hF (by kernel_rfl) fun a hF => ?_
            refine wpList_nil ?_
            refine hK34 _ _ ?_
            refine wp_seq_k fun K37 hK37 => ?_
            refine wp_region_lit ?_
            refine sB 1 [(55, .slice AA4 ltr.length cc4)] hF (by kernel_rfl) fun a hF => ?_
            refine wl (eL 56 12 0 (v := .agg #[.int .i64 y4_0, .int .i64 y4_1]) hF hM (by kernel_rfl) rfl rfl (by kernel_rfl) (by kernel_rfl) fun a w hF hM => ?_)
            refine wl (eM 57 (v := .tuple #[.slice none 0 0, .int .i64 (drE y4_0 y4_1 ltr)]) hF hM (by kernel_rfl) (yld_call (f := 28) (args := #[.slice AA4 ltr.length cc4, .agg #[.int .i64 y4_0, .int .i64 y4_1]]) hF (by kernel_rfl) (fun _ => by kernel_rfl) (fun w hM => rDrain_err y4_0 y4_1 AA4 ltr _ w (ro_of_own (hM.ok 8 _ rfl)) (by rw [dr_2 tr_ltr]; exact hz9))) fun a w hF hM => ?_)
            refine sB 5 [(54, .tuple #[.slice none 0 0, .int .i64 (drE y4_0 y4_1 ltr)]), (58, .slice none 0 0), (59, .int .i64 (drE y4_0 y4_1 ltr)), (15, .slice none 0 0), (16, .int .i64 (drE y4_0 y4_1 ltr))] hF (by kernel_rfl) fun a hF => ?_
            refine wpList_nil ?_
            refine hK37 _ _ ?_
            refine wp_seq_k fun K38 hK38 => ?_
            refine wp_region_lit ?_
            refine sB 2 [(60, .int .i64 (drE y4_0 y4_1 ltr)), (61, .int .i64 (drE y4_0 y4_1 ltr))] hF (by kernel_rfl) fun a hF => ?_
            refine wl (eP 62 (v0 := .bool (!decide (drE y4_0 y4_1 ltr = drE y4_0 y4_1 ltr))) (v := .bool false) hF (by kernel_rfl) (fun _ => by kernel_rfl) (nT (by omega)) fun a hF => ?_)
            refine sB 3 [(63, .bool false), (64, .slice none 0 0), (65, .slice none 0 0)] hF (by kernel_rfl) fun a hF => ?_
            refine wl (eM 66 (v := .bool true) hF hM (by kernel_rfl) (yld_call (f := 29) (args := #[.slice none 0 0, .slice none 0 0]) hF (by kernel_rfl) (fun _ => by kernel_rfl) (fun w hM => same_yes none ([] : List Int) 0 none ([] : List Int) 0 w Ro.nil Ro.nil (by decide) (by decide))) fun a w hF hM => ?_)
            refine sB 2 [(67, .bool false), (68, .bool false)] hF (by kernel_rfl) fun a hF => ?_
            refine wpList_nil ?_
            refine hK38 _ _ ?_
            refine cF hF (by kernel_rfl) (by kernel_rfl) ?_
            refine wp_skip ?_
            refine hK32 _ _ ?_
            refine wp_region_lit ?_
            refine wl (eP 69 (v0 := .int .i64 (IntKind.i64.wrap ((kc2 : Int) + 1))) (v := .int .i64 ((kc2 : Int) + 1)) hF (by kernel_rfl) (fun _ => by kernel_rfl) (wi (by omega)) fun a hF => ?_)
            refine sB 1 [(45, .int .i64 ((kc2 : Int) + 1))] hF (by kernel_rfl) fun a hF => ?_
            refine wpList_nil ?_
            refine hK29 _ _ ⟨(kc2 + 1), ⟨((((((((Fr.nil hF).c hF (i := 44) rfl rfl).c hF (i := 26) rfl rfl).c hF (i := 25) rfl rfl).c hF (i := 10) rfl rfl).c hF (i := 7) rfl rfl).c hF (i := 6) rfl rfl).c hF (i := 45) rfl (vi (show ((kc2 : Int) + 1 : Int) = ((kc2 + 1) : Int) from by omega))), (hM.sub (((((((Sub.nil.c (k := 8) rfl rfl).c (k := 7) rfl rfl).c (k := 6) rfl rfl).c (k := 5) rfl rfl).c (k := 3) rfl rfl).c (k := 2) rfl rfl).c (k := 1) rfl rfl)), (show ((kc2 + 1) : Int) ≤ 3 from by omega)⟩, (show 3 - (kc2 + 1) < 3 - kc2 from by omega)⟩
        · skip
          replace hF := hF.c hF (i := 46) (v := .bool false) rfl (bF hz8)
          refine cF hF (by kernel_rfl) (by kernel_rfl) ?_
          refine wp_exit ?_
          refine hK26 _ _ ?_
          refine wp_region_lit ?_
          refine wl (eP 70 (v0 := .int .i64 (IntKind.i64.wrap (1 + 1))) (v := .int .i64 2) hF (by kernel_rfl) (fun _ => by kernel_rfl) (vi (by decide)) fun a hF => ?_)
          refine sB 1 [(26, .int .i64 2)] hF (by kernel_rfl) fun a hF => ?_
          refine wpList_nil ?_
          refine hK23 _ _ ?_
          refine rounds_k fun K39 hK39 => ?_
          refine wp_seq_k fun K40 hK40 => ?_
          refine wp_region_lit ?_
          refine wl (eP 27 (v0 := .bool (decide (2 < 2))) (v := .bool false) hF (by kernel_rfl) (fun _ => by kernel_rfl) (bF (by omega)) fun a hF => ?_)
          refine wpList_nil ?_
          refine hK40 _ _ ?_
          refine wp_seq_k fun K41 hK41 => ?_
          refine cF hF (by kernel_rfl) (by kernel_rfl) ?_
          refine wp_exit ?_
          refine hK3 _ _ ?_
          refine wp_seq_k fun K42 hK42 => ?_
          refine wp_region_lit ?_
          refine wl (eM 71 (v := .bool true) hF hM (by kernel_rfl) (yld_call (f := 18) (args := #[]) hF (by kernel_rfl) (fun _ => by kernel_rfl) (fun w hM => works4_w w)) fun a w hF hM => ?_)
          refine sB 1 [(8, .bool true)] hF (by kernel_rfl) fun a hF => ?_
          refine wpList_nil ?_
          refine hK42 _ _ ?_
          refine wp_ret ?_
          refine hR0 _ _ ?_
          refine ret_of hF hM (.tmp rfl (.nil)) ?_
          exact ⟨rfl, hM.bel⟩

end Go.Proofs.Ytoighcbbaacnaaa
