/-
  The walk of MeterRuns.
-/
import Derived.Test.YtncllmponigkgaaMeterH
namespace Go.Proofs.Ytncllmponigkgaa
open Go.RowKit
set_option linter.unusedVariables false
set_option linter.unusedSimpArgs false

set_option maxRecDepth 100000 in
set_option maxHeartbeats 8000000 in
theorem meterRuns_walk (b0 b1 b2 b3 : Int) (A : Option Addr) (l : List (Int × Int)) (c : Nat) (bu ra : Int) (Ga : Option Addr) (gaps : List Int) (cg : Nat) (Sa : Option Addr) (sizes : List Int) (cs : Nat) (na nb : Int) (w0 : World) (hA : Ro w0 A (flat2 l)) (hlc : l.length ≤ c) (hc : c ≤ 9223372036854775807) (hGa : Ro w0 Ga (gaps.map (Value.int .u16))) (hSa : Ro w0 Sa (sizes.map (Value.int .u16))) (hg : All16 gaps) (hs : All16 sizes) (hmg : gaps.length ≤ 9223372036854775807) (hms : sizes.length ≤ 9223372036854775807) (h : 0 ≤ bu ∧ bu < 4294967296 ∧ 0 ≤ ra ∧ ra < 4294967296 ∧ 0 ≤ na ∧ na < 4294967296 ∧ 0 ≤ nb ∧ nb < 4294967296) :
    Calls Try.prog 4 #[.agg #[.int .i64 b0, .int .i64 b1, .int .i64 b2, .int .i64 b3], .slice A l.length c, .agg #[.int .u32 bu, .int .u32 ra, .slice Ga gaps.length cg, .slice Sa sizes.length cs], .agg #[.int .u32 na, .int .u32 nb]] w0 (Ret w0 (.bool true)) := by
  refine enterK 85 Try.func4 rfl rfl rfl ?_
  intro a hF Q0 hR0 hN0
  have hM := Mem.start w0
  replace hM := hM.addOld 1 hGa (Nat.le_refl _)
  replace hM := hM.addOld 2 hSa (Nat.le_refl _)
  replace hM := hM.addOld 3 hA (Nat.le_refl _)
  refine wp_seq_k fun K1 hK1 => ?_
  refine wp_region_lit ?_
  refine wl (eN 4 4 (t := 24) (fun b => .pointer (some ⟨b, 0, none⟩)) #[.int .i64 b0, .int .i64 b1, .int .i64 b2, .int .i64 b3] hF hM (by kernel_rfl) (fun _ => by kernel_rfl) fun bb1 a w hF hM => ?_)
  refine wl (eN 6 5 (t := 28) (fun b => .pointer (some ⟨b, 0, none⟩)) #[.int .u32 bu, .int .u32 ra, .slice Ga gaps.length cg, .slice Sa sizes.length cs] hF hM (by kernel_rfl) (fun _ => by kernel_rfl) fun bb2 a w hF hM => ?_)
  refine wl (eN 7 6 (t := 29) (fun b => .pointer (some ⟨b, 0, none⟩)) #[.int .u32 na, .int .u32 nb] hF hM (by kernel_rfl) (fun _ => by kernel_rfl) fun bb3 a w hF hM => ?_)
  refine sB 1 [(8, .bool false)] hF (by kernel_rfl) fun a hF => ?_
  refine wpList_nil ?_
  refine hK1 _ _ ?_
  refine wp_seq_k fun K2 hK2 => ?_
  refine wp_region_lit ?_
  refine sB 3 [(19, .slice A l.length c), (20, .slice A l.length c), (21, .int .i64 (l.length : Int))] hF (by kernel_rfl) fun a hF => ?_
  refine wl (eP 22 (v0 := .int .i64 (if 40 < (l.length : Int) then 40 else (l.length : Int))) (v := .int .i64 (min (l.length : Int) 40)) hF (by kernel_rfl) (fun _ => by kernel_rfl) (vi (min_if _ _)) fun a hF => ?_)
  obtain ⟨lsl, e_lsl⟩ : ∃ x : List (Int × Int), x = l.take ((min (l.length : Int) 40).toNat) := ⟨_, rfl⟩
  have len_lsl : (lsl.length : Int) = min (l.length : Int) 40 := by rw [e_lsl, List.length_take]; omega
  replace hM := hM.roMore 7 3 (xs' := (flat2 lsl)) rfl (by rw [e_lsl]; exact flat2_sub _ _)
  refine wl (eM 23 (v := .slice A lsl.length c) hF hM (by kernel_rfl) (yld_slice0 (e := 33) (len := l.length) (cap := c) (m := lsl.length) (A := A) (i := min (l.length : Int) 40) hF rfl (by kernel_rfl) (by kernel_rfl) (by kernel_rfl) (by kernel_rfl) (by kernel_rfl) (by omega) (by omega)) fun a w hF hM => ?_)
  refine sB 1 [(1, .slice A lsl.length c)] hF (by kernel_rfl) fun a hF => ?_
  refine wpList_nil ?_
  refine hK2 _ _ ?_
  refine wp_seq_k fun K3 hK3 => ?_
  refine wp_region_lit ?_
  refine wl (eL 25 5 0 (v := .agg #[.int .u32 bu, .int .u32 ra, .slice Ga gaps.length cg, .slice Sa sizes.length cs]) hF hM (by kernel_rfl) rfl rfl (by kernel_rfl) (by kernel_rfl) fun a w hF hM => ?_)
  refine sB 1 [(26, .pointer (some ⟨bb3, 0, none⟩))] hF (by kernel_rfl) fun a hF => ?_
  refine wl (eL 27 6 0 (v := .int .u32 na) hF hM (by kernel_rfl) rfl rfl (by kernel_rfl) (by kernel_rfl) fun a w hF hM => ?_)
  refine wl (eP 28 (v0 := .int .u16 (IntKind.u16.wrap na)) (v := .int .u16 (na % 65536)) hF (by kernel_rfl) (fun _ => by kernel_rfl) (vi (u16_wrap _)) fun a hF => ?_)
  refine sB 1 [(29, .pointer (some ⟨bb3, 1, none⟩))] hF (by kernel_rfl) fun a hF => ?_
  refine wl (eL 30 6 1 (v := .int .u32 nb) hF hM (by kernel_rfl) rfl rfl (by kernel_rfl) (by kernel_rfl) fun a w hF hM => ?_)
  obtain ⟨pcb, e_pcb⟩ : ∃ x : Int, x = 1 + bu % 1048576 := ⟨_, rfl⟩
  obtain ⟨pcr, e_pcr⟩ : ∃ x : Int, x = 1 + ra % 2097152 := ⟨_, rfl⟩
  obtain ⟨ppb, e_ppb⟩ : ∃ x : Int, x = 1 + na % 65536 := ⟨_, rfl⟩
  obtain ⟨pps, e_pps⟩ : ∃ x : Int, x = min 2097152 (1 + ra % 2097152 + nb % 524288) := ⟨_, rfl⟩
  have hnew : newE pcb pcr ppb pps = 0 := by unfold newE bkE; omega
  have := newE_ok hnew
  refine wl (eM 31 (v := .tuple #[.agg #[.int .i64 pcb, .int .i64 pcr], .agg #[.int .i64 ppb, .int .i64 pps]]) hF hM (by kernel_rfl) (yld_call (f := 9) (args := #[.agg #[.int .u32 bu, .int .u32 ra, .slice Ga gaps.length cg, .slice Sa sizes.length cs], .int .u16 (na % 65536), .int .u32 nb]) hF (by kernel_rfl) (fun _ => by kernel_rfl) (fun w hM => by rw [e_pcb, e_pcr, e_ppb, e_pps]; exact pair_w bu ra (.slice Ga gaps.length cg) (.slice Sa sizes.length cs) (na % 65536) nb w (by omega))) fun a w hF hM => ?_)
  refine sB 3 [(24, .tuple #[.agg #[.int .i64 pcb, .int .i64 pcr], .agg #[.int .i64 ppb, .int .i64 pps]]), (32, .agg #[.int .i64 pcb, .int .i64 pcr]), (33, .agg #[.int .i64 ppb, .int .i64 pps])] hF (by kernel_rfl) fun a hF => ?_
  refine wl (eN 9 8 (t := 23) (fun b => .pointer (some ⟨b, 0, none⟩)) #[.int .i64 0, .int .i64 0] hF hM (by kernel_rfl) (fun _ => by kernel_rfl) fun bb4 a w hF hM => ?_)
  refine wl (eN 10 9 (t := 23) (fun b => .pointer (some ⟨b, 0, none⟩)) #[.int .i64 0, .int .i64 0] hF hM (by kernel_rfl) (fun _ => by kernel_rfl) fun bb5 a w hF hM => ?_)
  refine wl (sStore (i := 8) (off := 0) (cs' := #[.int .i64 pcb, .int .i64 pcr]) hF hM (by kernel_rfl) rfl rfl (by kernel_rfl) (by kernel_rfl) rfl (by kernel_rfl) fun w hM => ?_)
  refine wl (sStore (i := 9) (off := 0) (cs' := #[.int .i64 ppb, .int .i64 pps]) hF hM (by kernel_rfl) rfl rfl (by kernel_rfl) (by kernel_rfl) rfl (by kernel_rfl) fun w hM => ?_)
  refine wpList_nil ?_
  refine hK3 _ _ ?_
  refine wp_seq_k fun K4 hK4 => ?_
  refine wp_seq_k fun K5 hK5 => ?_
  refine wp_region_lit ?_
  refine wl (eL 34 4 0 (v := .agg #[.int .i64 b0, .int .i64 b1, .int .i64 b2, .int .i64 b3]) hF hM (by kernel_rfl) rfl rfl (by kernel_rfl) (by kernel_rfl) fun a w hF hM => ?_)
  refine wl (eL 35 8 0 (v := .agg #[.int .i64 pcb, .int .i64 pcr]) hF hM (by kernel_rfl) rfl rfl (by kernel_rfl) (by kernel_rfl) fun a w hF hM => ?_)
  refine wl (eL 36 9 0 (v := .agg #[.int .i64 ppb, .int .i64 pps]) hF hM (by kernel_rfl) rfl rfl (by kernel_rfl) (by kernel_rfl) fun a w hF hM => ?_)
  refine sB 1 [(37, .agg #[.int .i64 pcb, .int .i64 pcr, .int .i64 ppb, .int .i64 pps])] hF (by kernel_rfl) fun a hF => ?_
  refine wl (eL 38 8 0 (v := .agg #[.int .i64 pcb, .int .i64 pcr]) hF hM (by kernel_rfl) rfl rfl (by kernel_rfl) (by kernel_rfl) fun a w hF hM => ?_)
  refine wl (eL 39 8 0 (v := .agg #[.int .i64 pcb, .int .i64 pcr]) hF hM (by kernel_rfl) rfl rfl (by kernel_rfl) (by kernel_rfl) fun a w hF hM => ?_)
  refine sB 1 [(40, .agg #[.int .i64 pcb, .int .i64 pcr, .int .i64 pcb, .int .i64 pcr])] hF (by kernel_rfl) fun a hF => ?_
  refine wl (eL 41 9 0 (v := .agg #[.int .i64 ppb, .int .i64 pps]) hF hM (by kernel_rfl) rfl rfl (by kernel_rfl) (by kernel_rfl) fun a w hF hM => ?_)
  refine wl (eL 42 8 0 (v := .agg #[.int .i64 pcb, .int .i64 pcr]) hF hM (by kernel_rfl) rfl rfl (by kernel_rfl) (by kernel_rfl) fun a w hF hM => ?_)
  refine sB 3 [(43, .agg #[.int .i64 ppb, .int .i64 pps, .int .i64 pcb, .int .i64 pcr]), (44, .agg #[.int .i64 b0, .int .i64 b1, .int .i64 b2, .int .i64 b3, .int .i64 pcb, .int .i64 pcr, .int .i64 ppb, .int .i64 pps, .int .i64 pcb, .int .i64 pcr, .int .i64 pcb, .int .i64 pcr, .int .i64 ppb, .int .i64 pps, .int .i64 pcb, .int .i64 pcr]), (45, .int .i64 0)] hF (by kernel_rfl) fun a hF => ?_
  refine wpList_nil ?_
  refine hK5 _ _ ?_
  refine wp_block ?_
  refine wp_loop_k (G := Nat) (fun gg a w => Fr 85 [(45, some (.int .i64 (gg : Int))), (1, some (.slice A lsl.length c)), (6, some (.pointer (some ⟨bb2, 0, none⟩))), (44, some (.agg #[.int .i64 b0, .int .i64 b1, .int .i64 b2, .int .i64 b3, .int .i64 pcb, .int .i64 pcr, .int .i64 ppb, .int .i64 pps, .int .i64 pcb, .int .i64 pcr, .int .i64 pcb, .int .i64 pcr, .int .i64 ppb, .int .i64 pps, .int .i64 pcb, .int .i64 pcr]))] a ∧ Mem w0.heap.size w0 [(1, some (.ro Ga (gaps.map (Value.int .u16)))), (2, some (.ro Sa (sizes.map (Value.int .u16)))), (3, some (.ro A (flat2 l))), (5, some (.row bb2 28 #[.int .u32 bu, .int .u32 ra, .slice Ga gaps.length cg, .slice Sa sizes.length cs])), (7, some (.ro A (flat2 lsl)))] w ∧ ((gg : Int) ≤ 4)) (fun gg => 4 - gg) (0) ?_ ?_
  · refine ⟨(((((Fr.nil hF).c hF (i := 44) rfl rfl).c hF (i := 6) rfl rfl).c hF (i := 1) rfl rfl).c hF (i := 45) rfl (vi (show (0 : Int) = (0 : Int) from by omega))), (hM.sub (((((Sub.nil.c (k := 7) rfl rfl).c (k := 5) rfl rfl).c (k := 3) rfl rfl).c (k := 2) rfl rfl).c (k := 1) rfl rfl)), (show (0 : Int) ≤ 4 from by omega)⟩
  · intro gg a w hI
    intro K6 hK6
    obtain ⟨k45, rfl⟩ : ∃ x, x = gg := ⟨_, rfl⟩
    try dsimp only at hI hK6
    obtain ⟨hF, hM, hz1⟩ := hI
    refine wp_seq_k fun K7 hK7 => ?_
    refine wp_region_lit ?_
    refine sB 1 [(46, .bool (decide ((k45 : Int) < 4)))] hF (by kernel_rfl) fun a hF => ?_
    refine wpList_nil ?_
    refine hK7 _ _ ?_
    refine wp_seq_k fun K8 hK8 => ?_
    by_cases hz2 : (k45 : Int) < 4
    · skip
      replace hF := hF.c hF (i := 46) (v := .bool true) rfl (bT hz2)
      refine cT hF (by kernel_rfl) (by kernel_rfl) ?_
      refine wp_skip ?_
      refine hK8 _ _ ?_
      refine wp_seq_k fun K9 hK9 => ?_
      refine wp_block ?_
      refine wp_seq_k fun K10 hK10 => ?_
      refine wp_region_lit ?_
      obtain ⟨ys2, hl2, hm2, hy2⟩ := idx_agg (P := Try.prog) (t := 38) (e := 24) (len := 4) (m := 4) (kd := .i64) [b0, b1, b2, b3, pcb, pcr, ppb, pps, pcb, pcr, pcb, pcr, ppb, pps, pcb, pcr] ((k45 : Int)) (by kernel_rfl) (by kernel_rfl) (by omega) rfl
      obtain ⟨y2_0, y2_1, y2_2, y2_3, rfl⟩ := len4 hl2
      refine wl (eM 47 (v := .agg #[.int .i64 y2_0, .int .i64 y2_1, .int .i64 y2_2, .int .i64 y2_3]) hF hM (by kernel_rfl) (yld_index (X := .agg #[.int .i64 b0, .int .i64 b1, .int .i64 b2, .int .i64 b3, .int .i64 pcb, .int .i64 pcr, .int .i64 ppb, .int .i64 pps, .int .i64 pcb, .int .i64 pcr, .int .i64 pcb, .int .i64 pcr, .int .i64 ppb, .int .i64 pps, .int .i64 pcb, .int .i64 pcr]) (I := .int .i64 ((k45 : Int))) hF rfl (by kernel_rfl) (by kernel_rfl) (by kernel_rfl) (fun w => hy2 w)) fun a w hF hM => ?_)
      refine wl (eN 12 10 (t := 24) (fun b => .pointer (some ⟨b, 0, none⟩)) #[.int .i64 0, .int .i64 0, .int .i64 0, .int .i64 0] hF hM (by kernel_rfl) (fun _ => by kernel_rfl) fun bb6 a w hF hM => ?_)
      refine wl (sStore (i := 10) (off := 0) (cs' := #[.int .i64 y2_0, .int .i64 y2_1, .int .i64 y2_2, .int .i64 y2_3]) hF hM (by kernel_rfl) rfl rfl (by kernel_rfl) (by kernel_rfl) rfl (by kernel_rfl) fun w hM => ?_)
      refine wpList_nil ?_
      refine hK10 _ _ ?_
      refine wp_seq_k fun K11 hK11 => ?_
      refine wp_region_lit ?_
      refine sB 1 [(48, .slice A lsl.length c)] hF (by kernel_rfl) fun a hF => ?_
      refine wl (eL 49 5 0 (v := .agg #[.int .u32 bu, .int .u32 ra, .slice Ga gaps.length cg, .slice Sa sizes.length cs]) hF hM (by kernel_rfl) rfl rfl (by kernel_rfl) (by kernel_rfl) fun a w hF hM => ?_)
      obtain ⟨ltr, e_ltr⟩ : ∃ x : List (Int × Int), x = drTrace gaps sizes := ⟨_, rfl⟩
      have tr_ltr : trE ltr = 0 := by rw [e_ltr]; exact dr_trE hg hs
      have le_ltr : ltr.length ≤ 30 := by rw [e_ltr]; exact dr_le _ _
      refine wl (sOwn 11 (f := 18) (args := #[.agg #[.int .u32 bu, .int .u32 ra, .slice Ga gaps.length cg, .slice Sa sizes.length cs]]) (mk := fun v => v) (e := 33) (size := 2) (m := ltr.length) (xs := (flat2 ltr)) hF hM (by kernel_rfl) rfl (by decide) (by kernel_rfl) (fun _ => by kernel_rfl) (by rw [e_ltr]; exact draftTrace_w bu ra Ga gaps cg Sa sizes cs w (hM.ok 1 _ rfl) (hM.ok 2 _ rfl) hg hs (by omega) (by omega)) fun AA7 cc7 a w hF hM => ?_)
      refine sB 2 [(51, .agg #[.slice A lsl.length c, .slice AA7 ltr.length cc7]), (52, .int .i64 0)] hF (by kernel_rfl) fun a hF => ?_
      refine wpList_nil ?_
      refine hK11 _ _ ?_
      refine wp_block ?_
      refine wp_loop_rounds 3 ?_
      refine rounds_k fun K12 hK12 => ?_
      refine wp_seq_k fun K13 hK13 => ?_
      refine wp_region_lit ?_
      refine wl (eP 53 (v0 := .bool (decide (0 < 2))) (v := .bool true) hF (by kernel_rfl) (fun _ => by kernel_rfl) (bT (by omega)) fun a hF => ?_)
      refine wpList_nil ?_
      refine hK13 _ _ ?_
      refine wp_seq_k fun K14 hK14 => ?_
      refine cT hF (by kernel_rfl) (by kernel_rfl) ?_
      refine wp_skip ?_
      refine hK14 _ _ ?_
      refine wp_seq_k fun K15 hK15 => ?_
      refine wp_block ?_
      refine wp_seq_k fun K16 hK16 => ?_
      refine wp_region_lit ?_
      refine sB 2 [(54, .slice A lsl.length c), (14, .slice A lsl.length c)] hF (by kernel_rfl) fun a hF => ?_
      refine wpList_nil ?_
      refine hK16 _ _ ?_
      refine wp_seq_k fun K17 hK17 => ?_
      by_cases hz3 : newE y2_0 y2_1 y2_2 y2_3 = 0
      · skip
        have hz4 := newE_ok hz3
        by_cases hz5 : trE lsl = 0
        · skip
          have hz6 := trE_ok hz5
          refine wp_region_lit ?_
          refine sB 1 [(56, .pointer (some ⟨bb6, 0, none⟩))] hF (by kernel_rfl) fun a hF => ?_
          refine wl (eL 57 10 0 (v := .agg #[.int .i64 y2_0, .int .i64 y2_1]) hF hM (by kernel_rfl) rfl rfl (by kernel_rfl) (by kernel_rfl) fun a w hF hM => ?_)
          refine sB 1 [(58, .pointer (some ⟨bb6, 2, none⟩))] hF (by kernel_rfl) fun a hF => ?_
          refine wl (eL 59 10 2 (v := .agg #[.int .i64 y2_2, .int .i64 y2_3]) hF hM (by kernel_rfl) rfl rfl (by kernel_rfl) (by kernel_rfl) fun a w hF hM => ?_)
          refine sB 1 [(60, .slice A lsl.length c)] hF (by kernel_rfl) fun a hF => ?_
          have := mrunF_len y2_0 y2_1 y2_2 y2_3 lsl
          refine wl (sOwn 12 (f := 19) (args := #[.agg #[.int .i64 y2_0, .int .i64 y2_1], .agg #[.int .i64 y2_2, .int .i64 y2_3], .slice A lsl.length c]) (mk := fun v => .tuple #[v, .int .i64 0]) (e := 3) (size := 1) (m := lsl.length) (xs := ((mrunF y2_0 y2_1 y2_2 y2_3 lsl).map (Value.int .i64))) hF hM (by kernel_rfl) rfl (by decide) (by kernel_rfl) (fun _ => by kernel_rfl) (meterRun_ok y2_0 y2_1 y2_2 y2_3 A lsl c w (hM.ok 7 _ rfl) hz3 hz5) fun AA8 cc8 a w hF hM => ?_)
          refine sB 5 [(55, .tuple #[.slice AA8 lsl.length cc8, .int .i64 0]), (62, .slice AA8 lsl.length cc8), (63, .int .i64 0), (15, .slice AA8 lsl.length cc8), (16, .int .i64 0)] hF (by kernel_rfl) fun a hF => ?_
          refine wpList_nil ?_
          refine hK17 _ _ ?_
          refine wp_seq_k fun K18 hK18 => ?_
          refine wp_region_lit ?_
          refine sB 1 [(65, .pointer (some ⟨bb6, 0, none⟩))] hF (by kernel_rfl) fun a hF => ?_
          refine wl (eL 66 10 0 (v := .agg #[.int .i64 y2_0, .int .i64 y2_1]) hF hM (by kernel_rfl) rfl rfl (by kernel_rfl) (by kernel_rfl) fun a w hF hM => ?_)
          refine sB 1 [(67, .pointer (some ⟨bb6, 2, none⟩))] hF (by kernel_rfl) fun a hF => ?_
          refine wl (eL 68 10 2 (v := .agg #[.int .i64 y2_2, .int .i64 y2_3]) hF hM (by kernel_rfl) rfl rfl (by kernel_rfl) (by kernel_rfl) fun a w hF hM => ?_)
          refine sB 1 [(69, .slice A lsl.length c)] hF (by kernel_rfl) fun a hF => ?_
          refine wl (sOwn 13 (f := 20) (args := #[.agg #[.int .i64 y2_0, .int .i64 y2_1], .agg #[.int .i64 y2_2, .int .i64 y2_3], .slice A lsl.length c]) (mk := fun v => .tuple #[v, .int .i64 0]) (e := 3) (size := 1) (m := lsl.length) (xs := ((mrunF y2_0 y2_1 y2_2 y2_3 lsl).map (Value.int .i64))) hF hM (by kernel_rfl) rfl (by decide) (by kernel_rfl) (fun _ => by kernel_rfl) (refRun_ok y2_0 y2_1 y2_2 y2_3 A lsl c w (hM.ok 7 _ rfl) hz3 hz5) fun AA9 cc9 a w hF hM => ?_)
          refine sB 5 [(64, .tuple #[.slice AA9 lsl.length cc9, .int .i64 0]), (71, .slice AA9 lsl.length cc9), (72, .int .i64 0), (17, .slice AA9 lsl.length cc9), (18, .int .i64 0)] hF (by kernel_rfl) fun a hF => ?_
          refine wpList_nil ?_
          refine hK18 _ _ ?_
          refine wp_seq_k fun K19 hK19 => ?_
          refine wp_region_lit ?_
          refine sB 2 [(73, .int .i64 0), (74, .int .i64 0)] hF (by kernel_rfl) fun a hF => ?_
          refine wl (eP 75 (v0 := .bool (!decide (0 = 0))) (v := .bool false) hF (by kernel_rfl) (fun _ => by kernel_rfl) (nT (by omega)) fun a hF => ?_)
          refine sB 3 [(76, .bool false), (77, .slice AA8 lsl.length cc8), (78, .slice AA9 lsl.length cc9)] hF (by kernel_rfl) fun a hF => ?_
          refine wl (eM 79 (v := .bool true) hF hM (by kernel_rfl) (yld_call (f := 21) (args := #[.slice AA8 lsl.length cc8, .slice AA9 lsl.length cc9]) hF (by kernel_rfl) (fun _ => by kernel_rfl) (fun w hM => (by rw [show lsl.length = (mrunF y2_0 y2_1 y2_2 y2_3 lsl).length from by first | omega | (simp; done)]; exact same_yes AA8 (mrunF y2_0 y2_1 y2_2 y2_3 lsl) cc8 AA9 (mrunF y2_0 y2_1 y2_2 y2_3 lsl) cc9 w (ro_of_own (hM.ok 12 _ rfl)) (ro_of_own (hM.ok 13 _ rfl)) (by omega) rfl))) fun a w hF hM => ?_)
          refine sB 2 [(80, .bool false), (81, .bool false)] hF (by kernel_rfl) fun a hF => ?_
          refine wpList_nil ?_
          refine hK19 _ _ ?_
          refine cF hF (by kernel_rfl) (by kernel_rfl) ?_
          refine wp_skip ?_
          refine hK15 _ _ ?_
          refine wp_region_lit ?_
          refine wl (eP 82 (v0 := .int .i64 (IntKind.i64.wrap (0 + 1))) (v := .int .i64 1) hF (by kernel_rfl) (fun _ => by kernel_rfl) (vi (by decide)) fun a hF => ?_)
          refine sB 1 [(52, .int .i64 1)] hF (by kernel_rfl) fun a hF => ?_
          refine wpList_nil ?_
          refine hK12 _ _ ?_
          refine rounds_k fun K20 hK20 => ?_
          refine wp_seq_k fun K21 hK21 => ?_
          refine wp_region_lit ?_
          refine wl (eP 53 (v0 := .bool (decide (1 < 2))) (v := .bool true) hF (by kernel_rfl) (fun _ => by kernel_rfl) (bT (by omega)) fun a hF => ?_)
          refine wpList_nil ?_
          refine hK21 _ _ ?_
          refine wp_seq_k fun K22 hK22 => ?_
          refine cT hF (by kernel_rfl) (by kernel_rfl) ?_
          refine wp_skip ?_
          refine hK22 _ _ ?_
          refine wp_seq_k fun K23 hK23 => ?_
          refine wp_block ?_
          refine wp_seq_k fun K24 hK24 => ?_
          refine wp_region_lit ?_
          refine sB 2 [(54, .slice AA7 ltr.length cc7), (14, .slice AA7 ltr.length cc7)] hF (by kernel_rfl) fun a hF => ?_
          refine wpList_nil ?_
          refine hK24 _ _ ?_
          refine wp_seq_k fun K25 hK25 => ?_
          refine wp_region_lit ?_
          refine sB 1 [(56, .pointer (some ⟨bb6, 0, none⟩))] hF (by kernel_rfl) fun a hF => ?_
          refine wl (eL 57 10 0 (v := .agg #[.int .i64 y2_0, .int .i64 y2_1]) hF hM (by kernel_rfl) rfl rfl (by kernel_rfl) (by kernel_rfl) fun a w hF hM => ?_)
          refine sB 1 [(58, .pointer (some ⟨bb6, 2, none⟩))] hF (by kernel_rfl) fun a hF => ?_
          refine wl (eL 59 10 2 (v := .agg #[.int .i64 y2_2, .int .i64 y2_3]) hF hM (by kernel_rfl) rfl rfl (by kernel_rfl) (by kernel_rfl) fun a w hF hM => ?_)
          refine sB 1 [(60, .slice AA7 ltr.length cc7)] hF (by kernel_rfl) fun a hF => ?_
          have := mrunF_len y2_0 y2_1 y2_2 y2_3 ltr
          refine wl (sOwn 14 (f := 19) (args := #[.agg #[.int .i64 y2_0, .int .i64 y2_1], .agg #[.int .i64 y2_2, .int .i64 y2_3], .slice AA7 ltr.length cc7]) (mk := fun v => .tuple #[v, .int .i64 0]) (e := 3) (size := 1) (m := ltr.length) (xs := ((mrunF y2_0 y2_1 y2_2 y2_3 ltr).map (Value.int .i64))) hF hM (by kernel_rfl) rfl (by decide) (by kernel_rfl) (fun _ => by kernel_rfl) (meterRun_ok y2_0 y2_1 y2_2 y2_3 AA7 ltr cc7 w (ro_of_own (hM.ok 11 _ rfl)) hz3 tr_ltr) fun AA10 cc10 a w hF hM => ?_)
          refine sB 5 [(55, .tuple #[.slice AA10 ltr.length cc10, .int .i64 0]), (62, .slice AA10 ltr.length cc10), (63, .int .i64 0), (15, .slice AA10 ltr.length cc10), (16, .int .i64 0)] hF (by kernel_rfl) fun a hF => ?_
          refine wpList_nil ?_
          refine hK25 _ _ ?_
          refine wp_seq_k fun K26 hK26 => ?_
          refine wp_region_lit ?_
          refine sB 1 [(65, .pointer (some ⟨bb6, 0, none⟩))] hF (by kernel_rfl) fun a hF => ?_
          refine wl (eL 66 10 0 (v := .agg #[.int .i64 y2_0, .int .i64 y2_1]) hF hM (by kernel_rfl) rfl rfl (by kernel_rfl) (by kernel_rfl) fun a w hF hM => ?_)
          refine sB 1 [(67, .pointer (some ⟨bb6, 2, none⟩))] hF (by kernel_rfl) fun a hF => ?_
          refine wl (eL 68 10 2 (v := .agg #[.int .i64 y2_2, .int .i64 y2_3]) hF hM (by kernel_rfl) rfl rfl (by kernel_rfl) (by kernel_rfl) fun a w hF hM => ?_)
          refine sB 1 [(69, .slice AA7 ltr.length cc7)] hF (by kernel_rfl) fun a hF => ?_
          refine wl (sOwn 15 (f := 20) (args := #[.agg #[.int .i64 y2_0, .int .i64 y2_1], .agg #[.int .i64 y2_2, .int .i64 y2_3], .slice AA7 ltr.length cc7]) (mk := fun v => .tuple #[v, .int .i64 0]) (e := 3) (size := 1) (m := ltr.length) (xs := ((mrunF y2_0 y2_1 y2_2 y2_3 ltr).map (Value.int .i64))) hF hM (by kernel_rfl) rfl (by decide) (by kernel_rfl) (fun _ => by kernel_rfl) (refRun_ok y2_0 y2_1 y2_2 y2_3 AA7 ltr cc7 w (ro_of_own (hM.ok 11 _ rfl)) hz3 tr_ltr) fun AA11 cc11 a w hF hM => ?_)
          refine sB 5 [(64, .tuple #[.slice AA11 ltr.length cc11, .int .i64 0]), (71, .slice AA11 ltr.length cc11), (72, .int .i64 0), (17, .slice AA11 ltr.length cc11), (18, .int .i64 0)] hF (by kernel_rfl) fun a hF => ?_
          refine wpList_nil ?_
          refine hK26 _ _ ?_
          refine wp_seq_k fun K27 hK27 => ?_
          refine wp_region_lit ?_
          refine sB 2 [(73, .int .i64 0), (74, .int .i64 0)] hF (by kernel_rfl) fun a hF => ?_
          refine wl (eP 75 (v0 := .bool (!decide (0 = 0))) (v := .bool false) hF (by kernel_rfl) (fun _ => by kernel_rfl) (nT (by omega)) fun a hF => ?_)
          refine sB 3 [(76, .bool false), (77, .slice AA10 ltr.length cc10), (78, .slice AA11 ltr.length cc11)] hF (by kernel_rfl) fun a hF => ?_
          refine wl (eM 79 (v := .bool true) hF hM (by kernel_rfl) (yld_call (f := 21) (args := #[.slice AA10 ltr.length cc10, .slice AA11 ltr.length cc11]) hF (by kernel_rfl) (fun _ => by kernel_rfl) (fun w hM => (by rw [show ltr.length = (mrunF y2_0 y2_1 y2_2 y2_3 ltr).length from by first | omega | (simp; done)]; exact same_yes AA10 (mrunF y2_0 y2_1 y2_2 y2_3 ltr) cc10 AA11 (mrunF y2_0 y2_1 y2_2 y2_3 ltr) cc11 w (ro_of_own (hM.ok 14 _ rfl)) (ro_of_own (hM.ok 15 _ rfl)) (by omega) rfl))) fun a w hF hM => ?_)
          refine sB 2 [(80, .bool false), (81, .bool false)] hF (by kernel_rfl) fun a hF => ?_
          refine wpList_nil ?_
          refine hK27 _ _ ?_
          refine cF hF (by kernel_rfl) (by kernel_rfl) ?_
          refine wp_skip ?_
          refine hK23 _ _ ?_
          refine wp_region_lit ?_
          refine wl (eP 82 (v0 := .int .i64 (IntKind.i64.wrap (1 + 1))) (v := .int .i64 2) hF (by kernel_rfl) (fun _ => by kernel_rfl) (vi (by decide)) fun a hF => ?_)
          refine sB 1 [(52, .int .i64 2)] hF (by kernel_rfl) fun a hF => ?_
          refine wpList_nil ?_
          refine hK20 _ _ ?_
          refine rounds_k fun K28 hK28 => ?_
          refine wp_seq_k fun K29 hK29 => ?_
          refine wp_region_lit ?_
          refine wl (eP 53 (v0 := .bool (decide (2 < 2))) (v := .bool false) hF (by kernel_rfl) (fun _ => by kernel_rfl) (bF (by omega)) fun a hF => ?_)
          refine wpList_nil ?_
          refine hK29 _ _ ?_
          refine wp_seq_k fun K30 hK30 => ?_
          refine cF hF (by kernel_rfl) (by kernel_rfl) ?_
          refine wp_exit ?_
          refine hK9 _ _ ?_
          refine wp_region_lit ?_
          refine wl (eP 83 (v0 := .int .i64 (IntKind.i64.wrap ((k45 : Int) + 1))) (v := .int .i64 ((k45 : Int) + 1)) hF (by kernel_rfl) (fun _ => by kernel_rfl) (wi (by omega)) fun a hF => ?_)
          refine sB 1 [(45, .int .i64 ((k45 : Int) + 1))] hF (by kernel_rfl) fun a hF => ?_
          refine wpList_nil ?_
          refine hK6 _ _ ⟨(k45 + 1), ⟨(((((Fr.nil hF).c hF (i := 44) rfl rfl).c hF (i := 6) rfl rfl).c hF (i := 1) rfl rfl).c hF (i := 45) rfl (vi (show ((k45 : Int) + 1 : Int) = ((k45 + 1) : Int) from by omega))), (hM.sub (((((Sub.nil.c (k := 7) rfl rfl).c (k := 5) rfl rfl).c (k := 3) rfl rfl).c (k := 2) rfl rfl).c (k := 1) rfl rfl)), (show ((k45 + 1) : Int) ≤ 4 from by omega)⟩, (show 4 - (k45 + 1) < 4 - k45 from by omega)⟩
        · skip
          refine wp_region_lit ?_
          refine sB 1 [(56, .pointer (some ⟨bb6, 0, none⟩))] hF (by kernel_rfl) fun a hF => ?_
          refine wl (eL 57 10 0 (v := .agg #[.int .i64 y2_0, .int .i64 y2_1]) hF hM (by kernel_rfl) rfl rfl (by kernel_rfl) (by kernel_rfl) fun a w hF hM => ?_)
          refine sB 1 [(58, .pointer (some ⟨bb6, 2, none⟩))] hF (by kernel_rfl) fun a hF => ?_
          refine wl (eL 59 10 2 (v := .agg #[.int .i64 y2_2, .int .i64 y2_3]) hF hM (by kernel_rfl) rfl rfl (by kernel_rfl) (by kernel_rfl) fun a w hF hM => ?_)
          refine sB 1 [(60, .slice A lsl.length c)] hF (by kernel_rfl) fun a hF => ?_
          refine wl (eM 61 (v := .tuple #[.slice none 0 0, .int .i64 (runE y2_0 y2_1 y2_2 y2_3 lsl)]) hF hM (by kernel_rfl) (yld_call (f := 19) (args := #[.agg #[.int .i64 y2_0, .int .i64 y2_1], .agg #[.int .i64 y2_2, .int .i64 y2_3], .slice A lsl.length c]) hF (by kernel_rfl) (fun _ => by kernel_rfl) (fun w hM => meterRun_err y2_0 y2_1 y2_2 y2_3 A lsl c w (hM.ok 7 _ rfl) (by unfold runE; rw [if_pos hz3]; exact hz5))) fun a w hF hM => ?_)
          refine sB 5 [(55, .tuple #[.slice none 0 0, .int .i64 (runE y2_0 y2_1 y2_2 y2_3 lsl)]), (62, .slice none 0 0), (63, .int .i64 (runE y2_0 y2_1 y2_2 y2_3 lsl)), (15, .slice none 0 0), (16, .int .i64 (runE y2_0 y2_1 y2_2 y2_3 lsl))] hF (by kernel_rfl) fun a hF => ?_
          refine wpList_nil ?_
          refine hK17 _ _ ?_
          refine wp_seq_k fun K31 hK31 => ?_
          refine wp_region_lit ?_
          refine sB 1 [(65, .pointer (some ⟨bb6, 0, none⟩))] hF (by kernel_rfl) fun a hF => ?_
          refine wl (eL 66 10 0 (v := .agg #[.int .i64 y2_0, .int .i64 y2_1]) hF hM (by kernel_rfl) rfl rfl (by kernel_rfl) (by kernel_rfl) fun a w hF hM => ?_)
          refine sB 1 [(67, .pointer (some ⟨bb6, 2, none⟩))] hF (by kernel_rfl) fun a hF => ?_
          refine wl (eL 68 10 2 (v := .agg #[.int .i64 y2_2, .int .i64 y2_3]) hF hM (by kernel_rfl) rfl rfl (by kernel_rfl) (by kernel_rfl) fun a w hF hM => ?_)
          refine sB 1 [(69, .slice A lsl.length c)] hF (by kernel_rfl) fun a hF => ?_
          refine wl (eM 70 (v := .tuple #[.slice none 0 0, .int .i64 (runE y2_0 y2_1 y2_2 y2_3 lsl)]) hF hM (by kernel_rfl) (yld_call (f := 20) (args := #[.agg #[.int .i64 y2_0, .int .i64 y2_1], .agg #[.int .i64 y2_2, .int .i64 y2_3], .slice A lsl.length c]) hF (by kernel_rfl) (fun _ => by kernel_rfl) (fun w hM => refRun_err y2_0 y2_1 y2_2 y2_3 A lsl c w (hM.ok 7 _ rfl) (by unfold runE; rw [if_pos hz3]; exact hz5))) fun a w hF hM => ?_)
          refine sB 5 [(64, .tuple #[.slice none 0 0, .int .i64 (runE y2_0 y2_1 y2_2 y2_3 lsl)]), (71, .slice none 0 0), (72, .int .i64 (runE y2_0 y2_1 y2_2 y2_3 lsl)), (17, .slice none 0 0), (18, .int .i64 (runE y2_0 y2_1 y2_2 y2_3 lsl))] hF (by kernel_rfl) fun a hF => ?_
          refine wpList_nil ?_
          refine hK31 _ _ ?_
          refine wp_seq_k fun K32 hK32 => ?_
          refine wp_region_lit ?_
          refine sB 2 [(73, .int .i64 (runE y2_0 y2_1 y2_2 y2_3 lsl)), (74, .int .i64 (runE y2_0 y2_1 y2_2 y2_3 lsl))] hF (by kernel_rfl) fun a hF => ?_
          refine wl (eP 75 (v0 := .bool (!decide (runE y2_0 y2_1 y2_2 y2_3 lsl = runE y2_0 y2_1 y2_2 y2_3 lsl))) (v := .bool false) hF (by kernel_rfl) (fun _ => by kernel_rfl) (nT (by omega)) fun a hF => ?_)
          refine sB 3 [(76, .bool false), (77, .slice none 0 0), (78, .slice none 0 0)] hF (by kernel_rfl) fun a hF => ?_
          refine wl (eM 79 (v := .bool true) hF hM (by kernel_rfl) (yld_call (f := 21) (args := #[.slice none 0 0, .slice none 0 0]) hF (by kernel_rfl) (fun _ => by kernel_rfl) (fun w hM => same_yes none ([] : List Int) 0 none ([] : List Int) 0 w Ro.nil Ro.nil (by decide) (by decide))) fun a w hF hM => ?_)
          refine sB 2 [(80, .bool false), (81, .bool false)] hF (by kernel_rfl) fun a hF => ?_
          refine wpList_nil ?_
          refine hK32 _ _ ?_
          refine cF hF (by kernel_rfl) (by kernel_rfl) ?_
          refine wp_skip ?_
          refine hK15 _ _ ?_
          refine wp_region_lit ?_
          refine wl (eP 82 (v0 := .int .i64 (IntKind.i64.wrap (0 + 1))) (v := .int .i64 1) hF (by kernel_rfl) (fun _ => by kernel_rfl) (vi (by decide)) fun a hF => ?_)
          refine sB 1 [(52, .int .i64 1)] hF (by kernel_rfl) fun a hF => ?_
          refine wpList_nil ?_
          refine hK12 _ _ ?_
          refine rounds_k fun K33 hK33 => ?_
          refine wp_seq_k fun K34 hK34 => ?_
          refine wp_region_lit ?_
          refine wl (eP 53 (v0 := .bool (decide (1 < 2))) (v := .bool true) hF (by kernel_rfl) (fun _ => by kernel_rfl) (bT (by omega)) fun a hF => ?_)
          refine wpList_nil ?_
          refine hK34 _ _ ?_
          refine wp_seq_k fun K35 hK35 => ?_
          refine cT hF (by kernel_rfl) (by kernel_rfl) ?_
          refine wp_skip ?_
          refine hK35 _ _ ?_
          refine wp_seq_k fun K36 hK36 => ?_
          refine wp_block ?_
          refine wp_seq_k fun K37 hK37 => ?_
          refine wp_region_lit ?_
          refine sB 2 [(54, .slice AA7 ltr.length cc7), (14, .slice AA7 ltr.length cc7)] hF (by kernel_rfl) fun a hF => ?_
          refine wpList_nil ?_
          refine hK37 _ _ ?_
          refine wp_seq_k fun K38 hK38 => ?_
          refine wp_region_lit ?_
          refine sB 1 [(56, .pointer (some ⟨bb6, 0, none⟩))] hF (by kernel_rfl) fun a hF => ?_
          refine wl (eL 57 10 0 (v := .agg #[.int .i64 y2_0, .int .i64 y2_1]) hF hM (by kernel_rfl) rfl rfl (by kernel_rfl) (by kernel_rfl) fun a w hF hM => ?_)
          refine sB 1 [(58, .pointer (some ⟨bb6, 2, none⟩))] hF (by kernel_rfl) fun a hF => ?_
          refine wl (eL 59 10 2 (v := .agg #[.int .i64 y2_2, .int .i64 y2_3]) hF hM (by kernel_rfl) rfl rfl (by kernel_rfl) (by kernel_rfl) fun a w hF hM => ?_)
          refine sB 1 [(60, .slice AA7 ltr.length cc7)] hF (by kernel_rfl) fun a hF => ?_
          have := mrunF_len y2_0 y2_1 y2_2 y2_3 ltr
          refine wl (sOwn 16 (f := 19) (args := #[.agg #[.int .i64 y2_0, .int .i64 y2_1], .agg #[.int .i64 y2_2, .int .i64 y2_3], .slice AA7 ltr.length cc7]) (mk := fun v => .tuple #[v, .int .i64 0]) (e := 3) (size := 1) (m := ltr.length) (xs := ((mrunF y2_0 y2_1 y2_2 y2_3 ltr).map (Value.int .i64))) hF hM (by kernel_rfl) rfl (by decide) (by kernel_rfl) (fun _ => by kernel_rfl) (meterRun_ok y2_0 y2_1 y2_2 y2_3 AA7 ltr cc7 w (ro_of_own (hM.ok 11 _ rfl)) hz3 tr_ltr) fun AA12 cc12 a w hF hM => ?_)
          refine sB 5 [(55, .tuple #[.slice AA12 ltr.length cc12, .int .i64 0]), (62, .slice AA12 ltr.length cc12), (63, .int .i64 0), (15, .slice AA12 ltr.length cc12), (16, .int .i64 0)] hF (by kernel_rfl) fun a hF => ?_
          refine wpList_nil ?_
          refine hK38 _ _ ?_
          refine wp_seq_k fun K39 hK39 => ?_
          refine wp_region_lit ?_
          refine sB 1 [(65, .pointer (some ⟨bb6, 0, none⟩))] hF (by kernel_rfl) fun a hF => ?_
          refine wl (eL 66 10 0 (v := .agg #[.int .i64 y2_0, .int .i64 y2_1]) hF hM (by kernel_rfl) rfl rfl (by kernel_rfl) (by kernel_rfl) fun a w hF hM => ?_)
          refine sB 1 [(67, .pointer (some ⟨bb6, 2, none⟩))] hF (by kernel_rfl) fun a hF => ?_
          refine wl (eL 68 10 2 (v := .agg #[.int .i64 y2_2, .int .i64 y2_3]) hF hM (by kernel_rfl) rfl rfl (by kernel_rfl) (by kernel_rfl) fun a w hF hM => ?_)
          refine sB 1 [(69, .slice AA7 ltr.length cc7)] hF (by kernel_rfl) fun a hF => ?_
          refine wl (sOwn 17 (f := 20) (args := #[.agg #[.int .i64 y2_0, .int .i64 y2_1], .agg #[.int .i64 y2_2, .int .i64 y2_3], .slice AA7 ltr.length cc7]) (mk := fun v => .tuple #[v, .int .i64 0]) (e := 3) (size := 1) (m := ltr.length) (xs := ((mrunF y2_0 y2_1 y2_2 y2_3 ltr).map (Value.int .i64))) hF hM (by kernel_rfl) rfl (by decide) (by kernel_rfl) (fun _ => by kernel_rfl) (refRun_ok y2_0 y2_1 y2_2 y2_3 AA7 ltr cc7 w (ro_of_own (hM.ok 11 _ rfl)) hz3 tr_ltr) fun AA13 cc13 a w hF hM => ?_)
          refine sB 5 [(64, .tuple #[.slice AA13 ltr.length cc13, .int .i64 0]), (71, .slice AA13 ltr.length cc13), (72, .int .i64 0), (17, .slice AA13 ltr.length cc13), (18, .int .i64 0)] hF (by kernel_rfl) fun a hF => ?_
          refine wpList_nil ?_
          refine hK39 _ _ ?_
          refine wp_seq_k fun K40 hK40 => ?_
          refine wp_region_lit ?_
          refine sB 2 [(73, .int .i64 0), (74, .int .i64 0)] hF (by kernel_rfl) fun a hF => ?_
          refine wl (eP 75 (v0 := .bool (!decide (0 = 0))) (v := .bool false) hF (by kernel_rfl) (fun _ => by kernel_rfl) (nT (by omega)) fun a hF => ?_)
          refine sB 3 [(76, .bool false), (77, .slice AA12 ltr.length cc12), (78, .slice AA13 ltr.length cc13)] hF (by kernel_rfl) fun a hF => ?_
          refine wl (eM 79 (v := .bool true) hF hM (by kernel_rfl) (yld_call (f := 21) (args := #[.slice AA12 ltr.length cc12, .slice AA13 ltr.length cc13]) hF (by kernel_rfl) (fun _ => by kernel_rfl) (fun w hM => (by rw [show ltr.length = (mrunF y2_0 y2_1 y2_2 y2_3 ltr).length from by first | omega | (simp; done)]; exact same_yes AA12 (mrunF y2_0 y2_1 y2_2 y2_3 ltr) cc12 AA13 (mrunF y2_0 y2_1 y2_2 y2_3 ltr) cc13 w (ro_of_own (hM.ok 16 _ rfl)) (ro_of_own (hM.ok 17 _ rfl)) (by omega) rfl))) fun a w hF hM => ?_)
          refine sB 2 [(80, .bool false), (81, .bool false)] hF (by kernel_rfl) fun a hF => ?_
          refine wpList_nil ?_
          refine hK40 _ _ ?_
          refine cF hF (by kernel_rfl) (by kernel_rfl) ?_
          refine wp_skip ?_
          refine hK36 _ _ ?_
          refine wp_region_lit ?_
          refine wl (eP 82 (v0 := .int .i64 (IntKind.i64.wrap (1 + 1))) (v := .int .i64 2) hF (by kernel_rfl) (fun _ => by kernel_rfl) (vi (by decide)) fun a hF => ?_)
          refine sB 1 [(52, .int .i64 2)] hF (by kernel_rfl) fun a hF => ?_
          refine wpList_nil ?_
          refine hK33 _ _ ?_
          refine rounds_k fun K41 hK41 => ?_
          refine wp_seq_k fun K42 hK42 => ?_
          refine wp_region_lit ?_
          refine wl (eP 53 (v0 := .bool (decide (2 < 2))) (v := .bool false) hF (by kernel_rfl) (fun _ => by kernel_rfl) (bF (by omega)) fun a hF => ?_)
          refine wpList_nil ?_
          refine hK42 _ _ ?_
          refine wp_seq_k fun K43 hK43 => ?_
          refine cF hF (by kernel_rfl) (by kernel_rfl) ?_
          refine wp_exit ?_
          refine hK9 _ _ ?_
          refine wp_region_lit ?_
          refine wl (eP 83 (v0 := .int .i64 (IntKind.i64.wrap ((k45 : Int) + 1))) (v := .int .i64 ((k45 : Int) + 1)) hF (by kernel_rfl) (fun _ => by kernel_rfl) (wi (by omega)) fun a hF => ?_)
          refine sB 1 [(45, .int .i64 ((k45 : Int) + 1))] hF (by kernel_rfl) fun a hF => ?_
          refine wpList_nil ?_
          refine hK6 _ _ ⟨(k45 + 1), ⟨(((((Fr.nil hF).c hF (i := 44) rfl rfl).c hF (i := 6) rfl rfl).c hF (i := 1) rfl rfl).c hF (i := 45) rfl (vi (show ((k45 : Int) + 1 : Int) = ((k45 + 1) : Int) from by omega))), (hM.sub (((((Sub.nil.c (k := 7) rfl rfl).c (k := 5) rfl rfl).c (k := 3) rfl rfl).c (k := 2) rfl rfl).c (k := 1) rfl rfl)), (show ((k45 + 1) : Int) ≤ 4 from by omega)⟩, (show 4 - (k45 + 1) < 4 - k45 from by omega)⟩
      · skip
        refine wp_region_lit ?_
        refine sB 1 [(56, .pointer (some ⟨bb6, 0, none⟩))] hF (by kernel_rfl) fun a hF => ?_
        refine wl (eL 57 10 0 (v := .agg #[.int .i64 y2_0, .int .i64 y2_1]) hF hM (by kernel_rfl) rfl rfl (by kernel_rfl) (by kernel_rfl) fun a w hF hM => ?_)
        refine sB 1 [(58, .pointer (some ⟨bb6, 2, none⟩))] hF (by kernel_rfl) fun a hF => ?_
        refine wl (eL 59 10 2 (v := .agg #[.int .i64 y2_2, .int .i64 y2_3]) hF hM (by kernel_rfl) rfl rfl (by kernel_rfl) (by kernel_rfl) fun a w hF hM => ?_)
        refine sB 1 [(60, .slice A lsl.length c)] hF (by kernel_rfl) fun a hF => ?_
        refine wl (eM 61 (v := .tuple #[.slice none 0 0, .int .i64 (runE y2_0 y2_1 y2_2 y2_3 lsl)]) hF hM (by kernel_rfl) (yld_call (f := 19) (args := #[.agg #[.int .i64 y2_0, .int .i64 y2_1], .agg #[.int .i64 y2_2, .int .i64 y2_3], .slice A lsl.length c]) hF (by kernel_rfl) (fun _ => by kernel_rfl) (fun w hM => meterRun_err y2_0 y2_1 y2_2 y2_3 A lsl c w (hM.ok 7 _ rfl) (by unfold runE; rw [if_neg hz3]; exact hz3))) fun a w hF hM => ?_)
        refine sB 5 [(55, .tuple #[.slice none 0 0, .int .i64 (runE y2_0 y2_1 y2_2 y2_3 lsl)]), (62, .slice none 0 0), (63, .int .i64 (runE y2_0 y2_1 y2_2 y2_3 lsl)), (15, .slice none 0 0), (16, .int .i64 (runE y2_0 y2_1 y2_2 y2_3 lsl))] hF (by kernel_rfl) fun a hF => ?_
        refine wpList_nil ?_
        refine hK17 _ _ ?_
        refine wp_seq_k fun K44 hK44 => ?_
        refine wp_region_lit ?_
        refine sB 1 [(65, .pointer (some ⟨bb6, 0, none⟩))] hF (by kernel_rfl) fun a hF => ?_
        refine wl (eL 66 10 0 (v := .agg #[.int .i64 y2_0, .int .i64 y2_1]) hF hM (by kernel_rfl) rfl rfl (by kernel_rfl) (by kernel_rfl) fun a w hF hM => ?_)
        refine sB 1 [(67, .pointer (some ⟨bb6, 2, none⟩))] hF (by kernel_rfl) fun a hF => ?_
        refine wl (eL 68 10 2 (v := .agg #[.int .i64 y2_2, .int .i64 y2_3]) hF hM (by kernel_rfl) rfl rfl (by kernel_rfl) (by kernel_rfl) fun a w hF hM => ?_)
        refine sB 1 [(69, .slice A lsl.length c)] hF (by kernel_rfl) fun a hF => ?_
        refine wl (eM 70 (v := .tuple #[.slice none 0 0, .int .i64 (runE y2_0 y2_1 y2_2 y2_3 lsl)]) hF hM (by kernel_rfl) (yld_call (f := 20) (args := #[.agg #[.int .i64 y2_0, .int .i64 y2_1], .agg #[.int .i64 y2_2, .int .i64 y2_3], .slice A lsl.length c]) hF (by kernel_rfl) (fun _ => by kernel_rfl) (fun w hM => refRun_err y2_0 y2_1 y2_2 y2_3 A lsl c w (hM.ok 7 _ rfl) (by unfold runE; rw [if_neg hz3]; exact hz3))) fun a w hF hM => ?_)
        refine sB 5 [(64, .tuple #[.slice none 0 0, .int .i64 (runE y2_0 y2_1 y2_2 y2_3 lsl)]), (71, .slice none 0 0), (72, .int .i64 (runE y2_0 y2_1 y2_2 y2_3 lsl)), (17, .slice none 0 0), (18, .int .i64 (runE y2_0 y2_1 y2_2 y2_3 lsl))] hF (by kernel_rfl) fun a hF => ?_
        refine wpList_nil ?_
        refine hK44 _ _ ?_
        refine wp_seq_k fun K45 hK45 => ?_
        refine wp_region_lit ?_
        refine sB 2 [(73, .int .i64 (runE y2_0 y2_1 y2_2 y2_3 lsl)), (74, .int .i64 (runE y2_0 y2_1 y2_2 y2_3 lsl))] hF (by kernel_rfl) fun a hF => ?_
        refine wl (eP 75 (v0 := .bool (!decide (runE y2_0 y2_1 y2_2 y2_3 lsl = runE y2_0 y2_1 y2_2 y2_3 lsl))) (v := .bool false) hF (by kernel_rfl) (fun _ => by kernel_rfl) (nT (by omega)) fun a hF => ?_)
        refine sB 3 [(76, .bool false), (77, .slice none 0 0), (78, .slice none 0 0)] hF (by kernel_rfl) fun a hF => ?_
        refine wl (eM 79 (v := .bool true) hF hM (by kernel_rfl) (yld_call (f := 21) (args := #[.slice none 0 0, .slice none 0 0]) hF (by kernel_rfl) (fun _ => by kernel_rfl) (fun w hM => same_yes none ([] : List Int) 0 none ([] : List Int) 0 w Ro.nil Ro.nil (by decide) (by decide))) fun a w hF hM => ?_)
        refine sB 2 [(80, .bool false), (81, .bool false)] hF (by kernel_rfl) fun a hF => ?_
        refine wpList_nil ?_
        refine hK45 _ _ ?_
        refine cF hF (by kernel_rfl) (by kernel_rfl) ?_
        refine wp_skip ?_
        refine hK15 _ _ ?_
        refine wp_region_lit ?_
        refine wl (eP 82 (v0 := .int .i64 (IntKind.i64.wrap (0 + 1))) (v := .int .i64 1) hF (by kernel_rfl) (fun _ => by kernel_rfl) (vi (by decide)) fun a hF => ?_)
        refine sB 1 [(52, .int .i64 1)] hF (by kernel_rfl) fun a hF => ?_
        refine wpList_nil ?_
        refine hK12 _ _ ?_
        refine rounds_k fun K46 hK46 => ?_
        refine wp_seq_k fun K47 hK47 => ?_
        refine wp_region_lit ?_
        refine wl (eP 53 (v0 := .bool (decide (1 < 2))) (v := .bool true) hF (by kernel_rfl) (fun _ => by kernel_rfl) (bT (by omega)) fun a hF => ?_)
        refine wpList_nil ?_
        refine hK47 _ _ ?_
        refine wp_seq_k fun K48 hK48 => ?_
        refine cT hF (by kernel_rfl) (by kernel_rfl) ?_
        refine wp_skip ?_
        refine hK48 _ _ ?_
        refine wp_seq_k fun K49 hK49 => ?_
        refine wp_block ?_
        refine wp_seq_k fun K50 hK50 => ?_
        refine wp_region_lit ?_
        refine sB 2 [(54, .slice AA7 ltr.length cc7), (14, .slice AA7 ltr.length cc7)] hF (by kernel_rfl) fun a hF => ?_
        refine wpList_nil ?_
        refine hK50 _ _ ?_
        refine wp_seq_k fun K51 hK51 => ?_
        refine wp_region_lit ?_
        refine sB 1 [(56, .pointer (some ⟨bb6, 0, none⟩))] hF (by kernel_rfl) fun a hF => ?_
        refine wl (eL 57 10 0 (v := .agg #[.int .i64 y2_0, .int .i64 y2_1]) hF hM (by kernel_rfl) rfl rfl (by kernel_rfl) (by kernel_rfl) fun a w hF hM => ?_)
        refine sB 1 [(58, .pointer (some ⟨bb6, 2, none⟩))] hF (by kernel_rfl) fun a hF => ?_
        refine wl (eL 59 10 2 (v := .agg #[.int .i64 y2_2, .int .i64 y2_3]) hF hM (by kernel_rfl) rfl rfl (by kernel_rfl) (by kernel_rfl) fun a w hF hM => ?_)
        refine sB 1 [(60, .slice AA7 ltr.length cc7)] hF (by kernel_rfl) fun a hF => ?_
        refine wl (eM 61 (v := .tuple #[.slice none 0 0, .int .i64 (runE y2_0 y2_1 y2_2 y2_3 ltr)]) hF hM (by kernel_rfl) (yld_call (f := 19) (args := #[.agg #[.int .i64 y2_0, .int .i64 y2_1], .agg #[.int .i64 y2_2, .int .i64 y2_3], .slice AA7 ltr.length cc7]) hF (by kernel_rfl) (fun _ => by kernel_rfl) (fun w hM => meterRun_err y2_0 y2_1 y2_2 y2_3 AA7 ltr cc7 w (ro_of_own (hM.ok 11 _ rfl)) (by unfold runE; rw [if_neg hz3]; exact hz3))) fun a w hF hM => ?_)
        refine sB 5 [(55, .tuple #[.slice none 0 0, .int .i64 (runE y2_0 y2_1 y2_2 y2_3 ltr)]), (62, .slice none 0 0), (63, .int .i64 (runE y2_0 y2_1 y2_2 y2_3 ltr)), (15, .slice none 0 0), (16, .int .i64 (runE y2_0 y2_1 y2_2 y2_3 ltr))] hF (by kernel_rfl) fun a hF => ?_
        refine wpList_nil ?_
        refine hK51 _ _ ?_
        refine wp_seq_k fun K52 hK52 => ?_
        refine wp_region_lit ?_
        refine sB 1 [(65, .pointer (some ⟨bb6, 0, none⟩))] hF (by kernel_rfl) fun a hF => ?_
        refine wl (eL 66 10 0 (v := .agg #[.int .i64 y2_0, .int .i64 y2_1]) hF hM (by kernel_rfl) rfl rfl (by kernel_rfl) (by kernel_rfl) fun a w hF hM => ?_)
        refine sB 1 [(67, .pointer (some ⟨bb6, 2, none⟩))] hF (by kernel_rfl) fun a hF => ?_
        refine wl (eL 68 10 2 (v := .agg #[.int .i64 y2_2, .int .i64 y2_3]) hF hM (by kernel_rfl) rfl rfl (by kernel_rfl) (by kernel_rfl) fun a w hF hM => ?_)
        refine sB 1 [(69, .slice AA7 ltr.length cc7)] hF (by kernel_rfl) fun a hF => ?_
        refine wl (eM 70 (v := .tuple #[.slice none 0 0, .int .i64 (runE y2_0 y2_1 y2_2 y2_3 ltr)]) hF hM (by kernel_rfl) (yld_call (f := 20) (args := #[.agg #[.int .i64 y2_0, .int .i64 y2_1], .agg #[.int .i64 y2_2, .int .i64 y2_3], .slice AA7 ltr.length cc7]) hF (by kernel_rfl) (fun _ => by kernel_rfl) (fun w hM => refRun_err y2_0 y2_1 y2_2 y2_3 AA7 ltr cc7 w (ro_of_own (hM.ok 11 _ rfl)) (by unfold runE; rw [if_neg hz3]; exact hz3))) fun a w hF hM => ?_)
        refine sB 5 [(64, .tuple #[.slice none 0 0, .int .i64 (runE y2_0 y2_1 y2_2 y2_3 ltr)]), (71, .slice none 0 0), (72, .int .i64 (runE y2_0 y2_1 y2_2 y2_3 ltr)), (17, .slice none 0 0), (18, .int .i64 (runE y2_0 y2_1 y2_2 y2_3 ltr))] hF (by kernel_rfl) fun a hF => ?_
        refine wpList_nil ?_
        refine hK52 _ _ ?_
        refine wp_seq_k fun K53 hK53 => ?_
        refine wp_region_lit ?_
        refine sB 2 [(73, .int .i64 (runE y2_0 y2_1 y2_2 y2_3 ltr)), (74, .int .i64 (runE y2_0 y2_1 y2_2 y2_3 ltr))] hF (by kernel_rfl) fun a hF => ?_
        refine wl (eP 75 (v0 := .bool (!decide (runE y2_0 y2_1 y2_2 y2_3 ltr = runE y2_0 y2_1 y2_2 y2_3 ltr))) (v := .bool false) hF (by kernel_rfl) (fun _ => by kernel_rfl) (nT (by omega)) fun a hF => ?_)
        refine sB 3 [(76, .bool false), (77, .slice none 0 0), (78, .slice none 0 0)] hF (by kernel_rfl) fun a hF => ?_
        refine wl (eM 79 (v := .bool true) hF hM (by kernel_rfl) (yld_call (f := 21) (args := #[.slice none 0 0, .slice none 0 0]) hF (by kernel_rfl) (fun _ => by kernel_rfl) (fun w hM => same_yes none ([] : List Int) 0 none ([] : List Int) 0 w Ro.nil Ro.nil (by decide) (by decide))) fun a w hF hM => ?_)
        refine sB 2 [(80, .bool false), (81, .bool false)] hF (by kernel_rfl) fun a hF => ?_
        refine wpList_nil ?_
        refine hK53 _ _ ?_
        refine cF hF (by kernel_rfl) (by kernel_rfl) ?_
        refine wp_skip ?_
        refine hK49 _ _ ?_
        refine wp_region_lit ?_
        refine wl (eP 82 (v0 := .int .i64 (IntKind.i64.wrap (1 + 1))) (v := .int .i64 2) hF (by kernel_rfl) (fun _ => by kernel_rfl) (vi (by decide)) fun a hF => ?_)
        refine sB 1 [(52, .int .i64 2)] hF (by kernel_rfl) fun a hF => ?_
        refine wpList_nil ?_
        refine hK46 _ _ ?_
        refine rounds_k fun K54 hK54 => ?_
        refine wp_seq_k fun K55 hK55 => ?_
        refine wp_region_lit ?_
        refine wl (eP 53 (v0 := .bool (decide (2 < 2))) (v := .bool false) hF (by kernel_rfl) (fun _ => by kernel_rfl) (bF (by omega)) fun a hF => ?_)
        refine wpList_nil ?_
        refine hK55 _ _ ?_
        refine wp_seq_k fun K56 hK56 => ?_
        refine cF hF (by kernel_rfl) (by kernel_rfl) ?_
        refine wp_exit ?_
        refine hK9 _ _ ?_
        refine wp_region_lit ?_
        refine wl (eP 83 (v0 := .int .i64 (IntKind.i64.wrap ((k45 : Int) + 1))) (v := .int .i64 ((k45 : Int) + 1)) hF (by kernel_rfl) (fun _ => by kernel_rfl) (wi (by omega)) fun a hF => ?_)
        refine sB 1 [(45, .int .i64 ((k45 : Int) + 1))] hF (by kernel_rfl) fun a hF => ?_
        refine wpList_nil ?_
        refine hK6 _ _ ⟨(k45 + 1), ⟨(((((Fr.nil hF).c hF (i := 44) rfl rfl).c hF (i := 6) rfl rfl).c hF (i := 1) rfl rfl).c hF (i := 45) rfl (vi (show ((k45 : Int) + 1 : Int) = ((k45 + 1) : Int) from by omega))), (hM.sub (((((Sub.nil.c (k := 7) rfl rfl).c (k := 5) rfl rfl).c (k := 3) rfl rfl).c (k := 2) rfl rfl).c (k := 1) rfl rfl)), (show ((k45 + 1) : Int) ≤ 4 from by omega)⟩, (show 4 - (k45 + 1) < 4 - k45 from by omega)⟩
    · skip
      replace hF := hF.c hF (i := 46) (v := .bool false) rfl (bF hz2)
      refine cF hF (by kernel_rfl) (by kernel_rfl) ?_
      refine wp_exit ?_
      refine hK4 _ _ ?_
      refine wp_seq_k fun K57 hK57 => ?_
      refine wp_region_lit ?_
      refine wl (eM 84 (v := .bool true) hF hM (by kernel_rfl) (yld_call (f := 17) (args := #[]) hF (by kernel_rfl) (fun _ => by kernel_rfl) (fun w hM => works_w w)) fun a w hF hM => ?_)
      refine sB 1 [(8, .bool true)] hF (by kernel_rfl) fun a hF => ?_
      refine wpList_nil ?_
      refine hK57 _ _ ?_
      refine wp_ret ?_
      refine hR0 _ _ ?_
      refine ret_of hF hM (.tmp rfl (.nil)) ?_
      exact ⟨rfl, hM.bel⟩

end Go.Proofs.Ytncllmponigkgaa
