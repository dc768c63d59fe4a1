/-
  The walk of MeterSteps.
-/
import Derived.Test.YtncllmponigkgaaMeterF
namespace Go.Proofs.Ytncllmponigkgaa
open Go.RowKit
set_option linter.unusedVariables false
set_option linter.unusedSimpArgs false

set_option maxRecDepth 100000 in
theorem meterSteps_walk (bu ra : Int) (Ga : Option Addr) (gaps : List Int) (cg : Nat) (Sa : Option Addr) (sizes : List Int) (cs : Nat) (na nb wt : Int) (w0 : World) (hGa : Ro w0 Ga (gaps.map (Value.int .u16))) (hSa : Ro w0 Sa (sizes.map (Value.int .u16))) (hg : All16 gaps) (hs : All16 sizes) (hmg : gaps.length ≤ 9223372036854775807) (hms : sizes.length ≤ 9223372036854775807) (h : 0 ≤ bu ∧ bu < 4294967296 ∧ 0 ≤ ra ∧ ra < 4294967296 ∧ 0 ≤ na ∧ na < 4294967296 ∧ 0 ≤ nb ∧ nb < 4294967296 ∧ 0 ≤ wt ∧ wt < 65536) :
    Calls Try.prog 5 #[.agg #[.int .u32 bu, .int .u32 ra, .slice Ga gaps.length cg, .slice Sa sizes.length cs], .agg #[.int .u32 na, .int .u32 nb], .int .u16 wt] w0 (Ret w0 (.bool true)) := by
  refine enterK 173 Try.func5 rfl rfl rfl ?_
  intro a hF Q0 hR0 hN0
  have hM := Mem.start w0
  have hM := hM.addOld 1 hGa (Nat.le_refl _)
  have hM := hM.addOld 2 hSa (Nat.le_refl _)
  refine wp_seq_k fun K1 hK1 => ?_
  refine wp_region_lit ?_
  refine wl (eN 3 3 (t := 28) (fun b => .pointer (some ⟨b, 0, none⟩)) #[.int .u32 bu, .int .u32 ra, .slice Ga gaps.length cg, .slice Sa sizes.length cs] hF hM (by kernel_rfl) (fun _ => by kernel_rfl) fun bb1 a w hF hM => ?_)
  refine wl (eN 4 4 (t := 29) (fun b => .pointer (some ⟨b, 0, none⟩)) #[.int .u32 na, .int .u32 nb] hF hM (by kernel_rfl) (fun _ => by kernel_rfl) fun bb2 a w hF hM => ?_)
  refine sB 1 [(6, .bool false)] hF (by kernel_rfl) fun a hF => ?_
  refine wpList_nil ?_
  refine hK1 _ _ ?_
  refine wp_seq_k fun K2 hK2 => ?_
  refine wp_seq_k fun K3 hK3 => ?_
  refine wp_region_lit ?_
  refine wl (eM 27 (v := .bool true) hF hM (by kernel_rfl) (yld_call (f := 17) (args := #[]) hF (by kernel_rfl) (fun _ => by kernel_rfl) (fun w hM => works_w w)) fun a w hF hM => ?_)
  refine sB 1 [(28, .bool false)] hF (by kernel_rfl) fun a hF => ?_
  refine wpList_nil ?_
  refine hK3 _ _ ?_
  refine cF hF (by kernel_rfl) (by kernel_rfl) ?_
  refine wp_skip ?_
  refine hK2 _ _ ?_
  refine wp_seq_k fun K4 hK4 => ?_
  refine wp_region_lit ?_
  refine wl (eL 30 3 0 (v := .agg #[.int .u32 bu, .int .u32 ra, .slice Ga gaps.length cg, .slice Sa sizes.length cs]) hF hM (by kernel_rfl) rfl rfl (by kernel_rfl) (by kernel_rfl) fun a w hF hM => ?_)
  refine sB 1 [(31, .pointer (some ⟨bb2, 0, none⟩))] hF (by kernel_rfl) fun a hF => ?_
  refine wl (eL 32 4 0 (v := .int .u32 na) hF hM (by kernel_rfl) rfl rfl (by kernel_rfl) (by kernel_rfl) fun a w hF hM => ?_)
  refine wl (eP 33 (v0 := .int .u16 (IntKind.u16.wrap na)) (v := .int .u16 (na % 65536)) hF (by kernel_rfl) (fun _ => by kernel_rfl) (vi (u16_wrap _)) fun a hF => ?_)
  refine sB 1 [(34, .pointer (some ⟨bb2, 1, none⟩))] hF (by kernel_rfl) fun a hF => ?_
  refine wl (eL 35 4 1 (v := .int .u32 nb) hF hM (by kernel_rfl) rfl rfl (by kernel_rfl) (by kernel_rfl) fun a w hF hM => ?_)
  obtain ⟨pcb, e_pcb⟩ : ∃ x : Int, x = 1 + bu % 1048576 := ⟨_, rfl⟩
  obtain ⟨pcr, e_pcr⟩ : ∃ x : Int, x = 1 + ra % 2097152 := ⟨_, rfl⟩
  obtain ⟨ppb, e_ppb⟩ : ∃ x : Int, x = 1 + na % 65536 := ⟨_, rfl⟩
  obtain ⟨pps, e_pps⟩ : ∃ x : Int, x = min 2097152 (1 + ra % 2097152 + nb % 524288) := ⟨_, rfl⟩
  have hnew : newE pcb pcr ppb pps = 0 := by unfold newE bkE; omega
  have := newE_ok hnew
  refine wl (eM 36 (v := .tuple #[.agg #[.int .i64 pcb, .int .i64 pcr], .agg #[.int .i64 ppb, .int .i64 pps]]) hF hM (by kernel_rfl) (yld_call (f := 9) (args := #[.agg #[.int .u32 bu, .int .u32 ra, .slice Ga gaps.length cg, .slice Sa sizes.length cs], .int .u16 (na % 65536), .int .u32 nb]) hF (by kernel_rfl) (fun _ => by kernel_rfl) (fun w hM => by rw [e_pcb, e_pcr, e_ppb, e_pps]; exact pair_w bu ra (.slice Ga gaps.length cg) (.slice Sa sizes.length cs) (na % 65536) nb w (by omega))) fun a w hF hM => ?_)
  refine sB 3 [(29, .tuple #[.agg #[.int .i64 pcb, .int .i64 pcr], .agg #[.int .i64 ppb, .int .i64 pps]]), (37, .agg #[.int .i64 pcb, .int .i64 pcr]), (38, .agg #[.int .i64 ppb, .int .i64 pps])] hF (by kernel_rfl) fun a hF => ?_
  refine wl (eN 7 5 (t := 23) (fun b => .pointer (some ⟨b, 0, none⟩)) #[.int .i64 0, .int .i64 0] hF hM (by kernel_rfl) (fun _ => by kernel_rfl) fun bb3 a w hF hM => ?_)
  refine wl (eN 8 6 (t := 23) (fun b => .pointer (some ⟨b, 0, none⟩)) #[.int .i64 0, .int .i64 0] hF hM (by kernel_rfl) (fun _ => by kernel_rfl) fun bb4 a w hF hM => ?_)
  refine wl (sStore (i := 5) (off := 0) (cs' := #[.int .i64 pcb, .int .i64 pcr]) hF hM (by kernel_rfl) rfl rfl (by kernel_rfl) (by kernel_rfl) rfl (by kernel_rfl) fun w hM => ?_)
  refine wl (sStore (i := 6) (off := 0) (cs' := #[.int .i64 ppb, .int .i64 pps]) hF hM (by kernel_rfl) rfl rfl (by kernel_rfl) (by kernel_rfl) rfl (by kernel_rfl) fun w hM => ?_)
  refine wpList_nil ?_
  refine hK4 _ _ ?_
  refine wp_seq_k fun K5 hK5 => ?_
  refine wp_region_lit ?_
  refine wl (eL 39 3 0 (v := .agg #[.int .u32 bu, .int .u32 ra, .slice Ga gaps.length cg, .slice Sa sizes.length cs]) hF hM (by kernel_rfl) rfl rfl (by kernel_rfl) (by kernel_rfl) fun a w hF hM => ?_)
  obtain ⟨ltr, e_ltr⟩ : ∃ x : List (Int × Int), x = drTrace gaps sizes := ⟨_, rfl⟩
  have tr_ltr : trE ltr = 0 := by rw [e_ltr]; exact dr_trE hg hs
  have le_ltr : ltr.length ≤ 30 := by rw [e_ltr]; exact dr_le _ _
  refine wl (sOwn 7 (f := 18) (args := #[.agg #[.int .u32 bu, .int .u32 ra, .slice Ga gaps.length cg, .slice Sa sizes.length cs]]) (mk := fun v => v) (e := 33) (size := 2) (m := ltr.length) (xs := (flat2 ltr)) hF hM (by kernel_rfl) rfl (by decide) (by kernel_rfl) (fun _ => by kernel_rfl) (by rw [e_ltr]; exact draftTrace_w bu ra Ga gaps cg Sa sizes cs w (hM.ok 1 _ rfl) (hM.ok 2 _ rfl) hg hs (by omega) (by omega)) fun AA5 cc5 a w hF hM => ?_)
  refine sB 1 [(9, .slice AA5 ltr.length cc5)] hF (by kernel_rfl) fun a hF => ?_
  refine wpList_nil ?_
  refine hK5 _ _ ?_
  refine wp_seq_k fun K6 hK6 => ?_
  refine wp_region_lit ?_
  refine wl (eL 42 5 0 (v := .agg #[.int .i64 pcb, .int .i64 pcr]) hF hM (by kernel_rfl) rfl rfl (by kernel_rfl) (by kernel_rfl) fun a w hF hM => ?_)
  refine wl (eL 43 6 0 (v := .agg #[.int .i64 ppb, .int .i64 pps]) hF hM (by kernel_rfl) rfl rfl (by kernel_rfl) (by kernel_rfl) fun a w hF hM => ?_)
  refine sB 1 [(44, .slice AA5 ltr.length cc5)] hF (by kernel_rfl) fun a hF => ?_
  have := mrunF_len pcb pcr ppb pps ltr
  refine wl (sOwn 8 (f := 19) (args := #[.agg #[.int .i64 pcb, .int .i64 pcr], .agg #[.int .i64 ppb, .int .i64 pps], .slice AA5 ltr.length cc5]) (mk := fun v => .tuple #[v, .int .i64 0]) (e := 3) (size := 1) (m := ltr.length) (xs := ((mrunF pcb pcr ppb pps ltr).map (Value.int .i64))) hF hM (by kernel_rfl) rfl (by decide) (by kernel_rfl) (fun _ => by kernel_rfl) (meterRun_ok pcb pcr ppb pps AA5 ltr cc5 w (ro_of_own (hM.ok 7 _ rfl)) hnew tr_ltr) fun AA6 cc6 a w hF hM => ?_)
  refine sB 5 [(41, .tuple #[.slice AA6 ltr.length cc6, .int .i64 0]), (46, .slice AA6 ltr.length cc6), (47, .int .i64 0), (10, .slice AA6 ltr.length cc6), (11, .int .i64 0)] hF (by kernel_rfl) fun a hF => ?_
  refine wpList_nil ?_
  refine hK6 _ _ ?_
  refine wp_seq_k fun K7 hK7 => ?_
  refine wp_region_lit ?_
  refine wl (eL 49 5 0 (v := .agg #[.int .i64 pcb, .int .i64 pcr]) hF hM (by kernel_rfl) rfl rfl (by kernel_rfl) (by kernel_rfl) fun a w hF hM => ?_)
  refine wl (eL 50 6 0 (v := .agg #[.int .i64 ppb, .int .i64 pps]) hF hM (by kernel_rfl) rfl rfl (by kernel_rfl) (by kernel_rfl) fun a w hF hM => ?_)
  refine wl (eM 51 (v := .tuple #[.agg #[.int .i64 0, .int .i64 (pcb * 1048576), .int .i64 (ppb * 1048576)], .int .i64 0]) hF hM (by kernel_rfl) (yld_call (f := 11) (args := #[.agg #[.int .i64 pcb, .int .i64 pcr], .agg #[.int .i64 ppb, .int .i64 pps]]) hF (by kernel_rfl) (fun _ => by kernel_rfl) (fun w hM => meterNew_ok pcb pcr ppb pps w hnew)) fun a w hF hM => ?_)
  refine sB 3 [(48, .tuple #[.agg #[.int .i64 0, .int .i64 (pcb * 1048576), .int .i64 (ppb * 1048576)], .int .i64 0]), (52, .agg #[.int .i64 0, .int .i64 (pcb * 1048576), .int .i64 (ppb * 1048576)]), (53, .int .i64 0)] hF (by kernel_rfl) fun a hF => ?_
  refine wl (eN 12 9 (t := 31) (fun b => .pointer (some ⟨b, 0, none⟩)) #[.int .i64 0, .int .i64 0, .int .i64 0] hF hM (by kernel_rfl) (fun _ => by kernel_rfl) fun bb7 a w hF hM => ?_)
  refine wl (sStore (i := 9) (off := 0) (cs' := #[.int .i64 0, .int .i64 (pcb * 1048576), .int .i64 (ppb * 1048576)]) hF hM (by kernel_rfl) rfl rfl (by kernel_rfl) (by kernel_rfl) rfl (by kernel_rfl) fun w hM => ?_)
  refine sB 1 [(13, .int .i64 0)] hF (by kernel_rfl) fun a hF => ?_
  refine wpList_nil ?_
  refine hK7 _ _ ?_
  refine wp_seq_k fun K8 hK8 => ?_
  refine wp_seq_k fun K9 hK9 => ?_
  refine wp_region_lit ?_
  refine sB 1 [(54, .int .i64 0)] hF (by kernel_rfl) fun a hF => ?_
  refine wl (eP 55 (v0 := .bool (!decide (0 = 0))) (v := .bool false) hF (by kernel_rfl) (fun _ => by kernel_rfl) (nT (by omega)) fun a hF => ?_)
  refine sB 2 [(56, .bool false), (57, .int .i64 0)] hF (by kernel_rfl) fun a hF => ?_
  refine wl (eP 58 (v0 := .bool (!decide (0 = 0))) (v := .bool false) hF (by kernel_rfl) (fun _ => by kernel_rfl) (nT (by omega)) fun a hF => ?_)
  refine sB 6 [(59, .bool false), (60, .bool false), (61, .slice AA6 ltr.length cc6), (62, .int .i64 (ltr.length : Int)), (63, .slice AA5 ltr.length cc5), (64, .int .i64 (ltr.length : Int))] hF (by kernel_rfl) fun a hF => ?_
  refine wl (eP 65 (v0 := .bool (!decide ((ltr.length : Int) = (ltr.length : Int)))) (v := .bool false) hF (by kernel_rfl) (fun _ => by kernel_rfl) (nT (by omega)) fun a hF => ?_)
  refine sB 1 [(66, .bool false)] hF (by kernel_rfl) fun a hF => ?_
  refine wpList_nil ?_
  refine hK9 _ _ ?_
  refine cF hF (by kernel_rfl) (by kernel_rfl) ?_
  refine wp_skip ?_
  refine hK8 _ _ ?_
  refine wp_seq_k fun K10 hK10 => ?_
  refine wp_seq_k fun K11 hK11 => ?_
  refine wp_region_lit ?_
  refine sB 1 [(14, .int .i64 0)] hF (by kernel_rfl) fun a hF => ?_
  refine wpList_nil ?_
  refine hK11 _ _ ?_
  refine wp_block ?_
  refine wp_loop_k (G := Nat × Int × Int × Int × List Int) (fun gg a w => Fr 173 [(14, some (.int .i64 (gg.1 : Int))), (2, some (.int .u16 wt)), (7, some (.pointer (some ⟨bb3, 0, none⟩))), (8, some (.pointer (some ⟨bb4, 0, none⟩))), (9, some (.slice AA5 ltr.length cc5)), (10, some (.slice AA6 ltr.length cc6)), (12, some (.pointer (some ⟨bb7, 0, none⟩)))] a ∧ Mem w0.heap.size w0 [(1, some (.ro Ga (gaps.map (Value.int .u16)))), (2, some (.ro Sa (sizes.map (Value.int .u16)))), (3, some (.row bb1 28 #[.int .u32 bu, .int .u32 ra, .slice Ga gaps.length cg, .slice Sa sizes.length cs])), (4, some (.row bb2 29 #[.int .u32 na, .int .u32 nb])), (5, some (.row bb3 23 #[.int .i64 pcb, .int .i64 pcr])), (6, some (.row bb4 23 #[.int .i64 ppb, .int .i64 pps])), (7, some (.own (.slice AA5 ltr.length cc5) 33 2 ltr.length (flat2 ltr))), (8, some (.own (.slice AA6 ltr.length cc6) 3 1 ltr.length ((mrunF pcb pcr ppb pps ltr).map (Value.int .i64)))), (9, some (.row bb7 31 #[.int .i64 gg.2.1, .int .i64 gg.2.2.1, .int .i64 gg.2.2.2.1]))] w ∧ ((gg.1 : Int) ≤ (ltr.length : Int)) ∧ (mrun pcb pcr ppb pps 0 (pcb * 1048576) (ppb * 1048576) ltr = gg.2.2.2.2 ++ mrun pcb pcr ppb pps gg.2.1 gg.2.2.1 gg.2.2.2.1 (ltr.drop gg.1)) ∧ (gg.2.2.2.2.length = gg.1) ∧ (trOk gg.2.1 (ltr.drop gg.1) = true) ∧ (0 ≤ gg.2.1) ∧ (gg.2.1 ≤ 1966050) ∧ (0 ≤ gg.2.2.1) ∧ (gg.2.2.1 ≤ pcb * 1048576) ∧ (0 ≤ gg.2.2.2.1) ∧ (gg.2.2.2.1 ≤ ppb * 1048576)) (fun gg => ltr.length - gg.1) (0, 0, pcb * 1048576, ppb * 1048576, []) ?_ ?_
  · refine ⟨((((((((Fr.nil hF).c hF (i := 12) rfl rfl).c hF (i := 10) rfl rfl).c hF (i := 9) rfl rfl).c hF (i := 8) rfl rfl).c hF (i := 7) rfl rfl).c hF (i := 2) rfl rfl).c hF (i := 14) rfl (vi (show (0 : Int) = (0 : Int) from by omega))), (hM.sub (((((((((Sub.nil.c (k := 9) rfl rfl).c (k := 8) rfl rfl).c (k := 7) rfl rfl).c (k := 6) rfl rfl).c (k := 5) rfl rfl).c (k := 4) rfl rfl).c (k := 3) rfl rfl).c (k := 2) rfl rfl).c (k := 1) rfl rfl)), (show (0 : Int) ≤ (ltr.length : Int) from by omega), (show mrun pcb pcr ppb pps 0 (pcb * 1048576) (ppb * 1048576) ltr = ([]) ++ mrun pcb pcr ppb pps 0 (pcb * 1048576) (ppb * 1048576) (ltr.drop 0) from by simp), (show ([]).length = 0 from by rfl), (show trOk 0 (ltr.drop 0) = true from by simpa using (trE_ok tr_ltr).2), (show 0 ≤ 0 from by omega), (show 0 ≤ 1966050 from by omega), (show 0 ≤ (pcb * 1048576) from by omega), (show (pcb * 1048576) ≤ pcb * 1048576 from by omega), (show 0 ≤ (ppb * 1048576) from by omega), (show (ppb * 1048576) ≤ ppb * 1048576 from by omega)⟩
  · intro gg a w hI
    intro K12 hK12
    obtain ⟨k, la, co, pe, cl⟩ := gg
    try dsimp only at hI hK12
    obtain ⟨hF, hM, hz1, hz2, hz3, hz4, hz5, hz6, hz7, hz8, hz9, hz10⟩ := hI
    refine wp_seq_k fun K13 hK13 => ?_
    refine wp_seq_k fun K14 hK14 => ?_
    refine wp_region_lit ?_
    refine sB 4 [(67, .int .i64 (k : Int)), (68, .slice AA5 ltr.length cc5), (69, .int .i64 (ltr.length : Int)), (70, .bool (decide ((k : Int) < (ltr.length : Int))))] hF (by kernel_rfl) fun a hF => ?_
    refine wpList_nil ?_
    refine hK14 _ _ ?_
    by_cases hz11 : (k : Int) < (ltr.length : Int)
    · skip
      have hF := hF.c hF (i := 70) (v := .bool true) rfl (bT hz11)
      refine cT hF (by kernel_rfl) (by kernel_rfl) ?_
      refine wp_skip ?_
      refine hK13 _ _ ?_
      refine wp_seq_k fun K15 hK15 => ?_
      refine wp_block ?_
      refine wp_seq_k fun K16 hK16 => ?_
      have hq := tr_here (l := ltr) (k := k) (la := la) (by omega) (by assumption)
      have hqd := dr_pr (k := k) hg hs (by rw [← e_ltr]; omega)
      rw [← e_ltr] at hqd
      have hmk : mkE pcb pcr ppb pps la co pe (pr ltr k).1 (pr ltr k).2 = 0 := mkE_zero hnew (by omega) (by omega) (by omega) (by omega)
      obtain ⟨col, e_col⟩ : ∃ x : Int, x = mkCol pcb pcr ppb pps la co pe (pr ltr k).1 (pr ltr k).2 := ⟨_, rfl⟩
      obtain ⟨mc, e_mc⟩ : ∃ x : Int, x = mkC pcb pcr ppb pps la co pe (pr ltr k).1 (pr ltr k).2 := ⟨_, rfl⟩
      obtain ⟨mp, e_mp⟩ : ∃ x : Int, x = mkP pcb pcr ppb pps la co pe (pr ltr k).1 (pr ltr k).2 := ⟨_, rfl⟩
      have bd_col := mk_bd hmk
      rw [← e_mc, ← e_mp, ← e_col] at bd_col
      refine rF (by kernel_rfl) (by kernel_rfl) (fun S a w => ∃ bb8 : Nat, Fr 173 [(2, some (.int .u16 wt)), (7, some (.pointer (some ⟨bb3, 0, none⟩))), (8, some (.pointer (some ⟨bb4, 0, none⟩))), (9, some (.slice AA5 ltr.length cc5)), (10, some (.slice AA6 ltr.length cc6)), (12, some (.pointer (some ⟨bb7, 0, none⟩))), (14, some (.int .i64 (k : Int))), (15, (cond (S.getD 19 false) (some (.int .i64 col)) none)), (16, (cond (S.getD 18 false) (some (.pointer (some ⟨bb8, 0, none⟩))) none)), (17, (cond (S.getD 21 false) (some (.int .i64 0)) none)), (67, some (.int .i64 (k : Int))), (68, some (.slice AA5 ltr.length cc5)), (69, some (.int .i64 (ltr.length : Int))), (70, some (.bool true)), (73, (cond (S.getD 14 false) (some (.tuple #[.int .i64 col, .agg #[.int .i64 (pr ltr k).1, .int .i64 mc, .int .i64 mp], .int .i64 0])) none)), (74, (cond (S.getD 0 false) (some (.agg #[.int .i64 pcb, .int .i64 pcr])) none)), (75, (cond (S.getD 1 false) (some (.agg #[.int .i64 ppb, .int .i64 pps])) none)), (76, (cond (S.getD 2 false) (some (.agg #[.int .i64 la, .int .i64 co, .int .i64 pe])) none)), (77, (cond (S.getD 3 false) (some (.slice AA5 ltr.length cc5)) none)), (78, (cond (S.getD 4 false) (some (.int .i64 (k : Int))) none)), (79, (cond (S.getD 5 false) (some (.pointer (some (ea AA5 (k * 2))))) none)), (80, (cond (S.getD 6 false) (some (.pointer (some (ea AA5 (k * 2))))) none)), (81, (cond (S.getD 7 false) (some (.int .i64 (pr ltr k).1)) none)), (82, (cond (S.getD 8 false) (some (.slice AA5 ltr.length cc5)) none)), (83, (cond (S.getD 9 false) (some (.int .i64 (k : Int))) none)), (84, (cond (S.getD 10 false) (some (.pointer (some (ea AA5 (k * 2))))) none)), (85, (cond (S.getD 11 false) (some (.pointer (some (ea AA5 (k * 2 + 1))))) none)), (86, (cond (S.getD 12 false) (some (.int .i64 (pr ltr k).2)) none)), (87, (cond (S.getD 13 false) (some (.tuple #[.int .i64 col, .agg #[.int .i64 (pr ltr k).1, .int .i64 mc, .int .i64 mp], .int .i64 0])) none)), (88, (cond (S.getD 15 false) (some (.int .i64 col)) none)), (89, (cond (S.getD 16 false) (some (.agg #[.int .i64 (pr ltr k).1, .int .i64 mc, .int .i64 mp])) none)), (90, (cond (S.getD 17 false) (some (.int .i64 0)) none))] a ∧ Mem w0.heap.size w0 [(1, some (.ro Ga (gaps.map (Value.int .u16)))), (2, some (.ro Sa (sizes.map (Value.int .u16)))), (3, some (.row bb1 28 #[.int .u32 bu, .int .u32 ra, .slice Ga gaps.length cg, .slice Sa sizes.length cs])), (4, some (.row bb2 29 #[.int .u32 na, .int .u32 nb])), (5, some (.row bb3 23 #[.int .i64 pcb, .int .i64 pcr])), (6, some (.row bb4 23 #[.int .i64 ppb, .int .i64 pps])), (7, some (.own (.slice AA5 ltr.length cc5) 33 2 ltr.length (flat2 ltr))), (8, some (.own (.slice AA6 ltr.length cc6) 3 1 ltr.length ((mrunF pcb pcr ppb pps ltr).map (Value.int .i64)))), (9, some (.row bb7 31 #[.int .i64 la, .int .i64 co, .int .i64 pe])), (10, (cond (S.getD 20 false) (some (.row bb8 31 #[.int .i64 (pr ltr k).1, .int .i64 mc, .int .i64 mp])) (cond (S.getD 18 false) (some (.row bb8 31 #[.int .i64 0, .int .i64 0, .int .i64 0])) none)))] w) ?_ ?_ ?_
      · exact ⟨0, (((((((((((((((((((((((((((((((((Fr.nil hF).co hF (i := 90) (by kernel_rfl)).co hF (i := 89) (by kernel_rfl)).co hF (i := 88) (by kernel_rfl)).co hF (i := 87) (by kernel_rfl)).co hF (i := 86) (by kernel_rfl)).co hF (i := 85) (by kernel_rfl)).co hF (i := 84) (by kernel_rfl)).co hF (i := 83) (by kernel_rfl)).co hF (i := 82) (by kernel_rfl)).co hF (i := 81) (by kernel_rfl)).co hF (i := 80) (by kernel_rfl)).co hF (i := 79) (by kernel_rfl)).co hF (i := 78) (by kernel_rfl)).co hF (i := 77) (by kernel_rfl)).co hF (i := 76) (by kernel_rfl)).co hF (i := 75) (by kernel_rfl)).co hF (i := 74) (by kernel_rfl)).co hF (i := 73) (by kernel_rfl)).co hF (i := 70) (by kernel_rfl)).co hF (i := 69) (by kernel_rfl)).co hF (i := 68) (by kernel_rfl)).co hF (i := 67) (by kernel_rfl)).co hF (i := 17) (by kernel_rfl)).co hF (i := 16) (by kernel_rfl)).co hF (i := 15) (by kernel_rfl)).co hF (i := 14) (by kernel_rfl)).co hF (i := 12) (by kernel_rfl)).co hF (i := 10) (by kernel_rfl)).co hF (i := 9) (by kernel_rfl)).co hF (i := 8) (by kernel_rfl)).co hF (i := 7) (by kernel_rfl)).co hF (i := 2) (by kernel_rfl)), hM.drew.sub ((((((((((Sub.nil.co (k := 10) (by kernel_rfl)).co (k := 9) (by kernel_rfl)).co (k := 8) (by kernel_rfl)).co (k := 7) (by kernel_rfl)).co (k := 6) (by kernel_rfl)).co (k := 5) (by kernel_rfl)).co (k := 4) (by kernel_rfl)).co (k := 3) (by kernel_rfl)).co (k := 2) (by kernel_rfl)).co (k := 1) (by kernel_rfl))⟩
      · refine stC ?_ (stC ?_ (stC ?_ (stC ?_ (stC ?_ (stC ?_ (stC ?_ (stC ?_ (stC ?_ (stC ?_ (stC ?_ (stC ?_ (stC ?_ (stC ?_ (stC ?_ (stC ?_ (stC ?_ (stC ?_ (stC ?_ (stC ?_ (stC ?_ (stC ?_ (trivial))))))))))))))))))))))
        · intro s0 s1 s2 s3 s4 s5 s6 s7 s8 s9 s10 s11 s12 s13 s14 s15 s16 s17 s18 s19 s20 s21 hc hi hp a w hS
          obtain rfl : s0 = false := hi
          obtain ⟨bb8, hF, hM⟩ := hS
          refine eL 74 5 0 (v := .agg #[.int .i64 pcb, .int .i64 pcr]) hF hM (by kernel_rfl) rfl rfl (by kernel_rfl) (by kernel_rfl) fun a w hF hM => ?_
          exact ⟨bb8, ((hF.repl 15 (by kernel_rfl)).cast (by kernel_rfl)), (hM.cast (by kernel_rfl))⟩
        · intro s0 s1 s2 s3 s4 s5 s6 s7 s8 s9 s10 s11 s12 s13 s14 s15 s16 s17 s18 s19 s20 s21 hc hi hp a w hS
          obtain rfl : s1 = false := hi
          obtain ⟨bb8, hF, hM⟩ := hS
          refine eL 75 6 0 (v := .agg #[.int .i64 ppb, .int .i64 pps]) hF hM (by kernel_rfl) rfl rfl (by kernel_rfl) (by kernel_rfl) fun a w hF hM => ?_
          exact ⟨bb8, ((hF.repl 16 (by kernel_rfl)).cast (by kernel_rfl)), (hM.cast (by kernel_rfl))⟩
        · intro s0 s1 s2 s3 s4 s5 s6 s7 s8 s9 s10 s11 s12 s13 s14 s15 s16 s17 s18 s19 s20 s21 hc hi hp a w hS
          obtain rfl : s2 = false := hi
          obtain ⟨bb8, hF, hM⟩ := hS
          refine eL 76 9 0 (v := .agg #[.int .i64 la, .int .i64 co, .int .i64 pe]) hF hM (by kernel_rfl) rfl rfl (by kernel_rfl) (by kernel_rfl) fun a w hF hM => ?_
          exact ⟨bb8, ((hF.repl 17 (by kernel_rfl)).cast (by kernel_rfl)), (hM.cast (by kernel_rfl))⟩
        · intro s0 s1 s2 s3 s4 s5 s6 s7 s8 s9 s10 s11 s12 s13 s14 s15 s16 s17 s18 s19 s20 s21 hc hi hp a w hS
          obtain rfl : s3 = false := hi
          obtain ⟨bb8, hF, hM⟩ := hS
          refine eP 77 (v0 := .slice AA5 ltr.length cc5) (v := .slice AA5 ltr.length cc5) hF (by kernel_rfl) (fun _ => by kernel_rfl) rfl fun a hF => ?_
          exact ⟨bb8, ((hF.repl 18 (by kernel_rfl)).cast (by kernel_rfl)), (hM.cast (by kernel_rfl))⟩
        · intro s0 s1 s2 s3 s4 s5 s6 s7 s8 s9 s10 s11 s12 s13 s14 s15 s16 s17 s18 s19 s20 s21 hc hi hp a w hS
          obtain rfl : s4 = false := hi
          obtain ⟨bb8, hF, hM⟩ := hS
          refine eP 78 (v0 := .int .i64 (k : Int)) (v := .int .i64 (k : Int)) hF (by kernel_rfl) (fun _ => by kernel_rfl) rfl fun a hF => ?_
          exact ⟨bb8, ((hF.repl 19 (by kernel_rfl)).cast (by kernel_rfl)), (hM.cast (by kernel_rfl))⟩
        · intro s0 s1 s2 s3 s4 s5 s6 s7 s8 s9 s10 s11 s12 s13 s14 s15 s16 s17 s18 s19 s20 s21 hc hi hp a w hS
          obtain rfl : s5 = false := hi
          obtain rfl : s4 = true := hp 4 (by kernel_rfl)
          obtain rfl : s3 = true := hp 3 (by kernel_rfl)
          obtain ⟨bb8, hF, hM⟩ := hS
          refine eM 79 (v := .pointer (some (ea AA5 (k * 2)))) hF hM (by kernel_rfl) (yld_ix (kd := .i64) (e := 33) (len := ltr.length) (cap := cc5) (i := (k : Int)) (size := 2) (A := AA5) hF rfl (by kernel_rfl) (by kernel_rfl) (by kernel_rfl) (by kernel_rfl) (by kernel_rfl) (roO 7 rfl) (by omega) (by omega) (by rw [flat2_length]; omega)) fun a w hF hM => ?_
          exact ⟨bb8, ((hF.repl 20 (by kernel_rfl)).cast (by kernel_rfl)), (hM.cast (by kernel_rfl))⟩
        · intro s0 s1 s2 s3 s4 s5 s6 s7 s8 s9 s10 s11 s12 s13 s14 s15 s16 s17 s18 s19 s20 s21 hc hi hp a w hS
          obtain rfl : s6 = false := hi
          obtain rfl : s5 = true := hp 5 (by kernel_rfl)
          obtain ⟨bb8, hF, hM⟩ := hS
          refine eP 80 (v0 := .pointer (some (ea AA5 (k * 2)))) (v := .pointer (some (ea AA5 (k * 2)))) hF (by kernel_rfl) (fun _ => by kernel_rfl) rfl fun a hF => ?_
          exact ⟨bb8, ((hF.repl 21 (by kernel_rfl)).cast (by kernel_rfl)), (hM.cast (by kernel_rfl))⟩
        · intro s0 s1 s2 s3 s4 s5 s6 s7 s8 s9 s10 s11 s12 s13 s14 s15 s16 s17 s18 s19 s20 s21 hc hi hp a w hS
          obtain rfl : s7 = false := hi
          obtain rfl : s6 = true := hp 6 (by kernel_rfl)
          obtain ⟨bb8, hF, hM⟩ := hS
          refine eM 81 (v := .int .i64 (pr ltr k).1) hF hM (by kernel_rfl) (yld_ro1 (A := AA5) (j := k * 2) hF rfl (by kernel_rfl) (by kernel_rfl) (roO 7 rfl) (by kernel_rfl) (pr_fst (k := k) (by omega) (by omega))) fun a w hF hM => ?_
          exact ⟨bb8, ((hF.repl 22 (by kernel_rfl)).cast (by kernel_rfl)), (hM.cast (by kernel_rfl))⟩
        · intro s0 s1 s2 s3 s4 s5 s6 s7 s8 s9 s10 s11 s12 s13 s14 s15 s16 s17 s18 s19 s20 s21 hc hi hp a w hS
          obtain rfl : s8 = false := hi
          obtain ⟨bb8, hF, hM⟩ := hS
          refine eP 82 (v0 := .slice AA5 ltr.length cc5) (v := .slice AA5 ltr.length cc5) hF (by kernel_rfl) (fun _ => by kernel_rfl) rfl fun a hF => ?_
          exact ⟨bb8, ((hF.repl 23 (by kernel_rfl)).cast (by kernel_rfl)), (hM.cast (by kernel_rfl))⟩
        · intro s0 s1 s2 s3 s4 s5 s6 s7 s8 s9 s10 s11 s12 s13 s14 s15 s16 s17 s18 s19 s20 s21 hc hi hp a w hS
          obtain rfl : s9 = false := hi
          obtain ⟨bb8, hF, hM⟩ := hS
          refine eP 83 (v0 := .int .i64 (k : Int)) (v := .int .i64 (k : Int)) hF (by kernel_rfl) (fun _ => by kernel_rfl) rfl fun a hF => ?_
          exact ⟨bb8, ((hF.repl 24 (by kernel_rfl)).cast (by kernel_rfl)), (hM.cast (by kernel_rfl))⟩
        · intro s0 s1 s2 s3 s4 s5 s6 s7 s8 s9 s10 s11 s12 s13 s14 s15 s16 s17 s18 s19 s20 s21 hc hi hp a w hS
          obtain rfl : s10 = false := hi
          obtain rfl : s9 = true := hp 9 (by kernel_rfl)
          obtain rfl : s8 = true := hp 8 (by kernel_rfl)
          obtain ⟨bb8, hF, hM⟩ := hS
          refine eM 84 (v := .pointer (some (ea AA5 (k * 2)))) hF hM (by kernel_rfl) (yld_ix (kd := .i64) (e := 33) (len := ltr.length) (cap := cc5) (i := (k : Int)) (size := 2) (A := AA5) hF rfl (by kernel_rfl) (by kernel_rfl) (by kernel_rfl) (by kernel_rfl) (by kernel_rfl) (roO 7 rfl) (by omega) (by omega) (by rw [flat2_length]; omega)) fun a w hF hM => ?_
          exact ⟨bb8, ((hF.repl 25 (by kernel_rfl)).cast (by kernel_rfl)), (hM.cast (by kernel_rfl))⟩
        · intro s0 s1 s2 s3 s4 s5 s6 s7 s8 s9 s10 s11 s12 s13 s14 s15 s16 s17 s18 s19 s20 s21 hc hi hp a w hS
          obtain rfl : s11 = false := hi
          obtain rfl : s10 = true := hp 10 (by kernel_rfl)
          obtain ⟨bb8, hF, hM⟩ := hS
          refine eP 85 (v0 := .pointer (some (ea AA5 (k * 2 + 1)))) (v := .pointer (some (ea AA5 (k * 2 + 1)))) hF (by kernel_rfl) (fun _ => by kernel_rfl) rfl fun a hF => ?_
          exact ⟨bb8, ((hF.repl 26 (by kernel_rfl)).cast (by kernel_rfl)), (hM.cast (by kernel_rfl))⟩
        · intro s0 s1 s2 s3 s4 s5 s6 s7 s8 s9 s10 s11 s12 s13 s14 s15 s16 s17 s18 s19 s20 s21 hc hi hp a w hS
          obtain rfl : s12 = false := hi
          obtain rfl : s11 = true := hp 11 (by kernel_rfl)
          obtain ⟨bb8, hF, hM⟩ := hS
          refine eM 86 (v := .int .i64 (pr ltr k).2) hF hM (by kernel_rfl) (yld_ro1 (A := AA5) (j := k * 2 + 1) hF rfl (by kernel_rfl) (by kernel_rfl) (roO 7 rfl) (by kernel_rfl) (pr_snd (k := k) (by omega) (by omega))) fun a w hF hM => ?_
          exact ⟨bb8, ((hF.repl 27 (by kernel_rfl)).cast (by kernel_rfl)), (hM.cast (by kernel_rfl))⟩
        · intro s0 s1 s2 s3 s4 s5 s6 s7 s8 s9 s10 s11 s12 s13 s14 s15 s16 s17 s18 s19 s20 s21 hc hi hp a w hS
          obtain rfl : s13 = false := hi
          obtain rfl : s12 = true := hp 12 (by kernel_rfl)
          obtain rfl : s7 = true := hp 7 (by kernel_rfl)
          obtain rfl : s2 = true := hp 2 (by kernel_rfl)
          obtain rfl : s1 = true := hp 1 (by kernel_rfl)
          obtain rfl : s0 = true := hp 0 (by kernel_rfl)
          obtain ⟨bb8, hF, hM⟩ := hS
          refine eM 87 (v := .tuple #[.int .i64 col, .agg #[.int .i64 (pr ltr k).1, .int .i64 mc, .int .i64 mp], .int .i64 0]) hF hM (by kernel_rfl) (yld_call (f := 15) (args := #[.agg #[.int .i64 pcb, .int .i64 pcr], .agg #[.int .i64 ppb, .int .i64 pps], .agg #[.int .i64 la, .int .i64 co, .int .i64 pe], .int .i64 (pr ltr k).1, .int .i64 (pr ltr k).2]) hF (by kernel_rfl) (fun _ => by kernel_rfl) (fun w hM => by rw [e_col, e_mc, e_mp]; exact meterMark_ok pcb pcr ppb pps la co pe (pr ltr k).1 (pr ltr k).2 w hmk)) fun a w hF hM => ?_
          exact ⟨bb8, ((hF.repl 28 (by kernel_rfl)).cast (by kernel_rfl)), (hM.cast (by kernel_rfl))⟩
        · intro s0 s1 s2 s3 s4 s5 s6 s7 s8 s9 s10 s11 s12 s13 s14 s15 s16 s17 s18 s19 s20 s21 hc hi hp a w hS
          obtain rfl : s14 = false := hi
          obtain rfl : s13 = true := hp 13 (by kernel_rfl)
          obtain ⟨bb8, hF, hM⟩ := hS
          refine eP 73 (v0 := .tuple #[.int .i64 col, .agg #[.int .i64 (pr ltr k).1, .int .i64 mc, .int .i64 mp], .int .i64 0]) (v := .tuple #[.int .i64 col, .agg #[.int .i64 (pr ltr k).1, .int .i64 mc, .int .i64 mp], .int .i64 0]) hF (by kernel_rfl) (fun _ => by kernel_rfl) rfl fun a hF => ?_
          exact ⟨bb8, ((hF.repl 14 (by kernel_rfl)).cast (by kernel_rfl)), (hM.cast (by kernel_rfl))⟩
        · intro s0 s1 s2 s3 s4 s5 s6 s7 s8 s9 s10 s11 s12 s13 s14 s15 s16 s17 s18 s19 s20 s21 hc hi hp a w hS
          obtain rfl : s15 = false := hi
          obtain rfl : s14 = true := hp 14 (by kernel_rfl)
          obtain ⟨bb8, hF, hM⟩ := hS
          refine eP 88 (v0 := .int .i64 col) (v := .int .i64 col) hF (by kernel_rfl) (fun _ => by kernel_rfl) rfl fun a hF => ?_
          exact ⟨bb8, ((hF.repl 29 (by kernel_rfl)).cast (by kernel_rfl)), (hM.cast (by kernel_rfl))⟩
        · intro s0 s1 s2 s3 s4 s5 s6 s7 s8 s9 s10 s11 s12 s13 s14 s15 s16 s17 s18 s19 s20 s21 hc hi hp a w hS
          obtain rfl : s16 = false := hi
          obtain rfl : s14 = true := hp 14 (by kernel_rfl)
          obtain ⟨bb8, hF, hM⟩ := hS
          refine eP 89 (v0 := .agg #[.int .i64 (pr ltr k).1, .int .i64 mc, .int .i64 mp]) (v := .agg #[.int .i64 (pr ltr k).1, .int .i64 mc, .int .i64 mp]) hF (by kernel_rfl) (fun _ => by kernel_rfl) rfl fun a hF => ?_
          exact ⟨bb8, ((hF.repl 30 (by kernel_rfl)).cast (by kernel_rfl)), (hM.cast (by kernel_rfl))⟩
        · intro s0 s1 s2 s3 s4 s5 s6 s7 s8 s9 s10 s11 s12 s13 s14 s15 s16 s17 s18 s19 s20 s21 hc hi hp a w hS
          obtain rfl : s17 = false := hi
          obtain rfl : s14 = true := hp 14 (by kernel_rfl)
          obtain ⟨bb8, hF, hM⟩ := hS
          refine eP 90 (v0 := .int .i64 0) (v := .int .i64 0) hF (by kernel_rfl) (fun _ => by kernel_rfl) rfl fun a hF => ?_
          exact ⟨bb8, ((hF.repl 31 (by kernel_rfl)).cast (by kernel_rfl)), (hM.cast (by kernel_rfl))⟩
        · intro s0 s1 s2 s3 s4 s5 s6 s7 s8 s9 s10 s11 s12 s13 s14 s15 s16 s17 s18 s19 s20 s21 hc hi hp a w hS
          obtain rfl : s18 = false := hi
          obtain rfl : s20 = false := hc.f 20 18 (by kernel_rfl) rfl
          obtain ⟨bb8, hF, hM⟩ := hS
          refine eN 16 10 (t := 31) (fun b => .pointer (some ⟨b, 0, none⟩)) #[.int .i64 0, .int .i64 0, .int .i64 0] hF hM (by kernel_rfl) (fun _ => by kernel_rfl) fun bb8 a w hF hM => ?_
          exact ⟨bb8, ((hF.repl 8 (by kernel_rfl)).cast (by kernel_rfl)), ((hM.repl 9 (by kernel_rfl)).cast (by kernel_rfl))⟩
        · intro s0 s1 s2 s3 s4 s5 s6 s7 s8 s9 s10 s11 s12 s13 s14 s15 s16 s17 s18 s19 s20 s21 hc hi hp a w hS
          obtain rfl : s19 = false := hi
          obtain rfl : s15 = true := hp 15 (by kernel_rfl)
          obtain ⟨bb8, hF, hM⟩ := hS
          refine eP 15 (v0 := .int .i64 col) (v := .int .i64 col) hF (by kernel_rfl) (fun _ => by kernel_rfl) rfl fun a hF => ?_
          exact ⟨bb8, ((hF.repl 7 (by kernel_rfl)).cast (by kernel_rfl)), (hM.cast (by kernel_rfl))⟩
        · intro s0 s1 s2 s3 s4 s5 s6 s7 s8 s9 s10 s11 s12 s13 s14 s15 s16 s17 s18 s19 s20 s21 hc hi hp a w hS
          obtain rfl : s20 = false := hi
          obtain rfl : s18 = true := hp 18 (by kernel_rfl)
          obtain rfl : s16 = true := hp 16 (by kernel_rfl)
          obtain ⟨bb8, hF, hM⟩ := hS
          refine sStore (i := 10) (off := 0) (cs' := #[.int .i64 (pr ltr k).1, .int .i64 mc, .int .i64 mp]) hF hM (by kernel_rfl) rfl rfl (by kernel_rfl) (by kernel_rfl) rfl (by kernel_rfl) fun w hM => ?_
          exact ⟨bb8, (hF.cast (by kernel_rfl)), ((hM.repl 9 (by kernel_rfl)).cast (by kernel_rfl))⟩
        · intro s0 s1 s2 s3 s4 s5 s6 s7 s8 s9 s10 s11 s12 s13 s14 s15 s16 s17 s18 s19 s20 s21 hc hi hp a w hS
          obtain rfl : s21 = false := hi
          obtain rfl : s17 = true := hp 17 (by kernel_rfl)
          obtain ⟨bb8, hF, hM⟩ := hS
          refine eP 17 (v0 := .int .i64 0) (v := .int .i64 0) hF (by kernel_rfl) (fun _ => by kernel_rfl) rfl fun a hF => ?_
          exact ⟨bb8, ((hF.repl 9 (by kernel_rfl)).cast (by kernel_rfl)), (hM.cast (by kernel_rfl))⟩
      · intro a w hS
        obtain ⟨bb8, hF, hM⟩ := hS
        replace hF : Fr 173 [(2, some (.int .u16 wt)), (7, some (.pointer (some ⟨bb3, 0, none⟩))), (8, some (.pointer (some ⟨bb4, 0, none⟩))), (9, some (.slice AA5 ltr.length cc5)), (10, some (.slice AA6 ltr.length cc6)), (12, some (.pointer (some ⟨bb7, 0, none⟩))), (14, some (.int .i64 (k : Int))), (15, some (.int .i64 col)), (16, some (.pointer (some ⟨bb8, 0, none⟩))), (17, some (.int .i64 0)), (67, some (.int .i64 (k : Int))), (68, some (.slice AA5 ltr.length cc5)), (69, some (.int .i64 (ltr.length : Int))), (70, some (.bool true)), (73, some (.tuple #[.int .i64 col, .agg #[.int .i64 (pr ltr k).1, .int .i64 mc, .int .i64 mp], .int .i64 0])), (74, some (.agg #[.int .i64 pcb, .int .i64 pcr])), (75, some (.agg #[.int .i64 ppb, .int .i64 pps])), (76, some (.agg #[.int .i64 la, .int .i64 co, .int .i64 pe])), (77, some (.slice AA5 ltr.length cc5)), (78, some (.int .i64 (k : Int))), (79, some (.pointer (some (ea AA5 (k * 2))))), (80, some (.pointer (some (ea AA5 (k * 2))))), (81, some (.int .i64 (pr ltr k).1)), (82, some (.slice AA5 ltr.length cc5)), (83, some (.int .i64 (k : Int))), (84, some (.pointer (some (ea AA5 (k * 2))))), (85, some (.pointer (some (ea AA5 (k * 2 + 1))))), (86, some (.int .i64 (pr ltr k).2)), (87, some (.tuple #[.int .i64 col, .agg #[.int .i64 (pr ltr k).1, .int .i64 mc, .int .i64 mp], .int .i64 0])), (88, some (.int .i64 col)), (89, some (.agg #[.int .i64 (pr ltr k).1, .int .i64 mc, .int .i64 mp])), (90, some (.int .i64 0))] a := hF.cast (by kernel_rfl)
        replace hM : Mem w0.heap.size w0 [(1, some (.ro Ga (gaps.map (Value.int .u16)))), (2, some (.ro Sa (sizes.map (Value.int .u16)))), (3, some (.row bb1 28 #[.int .u32 bu, .int .u32 ra, .slice Ga gaps.length cg, .slice Sa sizes.length cs])), (4, some (.row bb2 29 #[.int .u32 na, .int .u32 nb])), (5, some (.row bb3 23 #[.int .i64 pcb, .int .i64 pcr])), (6, some (.row bb4 23 #[.int .i64 ppb, .int .i64 pps])), (7, some (.own (.slice AA5 ltr.length cc5) 33 2 ltr.length (flat2 ltr))), (8, some (.own (.slice AA6 ltr.length cc6) 3 1 ltr.length ((mrunF pcb pcr ppb pps ltr).map (Value.int .i64)))), (9, some (.row bb7 31 #[.int .i64 la, .int .i64 co, .int .i64 pe])), (10, some (.row bb8 31 #[.int .i64 (pr ltr k).1, .int .i64 mc, .int .i64 mp]))] w := hM.cast (by kernel_rfl)
        refine hK16 _ _ ?_
        refine wp_seq_k fun K17 hK17 => ?_
        refine wp_seq_k fun K18 hK18 => ?_
        have hcc : col = nt (mrunF pcb pcr ppb pps ltr) k := by rw [e_col, (mk_unf hmk).1]; exact mrun_at (by assumption) (drop_pr (by omega)) (by assumption)
        have hmt : mtE pcb pcr ppb pps (pr ltr k).1 mc mp = 0 := mtE_zero hnew (by omega) (by omega) (by omega)
        refine rQ hM (by kernel_rfl) (by kernel_rfl) ?_
        refine eQ 91 (v0 := .int .i64 0) (v := .int .i64 0) hF (by kernel_rfl) (fun _ => by kernel_rfl) rfl fun a hF => ?_
        refine eQ 92 (v0 := .bool (!decide (0 = 0))) (v := .bool false) hF (by kernel_rfl) (fun _ => by kernel_rfl) (nT (by omega)) fun a hF => ?_
        refine eQ 93 (v0 := .bool false) (v := .bool false) hF (by kernel_rfl) (fun _ => by kernel_rfl) rfl fun a hF => ?_
        refine eQ 94 (v0 := .int .i64 col) (v := .int .i64 col) hF (by kernel_rfl) (fun _ => by kernel_rfl) rfl fun a hF => ?_
        refine eQ 95 (v0 := .slice AA6 ltr.length cc6) (v := .slice AA6 ltr.length cc6) hF (by kernel_rfl) (fun _ => by kernel_rfl) rfl fun a hF => ?_
        refine eQ 96 (v0 := .int .i64 (k : Int)) (v := .int .i64 (k : Int)) hF (by kernel_rfl) (fun _ => by kernel_rfl) rfl fun a hF => ?_
        refine eQ2 97 (v := .pointer (some (ea AA6 (k)))) hF (by kernel_rfl) (yld_ix (kd := .i64) (e := 3) (len := ltr.length) (cap := cc6) (i := (k : Int)) (size := 1) (A := AA6) hF rfl (by kernel_rfl) (by kernel_rfl) (by kernel_rfl) (by kernel_rfl) (by kernel_rfl) (roO 8 rfl) (by omega) (by omega) (by (try simp only [List.length_map, List.length_append, List.length_replicate, List.length_set, List.length_cons, List.length_nil, flat2_length, List.length_take]); omega)) fun a hF => ?_
        refine eQ2 98 (v := .int .i64 (nt (mrunF pcb pcr ppb pps ltr) k)) hF (by kernel_rfl) (yld_ro1 (A := AA6) (j := k) hF rfl (by kernel_rfl) (by kernel_rfl) (roO 8 rfl) (by kernel_rfl) (nt_at (by (try simp only [List.length_map, List.length_append, List.length_replicate, List.length_set, List.length_cons, List.length_nil, flat2_length, List.length_take]); omega))) fun a hF => ?_
        refine eQ 99 (v0 := .bool (!decide (col = nt (mrunF pcb pcr ppb pps ltr) k))) (v := .bool false) hF (by kernel_rfl) (fun _ => by kernel_rfl) (nT hcc) fun a hF => ?_
        refine eQ 100 (v0 := .bool false) (v := .bool false) hF (by kernel_rfl) (fun _ => by kernel_rfl) rfl fun a hF => ?_
        refine eQ 101 (v0 := .bool false) (v := .bool false) hF (by kernel_rfl) (fun _ => by kernel_rfl) rfl fun a hF => ?_
        refine eQ 102 (v0 := .pointer (some ⟨bb8, 0, none⟩)) (v := .pointer (some ⟨bb8, 0, none⟩)) hF (by kernel_rfl) (fun _ => by kernel_rfl) rfl fun a hF => ?_
        refine eQL 103 10 0 (v := .int .i64 (pr ltr k).1) hF (by kernel_rfl) rfl rfl (by kernel_rfl) (by kernel_rfl) fun a hF => ?_
        refine eQ 104 (v0 := .slice AA5 ltr.length cc5) (v := .slice AA5 ltr.length cc5) hF (by kernel_rfl) (fun _ => by kernel_rfl) rfl fun a hF => ?_
        refine eQ 105 (v0 := .int .i64 (k : Int)) (v := .int .i64 (k : Int)) hF (by kernel_rfl) (fun _ => by kernel_rfl) rfl fun a hF => ?_
        refine eQ2 106 (v := .pointer (some (ea AA5 (k * 2)))) hF (by kernel_rfl) (yld_ix (kd := .i64) (e := 33) (len := ltr.length) (cap := cc5) (i := (k : Int)) (size := 2) (A := AA5) hF rfl (by kernel_rfl) (by kernel_rfl) (by kernel_rfl) (by kernel_rfl) (by kernel_rfl) (roO 7 rfl) (by omega) (by omega) (by rw [flat2_length]; omega)) fun a hF => ?_
        refine eQ 107 (v0 := .pointer (some (ea AA5 (k * 2)))) (v := .pointer (some (ea AA5 (k * 2)))) hF (by kernel_rfl) (fun _ => by kernel_rfl) rfl fun a hF => ?_
        refine eQ2 108 (v := .int .i64 (pr ltr k).1) hF (by kernel_rfl) (yld_ro1 (A := AA5) (j := k * 2) hF rfl (by kernel_rfl) (by kernel_rfl) (roO 7 rfl) (by kernel_rfl) (pr_fst (k := k) (by omega) (by omega))) fun a hF => ?_
        refine eQ 109 (v0 := .bool (!decide ((pr ltr k).1 = (pr ltr k).1))) (v := .bool false) hF (by kernel_rfl) (fun _ => by kernel_rfl) (nT (by omega)) fun a hF => ?_
        refine eQ 110 (v0 := .bool false) (v := .bool false) hF (by kernel_rfl) (fun _ => by kernel_rfl) rfl fun a hF => ?_
        refine eQ 111 (v0 := .bool false) (v := .bool false) hF (by kernel_rfl) (fun _ => by kernel_rfl) rfl fun a hF => ?_
        refine eQL 112 5 0 (v := .agg #[.int .i64 pcb, .int .i64 pcr]) hF (by kernel_rfl) rfl rfl (by kernel_rfl) (by kernel_rfl) fun a hF => ?_
        refine eQL 113 6 0 (v := .agg #[.int .i64 ppb, .int .i64 pps]) hF (by kernel_rfl) rfl rfl (by kernel_rfl) (by kernel_rfl) fun a hF => ?_
        refine eQL 114 10 0 (v := .agg #[.int .i64 (pr ltr k).1, .int .i64 mc, .int .i64 mp]) hF (by kernel_rfl) rfl rfl (by kernel_rfl) (by kernel_rfl) fun a hF => ?_
        refine eQ2 115 (v := .int .i64 (mtE pcb pcr ppb pps (pr ltr k).1 mc mp)) hF (by kernel_rfl) (yld_call (f := 13) (args := #[.agg #[.int .i64 pcb, .int .i64 pcr], .agg #[.int .i64 ppb, .int .i64 pps], .agg #[.int .i64 (pr ltr k).1, .int .i64 mc, .int .i64 mp]]) hF (by kernel_rfl) (fun _ => by kernel_rfl) (fun w hM => meterCheck_w pcb pcr ppb pps (pr ltr k).1 mc mp w)) fun a hF => ?_
        refine eQ 116 (v0 := .bool (!decide (mtE pcb pcr ppb pps (pr ltr k).1 mc mp = 0))) (v := .bool false) hF (by kernel_rfl) (fun _ => by kernel_rfl) (nT hmt) fun a hF => ?_
        refine eQ 117 (v0 := .bool false) (v := .bool false) hF (by kernel_rfl) (fun _ => by kernel_rfl) rfl fun a hF => ?_
        refine wpQuiet_nil ?_
        intro w hM
        refine hK18 _ _ ?_
        refine cF hF (by kernel_rfl) (by kernel_rfl) ?_
        refine wp_skip ?_
        refine hK17 _ _ ?_
        refine wp_seq_k fun K19 hK19 => ?_
        refine wp_region_lit ?_
        refine wl (eL 118 10 0 (v := .agg #[.int .i64 (pr ltr k).1, .int .i64 mc, .int .i64 mp]) hF hM (by kernel_rfl) rfl rfl (by kernel_rfl) (by kernel_rfl) fun a w hF hM => ?_)
        refine wl (sStore (i := 9) (off := 0) (cs' := #[.int .i64 (pr ltr k).1, .int .i64 mc, .int .i64 mp]) hF hM (by kernel_rfl) rfl rfl (by kernel_rfl) (by kernel_rfl) rfl (by kernel_rfl) fun w hM => ?_)
        refine wpList_nil ?_
        refine hK19 _ _ ?_
        refine wp_seq_k fun K20 hK20 => ?_
        have hmk2 : mkE pcb pcr ppb pps (pr ltr k).1 mc mp ((pr ltr k).1 + wt) 1048576 = 0 := mkE_zero hnew (by omega) (by omega) (by omega) (by omega)
        refine wp_region_lit ?_
        refine wl (eL 120 5 0 (v := .agg #[.int .i64 pcb, .int .i64 pcr]) hF hM (by kernel_rfl) rfl rfl (by kernel_rfl) (by kernel_rfl) fun a w hF hM => ?_)
        refine wl (eL 121 6 0 (v := .agg #[.int .i64 ppb, .int .i64 pps]) hF hM (by kernel_rfl) rfl rfl (by kernel_rfl) (by kernel_rfl) fun a w hF hM => ?_)
        refine wl (eL 122 9 0 (v := .agg #[.int .i64 (pr ltr k).1, .int .i64 mc, .int .i64 mp]) hF hM (by kernel_rfl) rfl rfl (by kernel_rfl) (by kernel_rfl) fun a w hF hM => ?_)
        refine sB 1 [(123, .pointer (some ⟨bb7, 0, none⟩))] hF (by kernel_rfl) fun a hF => ?_
        refine wl (eL 124 9 0 (v := .int .i64 (pr ltr k).1) hF hM (by kernel_rfl) rfl rfl (by kernel_rfl) (by kernel_rfl) fun a w hF hM => ?_)
        refine sB 1 [(125, .int .u16 wt)] hF (by kernel_rfl) fun a hF => ?_
        refine wl (eP 126 (v0 := .int .i64 (IntKind.i64.wrap wt)) (v := .int .i64 wt) hF (by kernel_rfl) (fun _ => by kernel_rfl) (vi (IntWalk.i64_in _ (by omega))) fun a hF => ?_)
        refine wl (eP 127 (v0 := .int .i64 (IntKind.i64.wrap ((pr ltr k).1 + wt))) (v := .int .i64 ((pr ltr k).1 + wt)) hF (by kernel_rfl) (fun _ => by kernel_rfl) (wi (by omega)) fun a hF => ?_)
        obtain ⟨col_2, e_col_2⟩ : ∃ x : Int, x = mkCol pcb pcr ppb pps (pr ltr k).1 mc mp ((pr ltr k).1 + wt) 1048576 := ⟨_, rfl⟩
        obtain ⟨mc_2, e_mc_2⟩ : ∃ x : Int, x = mkC pcb pcr ppb pps (pr ltr k).1 mc mp ((pr ltr k).1 + wt) 1048576 := ⟨_, rfl⟩
        obtain ⟨mp_2, e_mp_2⟩ : ∃ x : Int, x = mkP pcb pcr ppb pps (pr ltr k).1 mc mp ((pr ltr k).1 + wt) 1048576 := ⟨_, rfl⟩
        have bd_col_2 := mk_bd hmk2
        rw [← e_mc_2, ← e_mp_2, ← e_col_2] at bd_col_2
        refine wl (eM 128 (v := .tuple #[.int .i64 col_2, .agg #[.int .i64 ((pr ltr k).1 + wt), .int .i64 mc_2, .int .i64 mp_2], .int .i64 0]) hF hM (by kernel_rfl) (yld_call (f := 15) (args := #[.agg #[.int .i64 pcb, .int .i64 pcr], .agg #[.int .i64 ppb, .int .i64 pps], .agg #[.int .i64 (pr ltr k).1, .int .i64 mc, .int .i64 mp], .int .i64 ((pr ltr k).1 + wt), .int .i64 1048576]) hF (by kernel_rfl) (fun _ => by kernel_rfl) (fun w hM => by rw [e_col_2, e_mc_2, e_mp_2]; exact meterMark_ok pcb pcr ppb pps (pr ltr k).1 mc mp ((pr ltr k).1 + wt) 1048576 w hmk2)) fun a w hF hM => ?_)
        refine sB 4 [(119, .tuple #[.int .i64 col_2, .agg #[.int .i64 ((pr ltr k).1 + wt), .int .i64 mc_2, .int .i64 mp_2], .int .i64 0]), (129, .int .i64 col_2), (130, .agg #[.int .i64 ((pr ltr k).1 + wt), .int .i64 mc_2, .int .i64 mp_2]), (131, .int .i64 0)] hF (by kernel_rfl) fun a hF => ?_
        refine wl (eN 19 11 (t := 31) (fun b => .pointer (some ⟨b, 0, none⟩)) #[.int .i64 0, .int .i64 0, .int .i64 0] hF hM (by kernel_rfl) (fun _ => by kernel_rfl) fun bb9 a w hF hM => ?_)
        refine sB 1 [(18, .int .i64 col_2)] hF (by kernel_rfl) fun a hF => ?_
        refine wl (sStore (i := 11) (off := 0) (cs' := #[.int .i64 ((pr ltr k).1 + wt), .int .i64 mc_2, .int .i64 mp_2]) hF hM (by kernel_rfl) rfl rfl (by kernel_rfl) (by kernel_rfl) rfl (by kernel_rfl) fun w hM => ?_)
        refine sB 1 [(20, .int .i64 0)] hF (by kernel_rfl) fun a hF => ?_
        refine wpList_nil ?_
        refine hK20 _ _ ?_
        refine wp_seq_k fun K21 hK21 => ?_
        refine wp_seq_k fun K22 hK22 => ?_
        refine wp_region_lit ?_
        refine sB 1 [(132, .int .i64 0)] hF (by kernel_rfl) fun a hF => ?_
        refine wl (eP 133 (v0 := .bool (!decide (0 = 0))) (v := .bool false) hF (by kernel_rfl) (fun _ => by kernel_rfl) (nT (by omega)) fun a hF => ?_)
        refine wpList_nil ?_
        refine hK22 _ _ ?_
        refine cF hF (by kernel_rfl) (by kernel_rfl) ?_
        refine wp_skip ?_
        refine hK21 _ _ ?_
        refine wp_seq_k fun K23 hK23 => ?_
        refine wp_region_lit ?_
        refine sB 2 [(134, .int .i64 col_2), (135, .bool (decide (col_2 = 2)))] hF (by kernel_rfl) fun a hF => ?_
        refine wpList_nil ?_
        refine hK23 _ _ ?_
        by_cases hz12 : col_2 = 2
        · skip
          have hF := hF.c hF (i := 135) (v := .bool true) rfl (bT hz12)
          refine cT hF (by kernel_rfl) (by kernel_rfl) ?_
          refine wp_seq_k fun K24 hK24 => ?_
          have hmk3 : mkE pcb pcr ppb pps ((pr ltr k).1 + wt) mc_2 mp_2 ((pr ltr k).1 + wt + wt) 1 = 0 := mkE_zero hnew (by omega) (by omega) (by omega) (by omega)
          refine wp_region_lit ?_
          refine wl (eL 137 5 0 (v := .agg #[.int .i64 pcb, .int .i64 pcr]) hF hM (by kernel_rfl) rfl rfl (by kernel_rfl) (by kernel_rfl) fun a w hF hM => ?_)
          refine wl (eL 138 6 0 (v := .agg #[.int .i64 ppb, .int .i64 pps]) hF hM (by kernel_rfl) rfl rfl (by kernel_rfl) (by kernel_rfl) fun a w hF hM => ?_)
          refine wl (eL 139 11 0 (v := .agg #[.int .i64 ((pr ltr k).1 + wt), .int .i64 mc_2, .int .i64 mp_2]) hF hM (by kernel_rfl) rfl rfl (by kernel_rfl) (by kernel_rfl) fun a w hF hM => ?_)
          refine sB 1 [(140, .pointer (some ⟨bb9, 0, none⟩))] hF (by kernel_rfl) fun a hF => ?_
          refine wl (eL 141 11 0 (v := .int .i64 ((pr ltr k).1 + wt)) hF hM (by kernel_rfl) rfl rfl (by kernel_rfl) (by kernel_rfl) fun a w hF hM => ?_)
          refine sB 1 [(142, .int .u16 wt)] hF (by kernel_rfl) fun a hF => ?_
          refine wl (eP 143 (v0 := .int .i64 (IntKind.i64.wrap wt)) (v := .int .i64 wt) hF (by kernel_rfl) (fun _ => by kernel_rfl) (vi (IntWalk.i64_in _ (by omega))) fun a hF => ?_)
          refine wl (eP 144 (v0 := .int .i64 (IntKind.i64.wrap ((pr ltr k).1 + wt + wt))) (v := .int .i64 ((pr ltr k).1 + wt + wt)) hF (by kernel_rfl) (fun _ => by kernel_rfl) (wi (by omega)) fun a hF => ?_)
          obtain ⟨col_3, e_col_3⟩ : ∃ x : Int, x = mkCol pcb pcr ppb pps ((pr ltr k).1 + wt) mc_2 mp_2 ((pr ltr k).1 + wt + wt) 1 := ⟨_, rfl⟩
          obtain ⟨mc_3, e_mc_3⟩ : ∃ x : Int, x = mkC pcb pcr ppb pps ((pr ltr k).1 + wt) mc_2 mp_2 ((pr ltr k).1 + wt + wt) 1 := ⟨_, rfl⟩
          obtain ⟨mp_3, e_mp_3⟩ : ∃ x : Int, x = mkP pcb pcr ppb pps ((pr ltr k).1 + wt) mc_2 mp_2 ((pr ltr k).1 + wt + wt) 1 := ⟨_, rfl⟩
          have bd_col_3 := mk_bd hmk3
          rw [← e_mc_3, ← e_mp_3, ← e_col_3] at bd_col_3
          refine wl (eM 145 (v := .tuple #[.int .i64 col_3, .agg #[.int .i64 ((pr ltr k).1 + wt + wt), .int .i64 mc_3, .int .i64 mp_3], .int .i64 0]) hF hM (by kernel_rfl) (yld_call (f := 15) (args := #[.agg #[.int .i64 pcb, .int .i64 pcr], .agg #[.int .i64 ppb, .int .i64 pps], .agg #[.int .i64 ((pr ltr k).1 + wt), .int .i64 mc_2, .int .i64 mp_2], .int .i64 ((pr ltr k).1 + wt + wt), .int .i64 1]) hF (by kernel_rfl) (fun _ => by kernel_rfl) (fun w hM => by rw [e_col_3, e_mc_3, e_mp_3]; exact meterMark_ok pcb pcr ppb pps ((pr ltr k).1 + wt) mc_2 mp_2 ((pr ltr k).1 + wt + wt) 1 w hmk3)) fun a w hF hM => ?_)
          refine sB 4 [(136, .tuple #[.int .i64 col_3, .agg #[.int .i64 ((pr ltr k).1 + wt + wt), .int .i64 mc_3, .int .i64 mp_3], .int .i64 0]), (146, .int .i64 col_3), (147, .agg #[.int .i64 ((pr ltr k).1 + wt + wt), .int .i64 mc_3, .int .i64 mp_3]), (148, .int .i64 0)] hF (by kernel_rfl) fun a hF => ?_
          refine wl (eN 22 12 (t := 31) (fun b => .pointer (some ⟨b, 0, none⟩)) #[.int .i64 0, .int .i64 0, .int .i64 0] hF hM (by kernel_rfl) (fun _ => by kernel_rfl) fun bb10 a w hF hM => ?_)
          refine sB 1 [(21, .int .i64 col_3)] hF (by kernel_rfl) fun a hF => ?_
          refine wl (sStore (i := 12) (off := 0) (cs' := #[.int .i64 ((pr ltr k).1 + wt + wt), .int .i64 mc_3, .int .i64 mp_3]) hF hM (by kernel_rfl) rfl rfl (by kernel_rfl) (by kernel_rfl) rfl (by kernel_rfl) fun w hM => ?_)
          refine sB 1 [(23, .int .i64 0)] hF (by kernel_rfl) fun a hF => ?_
          refine wpList_nil ?_
          refine hK24 _ _ ?_
          refine wp_seq_k fun K25 hK25 => ?_
          have hmk4 : mkE pcb pcr ppb pps (pr ltr k).1 mc mp ((pr ltr k).1 + wt + wt) 1 = 0 := mkE_zero hnew (by omega) (by omega) (by omega) (by omega)
          refine wp_region_lit ?_
          refine wl (eL 150 5 0 (v := .agg #[.int .i64 pcb, .int .i64 pcr]) hF hM (by kernel_rfl) rfl rfl (by kernel_rfl) (by kernel_rfl) fun a w hF hM => ?_)
          refine wl (eL 151 6 0 (v := .agg #[.int .i64 ppb, .int .i64 pps]) hF hM (by kernel_rfl) rfl rfl (by kernel_rfl) (by kernel_rfl) fun a w hF hM => ?_)
          refine wl (eL 152 9 0 (v := .agg #[.int .i64 (pr ltr k).1, .int .i64 mc, .int .i64 mp]) hF hM (by kernel_rfl) rfl rfl (by kernel_rfl) (by kernel_rfl) fun a w hF hM => ?_)
          refine sB 1 [(153, .pointer (some ⟨bb9, 0, none⟩))] hF (by kernel_rfl) fun a hF => ?_
          refine wl (eL 154 11 0 (v := .int .i64 ((pr ltr k).1 + wt)) hF hM (by kernel_rfl) rfl rfl (by kernel_rfl) (by kernel_rfl) fun a w hF hM => ?_)
          refine sB 1 [(155, .int .u16 wt)] hF (by kernel_rfl) fun a hF => ?_
          refine wl (eP 156 (v0 := .int .i64 (IntKind.i64.wrap wt)) (v := .int .i64 wt) hF (by kernel_rfl) (fun _ => by kernel_rfl) (vi (IntWalk.i64_in _ (by omega))) fun a hF => ?_)
          refine wl (eP 157 (v0 := .int .i64 (IntKind.i64.wrap ((pr ltr k).1 + wt + wt))) (v := .int .i64 ((pr ltr k).1 + wt + wt)) hF (by kernel_rfl) (fun _ => by kernel_rfl) (wi (by omega)) fun a hF => ?_)
          obtain ⟨col_4, e_col_4⟩ : ∃ x : Int, x = mkCol pcb pcr ppb pps (pr ltr k).1 mc mp ((pr ltr k).1 + wt + wt) 1 := ⟨_, rfl⟩
          obtain ⟨mc_4, e_mc_4⟩ : ∃ x : Int, x = mkC pcb pcr ppb pps (pr ltr k).1 mc mp ((pr ltr k).1 + wt + wt) 1 := ⟨_, rfl⟩
          obtain ⟨mp_4, e_mp_4⟩ : ∃ x : Int, x = mkP pcb pcr ppb pps (pr ltr k).1 mc mp ((pr ltr k).1 + wt + wt) 1 := ⟨_, rfl⟩
          have bd_col_4 := mk_bd hmk4
          rw [← e_mc_4, ← e_mp_4, ← e_col_4] at bd_col_4
          refine wl (eM 158 (v := .tuple #[.int .i64 col_4, .agg #[.int .i64 ((pr ltr k).1 + wt + wt), .int .i64 mc_4, .int .i64 mp_4], .int .i64 0]) hF hM (by kernel_rfl) (yld_call (f := 15) (args := #[.agg #[.int .i64 pcb, .int .i64 pcr], .agg #[.int .i64 ppb, .int .i64 pps], .agg #[.int .i64 (pr ltr k).1, .int .i64 mc, .int .i64 mp], .int .i64 ((pr ltr k).1 + wt + wt), .int .i64 1]) hF (by kernel_rfl) (fun _ => by kernel_rfl) (fun w hM => by rw [e_col_4, e_mc_4, e_mp_4]; exact meterMark_ok pcb pcr ppb pps (pr ltr k).1 mc mp ((pr ltr k).1 + wt + wt) 1 w hmk4)) fun a w hF hM => ?_)
          refine sB 4 [(149, .tuple #[.int .i64 col_4, .agg #[.int .i64 ((pr ltr k).1 + wt + wt), .int .i64 mc_4, .int .i64 mp_4], .int .i64 0]), (159, .int .i64 col_4), (160, .agg #[.int .i64 ((pr ltr k).1 + wt + wt), .int .i64 mc_4, .int .i64 mp_4]), (161, .int .i64 0)] hF (by kernel_rfl) fun a hF => ?_
          refine wl (eN 25 13 (t := 31) (fun b => .pointer (some ⟨b, 0, none⟩)) #[.int .i64 0, .int .i64 0, .int .i64 0] hF hM (by kernel_rfl) (fun _ => by kernel_rfl) fun bb11 a w hF hM => ?_)
          refine sB 1 [(24, .int .i64 col_4)] hF (by kernel_rfl) fun a hF => ?_
          refine wl (sStore (i := 13) (off := 0) (cs' := #[.int .i64 ((pr ltr k).1 + wt + wt), .int .i64 mc_4, .int .i64 mp_4]) hF hM (by kernel_rfl) rfl rfl (by kernel_rfl) (by kernel_rfl) rfl (by kernel_rfl) fun w hM => ?_)
          refine sB 1 [(26, .int .i64 0)] hF (by kernel_rfl) fun a hF => ?_
          refine wpList_nil ?_
          refine hK25 _ _ ?_
          refine wp_seq_k fun K26 hK26 => ?_
          have hab : [(pr ltr k).1 + wt + wt, mc_3, mp_3] = [(pr ltr k).1 + wt + wt, mc_4, mp_4] := by
            have q := mk_wait hmk2 (by rw [← e_col_2]; assumption) (by omega) (by rw [← e_mc_2, ← e_mp_2]; exact hmk3) hmk4
            rw [← e_mc_2, ← e_mp_2] at q
            rw [e_mc_3, e_mp_3, e_mc_4, e_mp_4, q.1, q.2]
          refine wp_region_lit ?_
          refine sB 1 [(162, .int .i64 0)] hF (by kernel_rfl) fun a hF => ?_
          refine wl (eP 163 (v0 := .bool (!decide (0 = 0))) (v := .bool false) hF (by kernel_rfl) (fun _ => by kernel_rfl) (nT (by omega)) fun a hF => ?_)
          refine sB 2 [(164, .bool false), (165, .int .i64 0)] hF (by kernel_rfl) fun a hF => ?_
          refine wl (eP 166 (v0 := .bool (!decide (0 = 0))) (v := .bool false) hF (by kernel_rfl) (fun _ => by kernel_rfl) (nT (by omega)) fun a hF => ?_)
          refine sB 2 [(167, .bool false), (168, .bool false)] hF (by kernel_rfl) fun a hF => ?_
          refine wl (eL 169 12 0 (v := .agg #[.int .i64 ((pr ltr k).1 + wt + wt), .int .i64 mc_3, .int .i64 mp_3]) hF hM (by kernel_rfl) rfl rfl (by kernel_rfl) (by kernel_rfl) fun a w hF hM => ?_)
          refine wl (eL 170 13 0 (v := .agg #[.int .i64 ((pr ltr k).1 + wt + wt), .int .i64 mc_4, .int .i64 mp_4]) hF hM (by kernel_rfl) rfl rfl (by kernel_rfl) (by kernel_rfl) fun a w hF hM => ?_)
          refine wl (eM 171 (v := .bool false) hF hM (by kernel_rfl) ((yld_neq (C := Mem _ _ _) [(pr ltr k).1 + wt + wt, mc_3, mp_3] [(pr ltr k).1 + wt + wt, mc_4, mp_4] hF rfl (by kernel_rfl) (by kernel_rfl) (by kernel_rfl) rfl (by kernel_rfl) (by kernel_rfl) (by kernel_rfl) rfl rfl).to (nT hab)) fun a w hF hM => ?_)
          refine sB 1 [(172, .bool false)] hF (by kernel_rfl) fun a hF => ?_
          refine wpList_nil ?_
          refine hK26 _ _ ?_
          refine cF hF (by kernel_rfl) (by kernel_rfl) ?_
          refine wp_skip ?_
          refine hK15 _ _ ?_
          refine wp_region_lit ?_
          refine sB 1 [(71, .int .i64 (k : Int))] hF (by kernel_rfl) fun a hF => ?_
          refine wl (eP 72 (v0 := .int .i64 (IntKind.i64.wrap ((k : Int) + 1))) (v := .int .i64 ((k : Int) + 1)) hF (by kernel_rfl) (fun _ => by kernel_rfl) (wi (by omega)) fun a hF => ?_)
          refine sB 1 [(14, .int .i64 ((k : Int) + 1))] hF (by kernel_rfl) fun a hF => ?_
          refine wpList_nil ?_
          refine hK12 _ _ ⟨(k + 1, (pr ltr k).1, mc, mp, cl ++ [col]), ⟨((((((((Fr.nil hF).c hF (i := 12) rfl rfl).c hF (i := 10) rfl rfl).c hF (i := 9) rfl rfl).c hF (i := 8) rfl rfl).c hF (i := 7) rfl rfl).c hF (i := 2) rfl rfl).c hF (i := 14) rfl (vi (show ((k : Int) + 1 : Int) = ((k + 1) : Int) from by omega))), (hM.sub (((((((((Sub.nil.c (k := 9) rfl rfl).c (k := 8) rfl rfl).c (k := 7) rfl rfl).c (k := 6) rfl rfl).c (k := 5) rfl rfl).c (k := 4) rfl rfl).c (k := 3) rfl rfl).c (k := 2) rfl rfl).c (k := 1) rfl rfl)), (show ((k + 1) : Int) ≤ (ltr.length : Int) from by omega), (show mrun pcb pcr ppb pps 0 (pcb * 1048576) (ppb * 1048576) ltr = (cl ++ [col]) ++ mrun pcb pcr ppb pps (pr ltr k).1 mc mp (ltr.drop (k + 1)) from by exact mrun_step (drop_pr (by omega)) (by assumption) (by rw [e_col]; exact (mk_unf hmk).1.symm) (by rw [e_mc, e_col]; exact (mk_unf hmk).2.1) (by rw [e_mp, e_col]; exact (mk_unf hmk).2.2)), (show (cl ++ [col]).length = (k + 1) from by simp; omega), (show trOk (pr ltr k).1 (ltr.drop (k + 1)) = true from by exact hq.2.2.2.2), (show 0 ≤ (pr ltr k).1 from by omega), (show (pr ltr k).1 ≤ 1966050 from by omega), (show 0 ≤ mc from by omega), (show mc ≤ pcb * 1048576 from by omega), (show 0 ≤ mp from by omega), (show mp ≤ ppb * 1048576 from by omega)⟩, (show ltr.length - (k + 1) < ltr.length - k from by omega)⟩
        · skip
          have hF := hF.c hF (i := 135) (v := .bool false) rfl (bF hz12)
          refine cF hF (by kernel_rfl) (by kernel_rfl) ?_
          refine wp_skip ?_
          refine hK15 _ _ ?_
          refine wp_region_lit ?_
          refine sB 1 [(71, .int .i64 (k : Int))] hF (by kernel_rfl) fun a hF => ?_
          refine wl (eP 72 (v0 := .int .i64 (IntKind.i64.wrap ((k : Int) + 1))) (v := .int .i64 ((k : Int) + 1)) hF (by kernel_rfl) (fun _ => by kernel_rfl) (wi (by omega)) fun a hF => ?_)
          refine sB 1 [(14, .int .i64 ((k : Int) + 1))] hF (by kernel_rfl) fun a hF => ?_
          refine wpList_nil ?_
          refine hK12 _ _ ⟨(k + 1, (pr ltr k).1, mc, mp, cl ++ [col]), ⟨((((((((Fr.nil hF).c hF (i := 12) rfl rfl).c hF (i := 10) rfl rfl).c hF (i := 9) rfl rfl).c hF (i := 8) rfl rfl).c hF (i := 7) rfl rfl).c hF (i := 2) rfl rfl).c hF (i := 14) rfl (vi (show ((k : Int) + 1 : Int) = ((k + 1) : Int) from by omega))), (hM.sub (((((((((Sub.nil.c (k := 9) rfl rfl).c (k := 8) rfl rfl).c (k := 7) rfl rfl).c (k := 6) rfl rfl).c (k := 5) rfl rfl).c (k := 4) rfl rfl).c (k := 3) rfl rfl).c (k := 2) rfl rfl).c (k := 1) rfl rfl)), (show ((k + 1) : Int) ≤ (ltr.length : Int) from by omega), (show mrun pcb pcr ppb pps 0 (pcb * 1048576) (ppb * 1048576) ltr = (cl ++ [col]) ++ mrun pcb pcr ppb pps (pr ltr k).1 mc mp (ltr.drop (k + 1)) from by exact mrun_step (drop_pr (by omega)) (by assumption) (by rw [e_col]; exact (mk_unf hmk).1.symm) (by rw [e_mc, e_col]; exact (mk_unf hmk).2.1) (by rw [e_mp, e_col]; exact (mk_unf hmk).2.2)), (show (cl ++ [col]).length = (k + 1) from by simp; omega), (show trOk (pr ltr k).1 (ltr.drop (k + 1)) = true from by exact hq.2.2.2.2), (show 0 ≤ (pr ltr k).1 from by omega), (show (pr ltr k).1 ≤ 1966050 from by omega), (show 0 ≤ mc from by omega), (show mc ≤ pcb * 1048576 from by omega), (show 0 ≤ mp from by omega), (show mp ≤ ppb * 1048576 from by omega)⟩, (show ltr.length - (k + 1) < ltr.length - k from by omega)⟩
    · skip
      have hF := hF.c hF (i := 70) (v := .bool false) rfl (bF hz11)
      refine cF hF (by kernel_rfl) (by kernel_rfl) ?_
      refine wp_exit ?_
      refine hK10 _ _ ?_
      refine wp_seq_k fun K27 hK27 => ?_
      refine wp_region_lit ?_
      refine sB 1 [(6, .bool true)] hF (by kernel_rfl) fun a hF => ?_
      refine wpList_nil ?_
      refine hK27 _ _ ?_
      refine wp_ret ?_
      refine hR0 _ _ ?_
      refine ret_of hF hM (.tmp rfl (.nil)) ?_
      exact ⟨rfl, hM.bel⟩

end Go.Proofs.Ytncllmponigkgaa
