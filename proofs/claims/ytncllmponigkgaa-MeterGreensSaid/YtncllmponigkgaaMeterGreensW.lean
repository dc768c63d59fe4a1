/-
  The walk of MeterGreens.
-/
import Derived.Test.YtncllmponigkgaaMeterG
namespace Go.Proofs.Ytncllmponigkgaa
open Go.RowKit
set_option linter.unusedVariables false
set_option linter.unusedSimpArgs false

set_option maxRecDepth 100000 in
set_option maxHeartbeats 4000000 in
theorem meterGreens_walk (bu ra : Int) (Ga : Option Addr) (gaps : List Int) (cg : Nat) (Sa : Option Addr) (sizes : List Int) (cs : Nat) (na nb : Int) (w0 : World) (hGa : Ro w0 Ga (gaps.map (Value.int .u16))) (hSa : Ro w0 Sa (sizes.map (Value.int .u16))) (hg : All16 gaps) (hs : All16 sizes) (hmg : gaps.length ≤ 9223372036854775807) (hms : sizes.length ≤ 9223372036854775807) (h : 0 ≤ bu ∧ bu < 4294967296 ∧ 0 ≤ ra ∧ ra < 4294967296 ∧ 0 ≤ na ∧ na < 4294967296 ∧ 0 ≤ nb ∧ nb < 4294967296) :
    Calls Try.prog 7 #[.agg #[.int .u32 bu, .int .u32 ra, .slice Ga gaps.length cg, .slice Sa sizes.length cs], .agg #[.int .u32 na, .int .u32 nb]] w0 (Ret w0 (.bool true)) := by
  refine enterK 96 Try.func7 rfl rfl rfl ?_
  intro a hF Q0 hR0 hN0
  have hM := Mem.start w0
  replace hM := hM.addOld 1 hGa (Nat.le_refl _)
  replace hM := hM.addOld 2 hSa (Nat.le_refl _)
  refine wp_seq_k fun K1 hK1 => ?_
  refine wp_region_lit ?_
  refine wl (eN 2 3 (t := 28) (fun b => .pointer (some ⟨b, 0, none⟩)) #[.int .u32 bu, .int .u32 ra, .slice Ga gaps.length cg, .slice Sa sizes.length cs] hF hM (by kernel_rfl) (fun _ => by kernel_rfl) fun bb1 a w hF hM => ?_)
  refine wl (eN 3 4 (t := 29) (fun b => .pointer (some ⟨b, 0, none⟩)) #[.int .u32 na, .int .u32 nb] hF hM (by kernel_rfl) (fun _ => by kernel_rfl) fun bb2 a w hF hM => ?_)
  refine sB 1 [(4, .bool false)] hF (by kernel_rfl) fun a hF => ?_
  refine wpList_nil ?_
  refine hK1 _ _ ?_
  refine wp_seq_k fun K2 hK2 => ?_
  refine wp_seq_k fun K3 hK3 => ?_
  refine wp_region_lit ?_
  refine wl (eM 15 (v := .bool true) hF hM (by kernel_rfl) (yld_call (f := 17) (args := #[]) hF (by kernel_rfl) (fun _ => by kernel_rfl) (fun w hM => works_w w)) fun a w hF hM => ?_)
  refine sB 1 [(16, .bool false)] hF (by kernel_rfl) fun a hF => ?_
  refine wpList_nil ?_
  refine hK3 _ _ ?_
  refine cF hF (by kernel_rfl) (by kernel_rfl) ?_
  refine wp_skip ?_
  refine hK2 _ _ ?_
  refine wp_seq_k fun K4 hK4 => ?_
  refine wp_region_lit ?_
  refine wl (eL 18 3 0 (v := .agg #[.int .u32 bu, .int .u32 ra, .slice Ga gaps.length cg, .slice Sa sizes.length cs]) hF hM (by kernel_rfl) rfl rfl (by kernel_rfl) (by kernel_rfl) fun a w hF hM => ?_)
  refine sB 1 [(19, .pointer (some ⟨bb2, 0, none⟩))] hF (by kernel_rfl) fun a hF => ?_
  refine wl (eL 20 4 0 (v := .int .u32 na) hF hM (by kernel_rfl) rfl rfl (by kernel_rfl) (by kernel_rfl) fun a w hF hM => ?_)
  refine wl (eP 21 (v0 := .int .u16 (IntKind.u16.wrap na)) (v := .int .u16 (na % 65536)) hF (by kernel_rfl) (fun _ => by kernel_rfl) (vi (u16_wrap _)) fun a hF => ?_)
  refine sB 1 [(22, .pointer (some ⟨bb2, 1, none⟩))] hF (by kernel_rfl) fun a hF => ?_
  refine wl (eL 23 4 1 (v := .int .u32 nb) hF hM (by kernel_rfl) rfl rfl (by kernel_rfl) (by kernel_rfl) fun a w hF hM => ?_)
  obtain ⟨pcb, e_pcb⟩ : ∃ x : Int, x = 1 + bu % 1048576 := ⟨_, rfl⟩
  obtain ⟨pcr, e_pcr⟩ : ∃ x : Int, x = 1 + ra % 2097152 := ⟨_, rfl⟩
  obtain ⟨ppb, e_ppb⟩ : ∃ x : Int, x = 1 + na % 65536 := ⟨_, rfl⟩
  obtain ⟨pps, e_pps⟩ : ∃ x : Int, x = min 2097152 (1 + ra % 2097152 + nb % 524288) := ⟨_, rfl⟩
  have hnew : newE pcb pcr ppb pps = 0 := by unfold newE bkE; omega
  have := newE_ok hnew
  refine wl (eM 24 (v := .tuple #[.agg #[.int .i64 pcb, .int .i64 pcr], .agg #[.int .i64 ppb, .int .i64 pps]]) hF hM (by kernel_rfl) (yld_call (f := 9) (args := #[.agg #[.int .u32 bu, .int .u32 ra, .slice Ga gaps.length cg, .slice Sa sizes.length cs], .int .u16 (na % 65536), .int .u32 nb]) hF (by kernel_rfl) (fun _ => by kernel_rfl) (fun w hM => by rw [e_pcb, e_pcr, e_ppb, e_pps]; exact pair_w bu ra (.slice Ga gaps.length cg) (.slice Sa sizes.length cs) (na % 65536) nb w (by omega))) fun a w hF hM => ?_)
  refine sB 3 [(17, .tuple #[.agg #[.int .i64 pcb, .int .i64 pcr], .agg #[.int .i64 ppb, .int .i64 pps]]), (25, .agg #[.int .i64 pcb, .int .i64 pcr]), (26, .agg #[.int .i64 ppb, .int .i64 pps])] hF (by kernel_rfl) fun a hF => ?_
  refine wl (eN 5 5 (t := 23) (fun b => .pointer (some ⟨b, 0, none⟩)) #[.int .i64 0, .int .i64 0] hF hM (by kernel_rfl) (fun _ => by kernel_rfl) fun bb3 a w hF hM => ?_)
  refine wl (eN 6 6 (t := 23) (fun b => .pointer (some ⟨b, 0, none⟩)) #[.int .i64 0, .int .i64 0] hF hM (by kernel_rfl) (fun _ => by kernel_rfl) fun bb4 a w hF hM => ?_)
  refine wl (sStore (i := 5) (off := 0) (cs' := #[.int .i64 pcb, .int .i64 pcr]) hF hM (by kernel_rfl) rfl rfl (by kernel_rfl) (by kernel_rfl) rfl (by kernel_rfl) fun w hM => ?_)
  refine wl (sStore (i := 6) (off := 0) (cs' := #[.int .i64 ppb, .int .i64 pps]) hF hM (by kernel_rfl) rfl rfl (by kernel_rfl) (by kernel_rfl) rfl (by kernel_rfl) fun w hM => ?_)
  refine wpList_nil ?_
  refine hK4 _ _ ?_
  refine wp_seq_k fun K5 hK5 => ?_
  refine wp_region_lit ?_
  refine wl (eL 27 3 0 (v := .agg #[.int .u32 bu, .int .u32 ra, .slice Ga gaps.length cg, .slice Sa sizes.length cs]) hF hM (by kernel_rfl) rfl rfl (by kernel_rfl) (by kernel_rfl) fun a w hF hM => ?_)
  obtain ⟨ltr, e_ltr⟩ : ∃ x : List (Int × Int), x = drTrace gaps sizes := ⟨_, rfl⟩
  have tr_ltr : trE ltr = 0 := by rw [e_ltr]; exact dr_trE hg hs
  have le_ltr : ltr.length ≤ 30 := by rw [e_ltr]; exact dr_le _ _
  refine wl (sOwn 7 (f := 18) (args := #[.agg #[.int .u32 bu, .int .u32 ra, .slice Ga gaps.length cg, .slice Sa sizes.length cs]]) (mk := fun v => v) (e := 33) (size := 2) (m := ltr.length) (xs := (flat2 ltr)) hF hM (by kernel_rfl) rfl (by decide) (by kernel_rfl) (fun _ => by kernel_rfl) (by rw [e_ltr]; exact draftTrace_w bu ra Ga gaps cg Sa sizes cs w (hM.ok 1 _ rfl) (hM.ok 2 _ rfl) hg hs (by omega) (by omega)) fun AA5 cc5 a w hF hM => ?_)
  refine sB 1 [(7, .slice AA5 ltr.length cc5)] hF (by kernel_rfl) fun a hF => ?_
  refine wpList_nil ?_
  refine hK5 _ _ ?_
  refine wp_seq_k fun K6 hK6 => ?_
  refine wp_region_lit ?_
  refine wl (eL 30 5 0 (v := .agg #[.int .i64 pcb, .int .i64 pcr]) hF hM (by kernel_rfl) rfl rfl (by kernel_rfl) (by kernel_rfl) fun a w hF hM => ?_)
  refine wl (eL 31 6 0 (v := .agg #[.int .i64 ppb, .int .i64 pps]) hF hM (by kernel_rfl) rfl rfl (by kernel_rfl) (by kernel_rfl) fun a w hF hM => ?_)
  refine sB 1 [(32, .slice AA5 ltr.length cc5)] hF (by kernel_rfl) fun a hF => ?_
  have := mrunF_len pcb pcr ppb pps ltr
  refine wl (sOwn 8 (f := 19) (args := #[.agg #[.int .i64 pcb, .int .i64 pcr], .agg #[.int .i64 ppb, .int .i64 pps], .slice AA5 ltr.length cc5]) (mk := fun v => .tuple #[v, .int .i64 0]) (e := 3) (size := 1) (m := ltr.length) (xs := ((mrunF pcb pcr ppb pps ltr).map (Value.int .i64))) hF hM (by kernel_rfl) rfl (by decide) (by kernel_rfl) (fun _ => by kernel_rfl) (meterRun_ok pcb pcr ppb pps AA5 ltr cc5 w (ro_of_own (hM.ok 7 _ rfl)) hnew tr_ltr) fun AA6 cc6 a w hF hM => ?_)
  refine sB 5 [(29, .tuple #[.slice AA6 ltr.length cc6, .int .i64 0]), (34, .slice AA6 ltr.length cc6), (35, .int .i64 0), (8, .slice AA6 ltr.length cc6), (9, .int .i64 0)] hF (by kernel_rfl) fun a hF => ?_
  refine wpList_nil ?_
  refine hK6 _ _ ?_
  refine wp_seq_k fun K7 hK7 => ?_
  refine wp_seq_k fun K8 hK8 => ?_
  refine wp_region_lit ?_
  refine sB 1 [(36, .int .i64 0)] hF (by kernel_rfl) fun a hF => ?_
  refine wl (eP 37 (v0 := .bool (!decide (0 = 0))) (v := .bool false) hF (by kernel_rfl) (fun _ => by kernel_rfl) (nT (by omega)) fun a hF => ?_)
  refine sB 5 [(38, .bool false), (39, .slice AA6 ltr.length cc6), (40, .int .i64 (ltr.length : Int)), (41, .slice AA5 ltr.length cc5), (42, .int .i64 (ltr.length : Int))] hF (by kernel_rfl) fun a hF => ?_
  refine wl (eP 43 (v0 := .bool (!decide ((ltr.length : Int) = (ltr.length : Int)))) (v := .bool false) hF (by kernel_rfl) (fun _ => by kernel_rfl) (nT (by omega)) fun a hF => ?_)
  refine sB 1 [(44, .bool false)] hF (by kernel_rfl) fun a hF => ?_
  refine wpList_nil ?_
  refine hK8 _ _ ?_
  refine cF hF (by kernel_rfl) (by kernel_rfl) ?_
  refine wp_skip ?_
  refine hK7 _ _ ?_
  refine wp_seq_k fun K9 hK9 => ?_
  refine wp_region_lit ?_
  refine sB 2 [(10, .slice none 0 0), (11, .slice none 0 0)] hF (by kernel_rfl) fun a hF => ?_
  refine wpList_nil ?_
  refine hK9 _ _ ?_
  refine wp_seq_k fun K10 hK10 => ?_
  refine wp_seq_k fun K11 hK11 => ?_
  refine wp_region_lit ?_
  refine sB 1 [(12, .int .i64 0)] hF (by kernel_rfl) fun a hF => ?_
  refine wpList_nil ?_
  refine hK11 _ _ ?_
  refine wp_block ?_
  replace hM := hM.addNil 9 33 2
  replace hM := hM.addNil 10 33 2
  have hbk := newE_bk hnew
  refine wp_loop_k (G := Nat × Int × Int × Int × List Int × List (Int × Int) × Nat × List (Int × Int) × Nat × Option Addr × Nat × Option Addr × Nat) (fun gg a w => Fr 96 [(10, some (.slice gg.2.2.2.2.2.2.2.2.2.1 gg.2.2.2.2.2.2.1 gg.2.2.2.2.2.2.2.2.2.2.1)), (11, some (.slice gg.2.2.2.2.2.2.2.2.2.2.2.1 gg.2.2.2.2.2.2.2.2.1 gg.2.2.2.2.2.2.2.2.2.2.2.2)), (12, some (.int .i64 (gg.1 : Int))), (5, some (.pointer (some ⟨bb3, 0, none⟩))), (6, some (.pointer (some ⟨bb4, 0, none⟩))), (7, some (.slice AA5 ltr.length cc5)), (8, some (.slice AA6 ltr.length cc6))] a ∧ Mem w0.heap.size w0 [(1, some (.ro Ga (gaps.map (Value.int .u16)))), (2, some (.ro Sa (sizes.map (Value.int .u16)))), (5, some (.row bb3 23 #[.int .i64 pcb, .int .i64 pcr])), (6, some (.row bb4 23 #[.int .i64 ppb, .int .i64 pps])), (7, some (.own (.slice AA5 ltr.length cc5) 33 2 ltr.length (flat2 ltr))), (8, some (.own (.slice AA6 ltr.length cc6) 3 1 ltr.length ((mrunF pcb pcr ppb pps ltr).map (Value.int .i64)))), (9, some (.own (.slice gg.2.2.2.2.2.2.2.2.2.1 gg.2.2.2.2.2.2.1 gg.2.2.2.2.2.2.2.2.2.2.1) 33 2 gg.2.2.2.2.2.2.1 (flat2 gg.2.2.2.2.2.1))), (10, some (.own (.slice gg.2.2.2.2.2.2.2.2.2.2.2.1 gg.2.2.2.2.2.2.2.2.1 gg.2.2.2.2.2.2.2.2.2.2.2.2) 33 2 gg.2.2.2.2.2.2.2.2.1 (flat2 gg.2.2.2.2.2.2.2.1)))] w ∧ ((gg.1 : Int) ≤ (ltr.length : Int)) ∧ (mrun pcb pcr ppb pps 0 (pcb * 1048576) (ppb * 1048576) ltr = gg.2.2.2.2.1 ++ mrun pcb pcr ppb pps gg.2.1 gg.2.2.1 gg.2.2.2.1 (ltr.drop gg.1)) ∧ (gg.2.2.2.2.1.length = gg.1) ∧ (trOk gg.2.1 (ltr.drop gg.1) = true) ∧ (0 ≤ gg.2.1) ∧ (gg.2.1 ≤ 1966050) ∧ (Bkt pcb pcr gg.2.1 gg.2.2.1 gg.2.2.2.2.2.1) ∧ (Bkt ppb pps gg.2.1 gg.2.2.2.1 gg.2.2.2.2.2.2.2.1) ∧ ((gg.2.2.2.2.2.1.length : Int) = (gg.2.2.2.2.2.2.1 : Int)) ∧ ((gg.2.2.2.2.2.2.2.1.length : Int) = (gg.2.2.2.2.2.2.2.2.1 : Int)) ∧ ((gg.2.2.2.2.2.2.1 : Int) ≤ (gg.1 : Int)) ∧ ((gg.2.2.2.2.2.2.2.2.1 : Int) ≤ (gg.1 : Int))) (fun gg => ltr.length - gg.1) (0, 0, pcb * 1048576, ppb * 1048576, [], [], 0, [], 0, none, 0, none, 0) ?_ ?_
  · refine ⟨((((((((Fr.nil hF).c hF (i := 8) rfl rfl).c hF (i := 7) rfl rfl).c hF (i := 6) rfl rfl).c hF (i := 5) rfl rfl).c hF (i := 12) rfl (vi (show (0 : Int) = (0 : Int) from by omega))).c hF (i := 11) rfl rfl).c hF (i := 10) rfl rfl), (hM.sub ((((((((Sub.nil.c (k := 10) rfl rfl).c (k := 9) rfl rfl).c (k := 8) rfl rfl).c (k := 7) rfl rfl).c (k := 6) rfl rfl).c (k := 5) rfl rfl).c (k := 2) rfl rfl).c (k := 1) rfl rfl)), (show (0 : Int) ≤ (ltr.length : Int) from by omega), (show mrun pcb pcr ppb pps 0 (pcb * 1048576) (ppb * 1048576) ltr = ([]) ++ mrun pcb pcr ppb pps 0 (pcb * 1048576) (ppb * 1048576) (ltr.drop 0) from by simp), (show ([]).length = 0 from by rfl), (show trOk 0 (ltr.drop 0) = true from by simpa using (trE_ok tr_ltr).2), (show 0 ≤ 0 from by omega), (show 0 ≤ 1966050 from by omega), (show Bkt pcb pcr 0 (pcb * 1048576) ([]) from by exact Bkt.nil hbk.1), (show Bkt ppb pps 0 (ppb * 1048576) ([]) from by exact Bkt.nil hbk.2), (show (([]).length : Int) = (0 : Int) from by rfl), (show (([]).length : Int) = (0 : Int) from by rfl), (show (0 : Int) ≤ (0 : Int) from by omega), (show (0 : Int) ≤ (0 : Int) from by omega)⟩
  · intro gg a w hI
    intro K12 hK12
    obtain ⟨k, la, co, pe, cl, gr, gn, pa, pn, G1, c1, G2, c2⟩ := gg
    try dsimp only at hI hK12
    obtain ⟨hF, hM, hz1, hz2, hz3, hz4, hz5, hz6, hz7, hz8, hz9, hz10, hz11, hz12⟩ := hI
    have hmr : mrun pcb pcr ppb pps 0 (pcb * 1048576) (ppb * 1048576) ltr = cl ++ mrun pcb pcr ppb pps la co pe (ltr.drop k) := by assumption
    have hBg : Bkt pcb pcr la co gr := by assumption
    have hBp : Bkt ppb pps la pe pa := by assumption
    refine wp_seq_k fun K13 hK13 => ?_
    refine wp_seq_k fun K14 hK14 => ?_
    refine wp_region_lit ?_
    refine sB 4 [(45, .int .i64 (k : Int)), (46, .slice AA5 ltr.length cc5), (47, .int .i64 (ltr.length : Int)), (48, .bool (decide ((k : Int) < (ltr.length : Int))))] hF (by kernel_rfl) fun a hF => ?_
    refine wpList_nil ?_
    refine hK14 _ _ ?_
    by_cases hz13 : (k : Int) < (ltr.length : Int)
    · skip
      replace hF := hF.c hF (i := 48) (v := .bool true) rfl (bT hz13)
      refine cT hF (by kernel_rfl) (by kernel_rfl) ?_
      refine wp_skip ?_
      refine hK13 _ _ ?_
      refine wp_seq_k fun K15 hK15 => ?_
      refine wp_block ?_
      refine wp_seq_k fun K16 hK16 => ?_
      have hq := tr_here (l := ltr) (k := k) (la := la) (by omega) (by assumption)
      have hqd := dr_pr (k := k) hg hs (by rw [← e_ltr]; omega)
      rw [← e_ltr] at hqd
      have hcol : colr (up pcb pcr co ((pr ltr k).1 - la)) (up ppb pps pe ((pr ltr k).1 - la)) ((pr ltr k).2 * 1048576) = nt (mrunF pcb pcr ppb pps ltr) k := mrun_at (cs := cl) hmr (drop_pr (by omega)) (by assumption)
      have hc3 : 0 ≤ nt (mrunF pcb pcr ppb pps ltr) k ∧ nt (mrunF pcb pcr ppb pps ltr) k ≤ 2 := by rw [← hcol]; unfold colr; omega
      refine rF (by kernel_rfl) (by kernel_rfl) (fun S a w => ∃ bb7 : Nat, ∃ AA8 : Option Addr, ∃ cc8 : Nat, ∃ bb9 : Nat, ∃ AA10 : Option Addr, ∃ cc10 : Nat, ∃ bb11 : Nat, ∃ AA12 : Option Addr, ∃ cc12 : Nat, ∃ bb13 : Nat, ∃ AA14 : Option Addr, ∃ cc14 : Nat, Fr 96 [(5, some (.pointer (some ⟨bb3, 0, none⟩))), (6, some (.pointer (some ⟨bb4, 0, none⟩))), (7, some (.slice AA5 ltr.length cc5)), (8, some (.slice AA6 ltr.length cc6)), (10, some (.slice G1 gn c1)), (11, some (.slice G2 pn c2)), (12, some (.int .i64 (k : Int))), (13, (cond (S.getD 18 false) (some (.slice AA10 (gn + 1) cc10)) none)), (14, (cond (S.getD 19 false) (some (.slice AA14 (pn + 1) cc14)) none)), (45, some (.int .i64 (k : Int))), (46, some (.slice AA5 ltr.length cc5)), (47, some (.int .i64 (ltr.length : Int))), (48, some (.bool true)), (51, (cond (S.getD 0 false) (some (.slice (some ⟨bb7, 0, none⟩) 0 0)) none)), (52, (cond (S.getD 1 false) (some (.slice G1 gn c1)) none)), (53, (cond (S.getD 2 false) (some (.slice AA8 gn cc8)) none)), (54, (cond (S.getD 3 false) (some (.slice AA5 ltr.length cc5)) none)), (55, (cond (S.getD 4 false) (some (.int .i64 (k : Int))) none)), (56, (cond (S.getD 5 false) (some (.pointer (some (ea AA5 (k * 2))))) none)), (57, (cond (S.getD 6 false) (some (.agg #[.int .i64 (pr ltr k).1, .int .i64 (pr ltr k).2])) none)), (58, (cond (S.getD 7 false) (some (.slice (some ⟨bb9, 0, none⟩) 1 1)) none)), (59, (cond (S.getD 8 false) (some (.slice AA10 (gn + 1) cc10)) none)), (60, (cond (S.getD 9 false) (some (.slice (some ⟨bb11, 0, none⟩) 0 0)) none)), (61, (cond (S.getD 10 false) (some (.slice G2 pn c2)) none)), (62, (cond (S.getD 11 false) (some (.slice AA12 pn cc12)) none)), (63, (cond (S.getD 12 false) (some (.slice AA5 ltr.length cc5)) none)), (64, (cond (S.getD 13 false) (some (.int .i64 (k : Int))) none)), (65, (cond (S.getD 14 false) (some (.pointer (some (ea AA5 (k * 2))))) none)), (66, (cond (S.getD 15 false) (some (.agg #[.int .i64 (pr ltr k).1, .int .i64 (pr ltr k).2])) none)), (67, (cond (S.getD 16 false) (some (.slice (some ⟨bb13, 0, none⟩) 1 1)) none)), (68, (cond (S.getD 17 false) (some (.slice AA14 (pn + 1) cc14)) none))] a ∧ Mem w0.heap.size w0 [(1, some (.ro Ga (gaps.map (Value.int .u16)))), (2, some (.ro Sa (sizes.map (Value.int .u16)))), (5, some (.row bb3 23 #[.int .i64 pcb, .int .i64 pcr])), (6, some (.row bb4 23 #[.int .i64 ppb, .int .i64 pps])), (7, some (.own (.slice AA5 ltr.length cc5) 33 2 ltr.length (flat2 ltr))), (8, some (.own (.slice AA6 ltr.length cc6) 3 1 ltr.length ((mrunF pcb pcr ppb pps ltr).map (Value.int .i64)))), (9, some (.own (.slice G1 gn c1) 33 2 gn (flat2 gr))), (10, some (.own (.slice G2 pn c2) 33 2 pn (flat2 pa))), (11, (cond (S.getD 8 false) (some (.own (.slice AA10 (gn + 1) cc10) 33 2 (gn + 1) (flat2 (gr ++ [((pr ltr k).1, (pr ltr k).2)])))) (cond (S.getD 2 false) (some (.own (.slice AA8 gn cc8) 33 2 gn (flat2 gr))) (cond (S.getD 0 false) (some (.row bb7 33 #[])) none)))), (12, (cond (S.getD 7 false) (some (.row bb9 33 #[.int .i64 (pr ltr k).1, .int .i64 (pr ltr k).2])) none)), (13, (cond (S.getD 17 false) (some (.own (.slice AA14 (pn + 1) cc14) 33 2 (pn + 1) (flat2 (pa ++ [((pr ltr k).1, (pr ltr k).2)])))) (cond (S.getD 11 false) (some (.own (.slice AA12 pn cc12) 33 2 pn (flat2 pa))) (cond (S.getD 9 false) (some (.row bb11 33 #[])) none)))), (14, (cond (S.getD 16 false) (some (.row bb13 33 #[.int .i64 (pr ltr k).1, .int .i64 (pr ltr k).2])) none))] w) ?_ ?_ ?_
      · exact ⟨0, none, 0, 0, none, 0, 0, none, 0, 0, none, 0, ((((((((((((((((((((((((((((((((Fr.nil hF).co hF (i := 68) (by kernel_rfl)).co hF (i := 67) (by kernel_rfl)).co hF (i := 66) (by kernel_rfl)).co hF (i := 65) (by kernel_rfl)).co hF (i := 64) (by kernel_rfl)).co hF (i := 63) (by kernel_rfl)).co hF (i := 62) (by kernel_rfl)).co hF (i := 61) (by kernel_rfl)).co hF (i := 60) (by kernel_rfl)).co hF (i := 59) (by kernel_rfl)).co hF (i := 58) (by kernel_rfl)).co hF (i := 57) (by kernel_rfl)).co hF (i := 56) (by kernel_rfl)).co hF (i := 55) (by kernel_rfl)).co hF (i := 54) (by kernel_rfl)).co hF (i := 53) (by kernel_rfl)).co hF (i := 52) (by kernel_rfl)).co hF (i := 51) (by kernel_rfl)).co hF (i := 48) (by kernel_rfl)).co hF (i := 47) (by kernel_rfl)).co hF (i := 46) (by kernel_rfl)).co hF (i := 45) (by kernel_rfl)).co hF (i := 14) (by kernel_rfl)).co hF (i := 13) (by kernel_rfl)).co hF (i := 12) (by kernel_rfl)).co hF (i := 11) (by kernel_rfl)).co hF (i := 10) (by kernel_rfl)).co hF (i := 8) (by kernel_rfl)).co hF (i := 7) (by kernel_rfl)).co hF (i := 6) (by kernel_rfl)).co hF (i := 5) (by kernel_rfl)), hM.drew.sub ((((((((((((Sub.nil.co (k := 14) (by kernel_rfl)).co (k := 13) (by kernel_rfl)).co (k := 12) (by kernel_rfl)).co (k := 11) (by kernel_rfl)).co (k := 10) (by kernel_rfl)).co (k := 9) (by kernel_rfl)).co (k := 8) (by kernel_rfl)).co (k := 7) (by kernel_rfl)).co (k := 6) (by kernel_rfl)).co (k := 5) (by kernel_rfl)).co (k := 2) (by kernel_rfl)).co (k := 1) (by kernel_rfl))⟩
      · refine stC ?_ (stC ?_ (stC ?_ (stC ?_ (stC ?_ (stC ?_ (stC ?_ (stC ?_ (stC ?_ (stC ?_ (stC ?_ (stC ?_ (stC ?_ (stC ?_ (stC ?_ (stC ?_ (stC ?_ (stC ?_ (stC ?_ (stC ?_ (trivial))))))))))))))))))))
        · intro s0 s1 s2 s3 s4 s5 s6 s7 s8 s9 s10 s11 s12 s13 s14 s15 s16 s17 s18 s19 hc hi hp a w hS
          obtain rfl : s0 = false := hi
          obtain rfl : s2 = false := hc.f 2 0 (by kernel_rfl) rfl
          obtain rfl : s8 = false := hc.f 8 2 (by kernel_rfl) rfl
          obtain ⟨bb7, AA8, cc8, bb9, AA10, cc10, bb11, AA12, cc12, bb13, AA14, cc14, hF, hM⟩ := hS
          refine eN 51 11 (t := 33) (fun b => .slice (some ⟨b, 0, none⟩) 0 0) #[] hF hM (by kernel_rfl) (fun _ => by kernel_rfl) fun bb7 a w hF hM => ?_
          exact ⟨bb7, AA8, cc8, bb9, AA10, cc10, bb11, AA12, cc12, bb13, AA14, cc14, ((hF.repl 13 (by kernel_rfl)).cast (by kernel_rfl)), ((hM.repl 8 (by kernel_rfl)).cast (by kernel_rfl))⟩
        · intro s0 s1 s2 s3 s4 s5 s6 s7 s8 s9 s10 s11 s12 s13 s14 s15 s16 s17 s18 s19 hc hi hp a w hS
          obtain rfl : s1 = false := hi
          obtain ⟨bb7, AA8, cc8, bb9, AA10, cc10, bb11, AA12, cc12, bb13, AA14, cc14, hF, hM⟩ := hS
          refine eP 52 (v0 := .slice G1 gn c1) (v := .slice G1 gn c1) hF (by kernel_rfl) (fun _ => by kernel_rfl) rfl fun a hF => ?_
          exact ⟨bb7, AA8, cc8, bb9, AA10, cc10, bb11, AA12, cc12, bb13, AA14, cc14, ((hF.repl 14 (by kernel_rfl)).cast (by kernel_rfl)), (hM.cast (by kernel_rfl))⟩
        · intro s0 s1 s2 s3 s4 s5 s6 s7 s8 s9 s10 s11 s12 s13 s14 s15 s16 s17 s18 s19 hc hi hp a w hS
          obtain rfl : s2 = false := hi
          obtain rfl : s1 = true := hp 1 (by kernel_rfl)
          obtain rfl : s0 = true := hp 0 (by kernel_rfl)
          obtain rfl : s8 = false := hc.f 8 2 (by kernel_rfl) rfl
          obtain ⟨bb7, AA8, cc8, bb9, AA10, cc10, bb11, AA12, cc12, bb13, AA14, cc14, hF, hM⟩ := hS
          refine sAppR0 53 11 (e := 33) (size := 2) (bytes := 16) (z := .agg #[.int .i64 0, .int .i64 0]) (m := gn) (c := c1) (news := (flat2 gr)) (flat2 gr) hF hM (by kernel_rfl) rfl (by kernel_rfl) (by kernel_rfl) (by kernel_rfl) rfl rfl rfl (by first | exact flat2_length _ | (rw [flat2_length]; omega)) (roO 9 rfl) (flat2_one _) (by omega) (by decide) rfl (own_nil hM (k := 9) rfl) fun AA8 cc8 a w hF hM => ?_
          exact ⟨bb7, AA8, cc8, bb9, AA10, cc10, bb11, AA12, cc12, bb13, AA14, cc14, ((hF.repl 15 (by kernel_rfl)).cast (by kernel_rfl)), ((hM.repl 8 (by kernel_rfl)).cast (by kernel_rfl))⟩
        · intro s0 s1 s2 s3 s4 s5 s6 s7 s8 s9 s10 s11 s12 s13 s14 s15 s16 s17 s18 s19 hc hi hp a w hS
          obtain rfl : s3 = false := hi
          obtain ⟨bb7, AA8, cc8, bb9, AA10, cc10, bb11, AA12, cc12, bb13, AA14, cc14, hF, hM⟩ := hS
          refine eP 54 (v0 := .slice AA5 ltr.length cc5) (v := .slice AA5 ltr.length cc5) hF (by kernel_rfl) (fun _ => by kernel_rfl) rfl fun a hF => ?_
          exact ⟨bb7, AA8, cc8, bb9, AA10, cc10, bb11, AA12, cc12, bb13, AA14, cc14, ((hF.repl 16 (by kernel_rfl)).cast (by kernel_rfl)), (hM.cast (by kernel_rfl))⟩
        · intro s0 s1 s2 s3 s4 s5 s6 s7 s8 s9 s10 s11 s12 s13 s14 s15 s16 s17 s18 s19 hc hi hp a w hS
          obtain rfl : s4 = false := hi
          obtain ⟨bb7, AA8, cc8, bb9, AA10, cc10, bb11, AA12, cc12, bb13, AA14, cc14, hF, hM⟩ := hS
          refine eP 55 (v0 := .int .i64 (k : Int)) (v := .int .i64 (k : Int)) hF (by kernel_rfl) (fun _ => by kernel_rfl) rfl fun a hF => ?_
          exact ⟨bb7, AA8, cc8, bb9, AA10, cc10, bb11, AA12, cc12, bb13, AA14, cc14, ((hF.repl 17 (by kernel_rfl)).cast (by kernel_rfl)), (hM.cast (by kernel_rfl))⟩
        · intro s0 s1 s2 s3 s4 s5 s6 s7 s8 s9 s10 s11 s12 s13 s14 s15 s16 s17 s18 s19 hc hi hp a w hS
          obtain rfl : s5 = false := hi
          obtain rfl : s4 = true := hp 4 (by kernel_rfl)
          obtain rfl : s3 = true := hp 3 (by kernel_rfl)
          obtain ⟨bb7, AA8, cc8, bb9, AA10, cc10, bb11, AA12, cc12, bb13, AA14, cc14, hF, hM⟩ := hS
          refine eM 56 (v := .pointer (some (ea AA5 (k * 2)))) hF hM (by kernel_rfl) (yld_ix (kd := .i64) (e := 33) (len := ltr.length) (cap := cc5) (i := (k : Int)) (size := 2) (A := AA5) hF rfl (by kernel_rfl) (by kernel_rfl) (by kernel_rfl) (by kernel_rfl) (by kernel_rfl) (roO 7 rfl) (by omega) (by omega) (by rw [flat2_length]; omega)) fun a w hF hM => ?_
          exact ⟨bb7, AA8, cc8, bb9, AA10, cc10, bb11, AA12, cc12, bb13, AA14, cc14, ((hF.repl 18 (by kernel_rfl)).cast (by kernel_rfl)), (hM.cast (by kernel_rfl))⟩
        · intro s0 s1 s2 s3 s4 s5 s6 s7 s8 s9 s10 s11 s12 s13 s14 s15 s16 s17 s18 s19 hc hi hp a w hS
          obtain rfl : s6 = false := hi
          obtain rfl : s5 = true := hp 5 (by kernel_rfl)
          obtain ⟨bb7, AA8, cc8, bb9, AA10, cc10, bb11, AA12, cc12, bb13, AA14, cc14, hF, hM⟩ := hS
          refine eM 57 (v := .agg #[.int .i64 (pr ltr k).1, .int .i64 (pr ltr k).2]) hF hM (by kernel_rfl) (yld_roM (A := AA5) (j := k * 2) (us := [.int .i64 (pr ltr k).1, .int .i64 (pr ltr k).2]) hF rfl (by kernel_rfl) (by kernel_rfl) (roO 7 rfl) (by kernel_rfl) rfl (pr_both (k := k) (by omega) (by omega))) fun a w hF hM => ?_
          exact ⟨bb7, AA8, cc8, bb9, AA10, cc10, bb11, AA12, cc12, bb13, AA14, cc14, ((hF.repl 19 (by kernel_rfl)).cast (by kernel_rfl)), (hM.cast (by kernel_rfl))⟩
        · intro s0 s1 s2 s3 s4 s5 s6 s7 s8 s9 s10 s11 s12 s13 s14 s15 s16 s17 s18 s19 hc hi hp a w hS
          obtain rfl : s7 = false := hi
          obtain rfl : s6 = true := hp 6 (by kernel_rfl)
          obtain ⟨bb7, AA8, cc8, bb9, AA10, cc10, bb11, AA12, cc12, bb13, AA14, cc14, hF, hM⟩ := hS
          refine eN 58 12 (t := 33) (fun b => .slice (some ⟨b, 0, none⟩) 1 1) #[.int .i64 (pr ltr k).1, .int .i64 (pr ltr k).2] hF hM (by kernel_rfl) (fun _ => by kernel_rfl) fun bb9 a w hF hM => ?_
          exact ⟨bb7, AA8, cc8, bb9, AA10, cc10, bb11, AA12, cc12, bb13, AA14, cc14, ((hF.repl 20 (by kernel_rfl)).cast (by kernel_rfl)), ((hM.repl 9 (by kernel_rfl)).cast (by kernel_rfl))⟩
        · intro s0 s1 s2 s3 s4 s5 s6 s7 s8 s9 s10 s11 s12 s13 s14 s15 s16 s17 s18 s19 hc hi hp a w hS
          obtain rfl : s8 = false := hi
          obtain rfl : s7 = true := hp 7 (by kernel_rfl)
          obtain rfl : s2 = true := hp 2 (by kernel_rfl)
          obtain rfl : s0 = true := hc 2 0 (by kernel_rfl) rfl
          obtain rfl : s18 = false := hc.f 18 8 (by kernel_rfl) rfl
          obtain ⟨bb7, AA8, cc8, bb9, AA10, cc10, bb11, AA12, cc12, bb13, AA14, cc14, hF, hM⟩ := hS
          refine sApp 59 11 (e := 33) (size := 2) (bytes := 16) (z := .agg #[.int .i64 0, .int .i64 0]) (m := 1) (c := 1) (l := gn) (cap := cc8) (A := AA8) (news := [.int .i64 (pr ltr k).1, .int .i64 (pr ltr k).2]) (flat2 (gr ++ [((pr ltr k).1, (pr ltr k).2)])) hF hM (by kernel_rfl) rfl (by kernel_rfl) (by kernel_rfl) (by kernel_rfl) rfl rfl rfl rfl (roR 12 rfl) (by simp [Value.oneCell']) (by omega) (by decide) (flat2_snoc' _ _ _) fun AA10 cc10 a w hF hM => ?_
          exact ⟨bb7, AA8, cc8, bb9, AA10, cc10, bb11, AA12, cc12, bb13, AA14, cc14, ((hF.repl 21 (by kernel_rfl)).cast (by kernel_rfl)), ((hM.repl 8 (by kernel_rfl)).cast (by kernel_rfl))⟩
        · intro s0 s1 s2 s3 s4 s5 s6 s7 s8 s9 s10 s11 s12 s13 s14 s15 s16 s17 s18 s19 hc hi hp a w hS
          obtain rfl : s9 = false := hi
          obtain rfl : s11 = false := hc.f 11 9 (by kernel_rfl) rfl
          obtain rfl : s17 = false := hc.f 17 11 (by kernel_rfl) rfl
          obtain ⟨bb7, AA8, cc8, bb9, AA10, cc10, bb11, AA12, cc12, bb13, AA14, cc14, hF, hM⟩ := hS
          refine eN 60 13 (t := 33) (fun b => .slice (some ⟨b, 0, none⟩) 0 0) #[] hF hM (by kernel_rfl) (fun _ => by kernel_rfl) fun bb11 a w hF hM => ?_
          exact ⟨bb7, AA8, cc8, bb9, AA10, cc10, bb11, AA12, cc12, bb13, AA14, cc14, ((hF.repl 22 (by kernel_rfl)).cast (by kernel_rfl)), ((hM.repl 10 (by kernel_rfl)).cast (by kernel_rfl))⟩
        · intro s0 s1 s2 s3 s4 s5 s6 s7 s8 s9 s10 s11 s12 s13 s14 s15 s16 s17 s18 s19 hc hi hp a w hS
          obtain rfl : s10 = false := hi
          obtain ⟨bb7, AA8, cc8, bb9, AA10, cc10, bb11, AA12, cc12, bb13, AA14, cc14, hF, hM⟩ := hS
          refine eP 61 (v0 := .slice G2 pn c2) (v := .slice G2 pn c2) hF (by kernel_rfl) (fun _ => by kernel_rfl) rfl fun a hF => ?_
          exact ⟨bb7, AA8, cc8, bb9, AA10, cc10, bb11, AA12, cc12, bb13, AA14, cc14, ((hF.repl 23 (by kernel_rfl)).cast (by kernel_rfl)), (hM.cast (by kernel_rfl))⟩
        · intro s0 s1 s2 s3 s4 s5 s6 s7 s8 s9 s10 s11 s12 s13 s14 s15 s16 s17 s18 s19 hc hi hp a w hS
          obtain rfl : s11 = false := hi
          obtain rfl : s10 = true := hp 10 (by kernel_rfl)
          obtain rfl : s9 = true := hp 9 (by kernel_rfl)
          obtain rfl : s17 = false := hc.f 17 11 (by kernel_rfl) rfl
          obtain ⟨bb7, AA8, cc8, bb9, AA10, cc10, bb11, AA12, cc12, bb13, AA14, cc14, hF, hM⟩ := hS
          refine sAppR0 62 13 (e := 33) (size := 2) (bytes := 16) (z := .agg #[.int .i64 0, .int .i64 0]) (m := pn) (c := c2) (news := (flat2 pa)) (flat2 pa) hF hM (by kernel_rfl) rfl (by kernel_rfl) (by kernel_rfl) (by kernel_rfl) rfl rfl rfl (by first | exact flat2_length _ | (rw [flat2_length]; omega)) (roO 10 rfl) (flat2_one _) (by omega) (by decide) rfl (own_nil hM (k := 10) rfl) fun AA12 cc12 a w hF hM => ?_
          exact ⟨bb7, AA8, cc8, bb9, AA10, cc10, bb11, AA12, cc12, bb13, AA14, cc14, ((hF.repl 24 (by kernel_rfl)).cast (by kernel_rfl)), ((hM.repl 10 (by kernel_rfl)).cast (by kernel_rfl))⟩
        · intro s0 s1 s2 s3 s4 s5 s6 s7 s8 s9 s10 s11 s12 s13 s14 s15 s16 s17 s18 s19 hc hi hp a w hS
          obtain rfl : s12 = false := hi
          obtain ⟨bb7, AA8, cc8, bb9, AA10, cc10, bb11, AA12, cc12, bb13, AA14, cc14, hF, hM⟩ := hS
          refine eP 63 (v0 := .slice AA5 ltr.length cc5) (v := .slice AA5 ltr.length cc5) hF (by kernel_rfl) (fun _ => by kernel_rfl) rfl fun a hF => ?_
          exact ⟨bb7, AA8, cc8, bb9, AA10, cc10, bb11, AA12, cc12, bb13, AA14, cc14, ((hF.repl 25 (by kernel_rfl)).cast (by kernel_rfl)), (hM.cast (by kernel_rfl))⟩
        · intro s0 s1 s2 s3 s4 s5 s6 s7 s8 s9 s10 s11 s12 s13 s14 s15 s16 s17 s18 s19 hc hi hp a w hS
          obtain rfl : s13 = false := hi
          obtain ⟨bb7, AA8, cc8, bb9, AA10, cc10, bb11, AA12, cc12, bb13, AA14, cc14, hF, hM⟩ := hS
          refine eP 64 (v0 := .int .i64 (k : Int)) (v := .int .i64 (k : Int)) hF (by kernel_rfl) (fun _ => by kernel_rfl) rfl fun a hF => ?_
          exact ⟨bb7, AA8, cc8, bb9, AA10, cc10, bb11, AA12, cc12, bb13, AA14, cc14, ((hF.repl 26 (by kernel_rfl)).cast (by kernel_rfl)), (hM.cast (by kernel_rfl))⟩
        · intro s0 s1 s2 s3 s4 s5 s6 s7 s8 s9 s10 s11 s12 s13 s14 s15 s16 s17 s18 s19 hc hi hp a w hS
          obtain rfl : s14 = false := hi
          obtain rfl : s13 = true := hp 13 (by kernel_rfl)
          obtain rfl : s12 = true := hp 12 (by kernel_rfl)
          obtain ⟨bb7, AA8, cc8, bb9, AA10, cc10, bb11, AA12, cc12, bb13, AA14, cc14, hF, hM⟩ := hS
          refine eM 65 (v := .pointer (some (ea AA5 (k * 2)))) hF hM (by kernel_rfl) (yld_ix (kd := .i64) (e := 33) (len := ltr.length) (cap := cc5) (i := (k : Int)) (size := 2) (A := AA5) hF rfl (by kernel_rfl) (by kernel_rfl) (by kernel_rfl) (by kernel_rfl) (by kernel_rfl) (roO 7 rfl) (by omega) (by omega) (by rw [flat2_length]; omega)) fun a w hF hM => ?_
          exact ⟨bb7, AA8, cc8, bb9, AA10, cc10, bb11, AA12, cc12, bb13, AA14, cc14, ((hF.repl 27 (by kernel_rfl)).cast (by kernel_rfl)), (hM.cast (by kernel_rfl))⟩
        · intro s0 s1 s2 s3 s4 s5 s6 s7 s8 s9 s10 s11 s12 s13 s14 s15 s16 s17 s18 s19 hc hi hp a w hS
          obtain rfl : s15 = false := hi
          obtain rfl : s14 = true := hp 14 (by kernel_rfl)
          obtain ⟨bb7, AA8, cc8, bb9, AA10, cc10, bb11, AA12, cc12, bb13, AA14, cc14, hF, hM⟩ := hS
          refine eM 66 (v := .agg #[.int .i64 (pr ltr k).1, .int .i64 (pr ltr k).2]) hF hM (by kernel_rfl) (yld_roM (A := AA5) (j := k * 2) (us := [.int .i64 (pr ltr k).1, .int .i64 (pr ltr k).2]) hF rfl (by kernel_rfl) (by kernel_rfl) (roO 7 rfl) (by kernel_rfl) rfl (pr_both (k := k) (by omega) (by omega))) fun a w hF hM => ?_
          exact ⟨bb7, AA8, cc8, bb9, AA10, cc10, bb11, AA12, cc12, bb13, AA14, cc14, ((hF.repl 28 (by kernel_rfl)).cast (by kernel_rfl)), (hM.cast (by kernel_rfl))⟩
        · intro s0 s1 s2 s3 s4 s5 s6 s7 s8 s9 s10 s11 s12 s13 s14 s15 s16 s17 s18 s19 hc hi hp a w hS
          obtain rfl : s16 = false := hi
          obtain rfl : s15 = true := hp 15 (by kernel_rfl)
          obtain ⟨bb7, AA8, cc8, bb9, AA10, cc10, bb11, AA12, cc12, bb13, AA14, cc14, hF, hM⟩ := hS
          refine eN 67 14 (t := 33) (fun b => .slice (some ⟨b, 0, none⟩) 1 1) #[.int .i64 (pr ltr k).1, .int .i64 (pr ltr k).2] hF hM (by kernel_rfl) (fun _ => by kernel_rfl) fun bb13 a w hF hM => ?_
          exact ⟨bb7, AA8, cc8, bb9, AA10, cc10, bb11, AA12, cc12, bb13, AA14, cc14, ((hF.repl 29 (by kernel_rfl)).cast (by kernel_rfl)), ((hM.repl 11 (by kernel_rfl)).cast (by kernel_rfl))⟩
        · intro s0 s1 s2 s3 s4 s5 s6 s7 s8 s9 s10 s11 s12 s13 s14 s15 s16 s17 s18 s19 hc hi hp a w hS
          obtain rfl : s17 = false := hi
          obtain rfl : s16 = true := hp 16 (by kernel_rfl)
          obtain rfl : s11 = true := hp 11 (by kernel_rfl)
          obtain rfl : s9 = true := hc 11 9 (by kernel_rfl) rfl
          obtain rfl : s19 = false := hc.f 19 17 (by kernel_rfl) rfl
          obtain ⟨bb7, AA8, cc8, bb9, AA10, cc10, bb11, AA12, cc12, bb13, AA14, cc14, hF, hM⟩ := hS
          refine sApp 68 13 (e := 33) (size := 2) (bytes := 16) (z := .agg #[.int .i64 0, .int .i64 0]) (m := 1) (c := 1) (l := pn) (cap := cc12) (A := AA12) (news := [.int .i64 (pr ltr k).1, .int .i64 (pr ltr k).2]) (flat2 (pa ++ [((pr ltr k).1, (pr ltr k).2)])) hF hM (by kernel_rfl) rfl (by kernel_rfl) (by kernel_rfl) (by kernel_rfl) rfl rfl rfl rfl (roR 14 rfl) (by simp [Value.oneCell']) (by omega) (by decide) (flat2_snoc' _ _ _) fun AA14 cc14 a w hF hM => ?_
          exact ⟨bb7, AA8, cc8, bb9, AA10, cc10, bb11, AA12, cc12, bb13, AA14, cc14, ((hF.repl 30 (by kernel_rfl)).cast (by kernel_rfl)), ((hM.repl 10 (by kernel_rfl)).cast (by kernel_rfl))⟩
        · intro s0 s1 s2 s3 s4 s5 s6 s7 s8 s9 s10 s11 s12 s13 s14 s15 s16 s17 s18 s19 hc hi hp a w hS
          obtain rfl : s18 = false := hi
          obtain rfl : s8 = true := hp 8 (by kernel_rfl)
          obtain rfl : s2 = true := hp 2 (by kernel_rfl)
          obtain rfl : s0 = true := hp 0 (by kernel_rfl)
          obtain ⟨bb7, AA8, cc8, bb9, AA10, cc10, bb11, AA12, cc12, bb13, AA14, cc14, hF, hM⟩ := hS
          refine eP 13 (v0 := .slice AA10 (gn + 1) cc10) (v := .slice AA10 (gn + 1) cc10) hF (by kernel_rfl) (fun _ => by kernel_rfl) rfl fun a hF => ?_
          exact ⟨bb7, AA8, cc8, bb9, AA10, cc10, bb11, AA12, cc12, bb13, AA14, cc14, ((hF.repl 7 (by kernel_rfl)).cast (by kernel_rfl)), (hM.cast (by kernel_rfl))⟩
        · intro s0 s1 s2 s3 s4 s5 s6 s7 s8 s9 s10 s11 s12 s13 s14 s15 s16 s17 s18 s19 hc hi hp a w hS
          obtain rfl : s19 = false := hi
          obtain rfl : s17 = true := hp 17 (by kernel_rfl)
          obtain rfl : s11 = true := hp 11 (by kernel_rfl)
          obtain rfl : s9 = true := hp 9 (by kernel_rfl)
          obtain ⟨bb7, AA8, cc8, bb9, AA10, cc10, bb11, AA12, cc12, bb13, AA14, cc14, hF, hM⟩ := hS
          refine eP 14 (v0 := .slice AA14 (pn + 1) cc14) (v := .slice AA14 (pn + 1) cc14) hF (by kernel_rfl) (fun _ => by kernel_rfl) rfl fun a hF => ?_
          exact ⟨bb7, AA8, cc8, bb9, AA10, cc10, bb11, AA12, cc12, bb13, AA14, cc14, ((hF.repl 8 (by kernel_rfl)).cast (by kernel_rfl)), (hM.cast (by kernel_rfl))⟩
      · intro a w hS
        obtain ⟨bb7, AA8, cc8, bb9, AA10, cc10, bb11, AA12, cc12, bb13, AA14, cc14, hF, hM⟩ := hS
        replace hF : Fr 96 [(5, some (.pointer (some ⟨bb3, 0, none⟩))), (6, some (.pointer (some ⟨bb4, 0, none⟩))), (7, some (.slice AA5 ltr.length cc5)), (8, some (.slice AA6 ltr.length cc6)), (10, some (.slice G1 gn c1)), (11, some (.slice G2 pn c2)), (12, some (.int .i64 (k : Int))), (13, some (.slice AA10 (gn + 1) cc10)), (14, some (.slice AA14 (pn + 1) cc14)), (45, some (.int .i64 (k : Int))), (46, some (.slice AA5 ltr.length cc5)), (47, some (.int .i64 (ltr.length : Int))), (48, some (.bool true)), (51, some (.slice (some ⟨bb7, 0, none⟩) 0 0)), (52, some (.slice G1 gn c1)), (53, some (.slice AA8 gn cc8)), (54, some (.slice AA5 ltr.length cc5)), (55, some (.int .i64 (k : Int))), (56, some (.pointer (some (ea AA5 (k * 2))))), (57, some (.agg #[.int .i64 (pr ltr k).1, .int .i64 (pr ltr k).2])), (58, some (.slice (some ⟨bb9, 0, none⟩) 1 1)), (59, some (.slice AA10 (gn + 1) cc10)), (60, some (.slice (some ⟨bb11, 0, none⟩) 0 0)), (61, some (.slice G2 pn c2)), (62, some (.slice AA12 pn cc12)), (63, some (.slice AA5 ltr.length cc5)), (64, some (.int .i64 (k : Int))), (65, some (.pointer (some (ea AA5 (k * 2))))), (66, some (.agg #[.int .i64 (pr ltr k).1, .int .i64 (pr ltr k).2])), (67, some (.slice (some ⟨bb13, 0, none⟩) 1 1)), (68, some (.slice AA14 (pn + 1) cc14))] a := hF.cast (by kernel_rfl)
        replace hM : Mem w0.heap.size w0 [(1, some (.ro Ga (gaps.map (Value.int .u16)))), (2, some (.ro Sa (sizes.map (Value.int .u16)))), (5, some (.row bb3 23 #[.int .i64 pcb, .int .i64 pcr])), (6, some (.row bb4 23 #[.int .i64 ppb, .int .i64 pps])), (7, some (.own (.slice AA5 ltr.length cc5) 33 2 ltr.length (flat2 ltr))), (8, some (.own (.slice AA6 ltr.length cc6) 3 1 ltr.length ((mrunF pcb pcr ppb pps ltr).map (Value.int .i64)))), (9, some (.own (.slice G1 gn c1) 33 2 gn (flat2 gr))), (10, some (.own (.slice G2 pn c2) 33 2 pn (flat2 pa))), (11, some (.own (.slice AA10 (gn + 1) cc10) 33 2 (gn + 1) (flat2 (gr ++ [((pr ltr k).1, (pr ltr k).2)])))), (12, some (.row bb9 33 #[.int .i64 (pr ltr k).1, .int .i64 (pr ltr k).2])), (13, some (.own (.slice AA14 (pn + 1) cc14) 33 2 (pn + 1) (flat2 (pa ++ [((pr ltr k).1, (pr ltr k).2)])))), (14, some (.row bb13 33 #[.int .i64 (pr ltr k).1, .int .i64 (pr ltr k).2]))] w := hM.cast (by kernel_rfl)
        refine hK16 _ _ ?_
        refine wp_seq_k fun K17 hK17 => ?_
        refine wp_region_lit ?_
        refine sB 2 [(69, .slice AA6 ltr.length cc6), (70, .int .i64 (k : Int))] hF (by kernel_rfl) fun a hF => ?_
        refine wl (eM 71 (v := .pointer (some (ea AA6 (k)))) hF hM (by kernel_rfl) (yld_ix (kd := .i64) (e := 3) (len := ltr.length) (cap := cc6) (i := (k : Int)) (size := 1) (A := AA6) hF rfl (by kernel_rfl) (by kernel_rfl) (by kernel_rfl) (by kernel_rfl) (by kernel_rfl) (roO 8 rfl) (by omega) (by omega) (by (try simp only [List.length_map, List.length_append, List.length_replicate, List.length_set, List.length_cons, List.length_nil, flat2_length, List.length_take]); omega)) fun a w hF hM => ?_)
        refine wl (eM 72 (v := .int .i64 (nt (mrunF pcb pcr ppb pps ltr) k)) hF hM (by kernel_rfl) (yld_ro1 (A := AA6) (j := k) hF rfl (by kernel_rfl) (by kernel_rfl) (roO 8 rfl) (by kernel_rfl) (nt_at (by (try simp only [List.length_map, List.length_append, List.length_replicate, List.length_set, List.length_cons, List.length_nil, flat2_length, List.length_take]); omega))) fun a w hF hM => ?_)
        refine wpList_nil ?_
        refine hK17 _ _ ?_
        refine wp_block ?_
        refine wp_seq_k fun K18 hK18 => ?_
        refine wp_region_lit ?_
        refine sB 2 [(74, .bool (decide (nt (mrunF pcb pcr ppb pps ltr) k = 0))), (73, .bool (decide (nt (mrunF pcb pcr ppb pps ltr) k = 0)))] hF (by kernel_rfl) fun a hF => ?_
        refine wpList_nil ?_
        refine hK18 _ _ ?_
        by_cases hz14 : nt (mrunF pcb pcr ppb pps ltr) k = 0
        · skip
          replace hF := hF.c hF (i := 73) (v := .bool true) rfl (bT hz14)
          replace hF := hF.c hF (i := 74) (v := .bool true) rfl (bT hz14)
          refine cT hF (by kernel_rfl) (by kernel_rfl) ?_
          refine wp_region_lit ?_
          refine sB 4 [(75, .slice AA10 (gn + 1) cc10), (76, .slice AA14 (pn + 1) cc14), (10, .slice AA10 (gn + 1) cc10), (11, .slice AA14 (pn + 1) cc14)] hF (by kernel_rfl) fun a hF => ?_
          refine wpList_nil ?_
          refine hK15 _ _ ?_
          refine wp_region_lit ?_
          refine sB 1 [(49, .int .i64 (k : Int))] hF (by kernel_rfl) fun a hF => ?_
          refine wl (eP 50 (v0 := .int .i64 (IntKind.i64.wrap ((k : Int) + 1))) (v := .int .i64 ((k : Int) + 1)) hF (by kernel_rfl) (fun _ => by kernel_rfl) (wi (by omega)) fun a hF => ?_)
          refine sB 1 [(12, .int .i64 ((k : Int) + 1))] hF (by kernel_rfl) fun a hF => ?_
          refine wpList_nil ?_
          replace hM := hM.move 9 11 rfl (by decide)
          replace hM := hM.move 10 13 rfl (by decide)
          refine hK12 _ _ ⟨(k + 1, (pr ltr k).1, up pcb pcr co ((pr ltr k).1 - la) - (pr ltr k).2 * 1048576, up ppb pps pe ((pr ltr k).1 - la) - (pr ltr k).2 * 1048576, cl ++ [0], gr ++ [((pr ltr k).1, (pr ltr k).2)], gn + 1, pa ++ [((pr ltr k).1, (pr ltr k).2)], pn + 1, AA10, cc10, AA14, cc14), ⟨((((((((Fr.nil hF).c hF (i := 8) rfl rfl).c hF (i := 7) rfl rfl).c hF (i := 6) rfl rfl).c hF (i := 5) rfl rfl).c hF (i := 12) rfl (vi (show ((k : Int) + 1 : Int) = ((k + 1) : Int) from by omega))).c hF (i := 11) rfl rfl).c hF (i := 10) rfl rfl), (hM.sub ((((((((Sub.nil.c (k := 10) rfl rfl).c (k := 9) rfl rfl).c (k := 8) rfl rfl).c (k := 7) rfl rfl).c (k := 6) rfl rfl).c (k := 5) rfl rfl).c (k := 2) rfl rfl).c (k := 1) rfl rfl)), (show ((k + 1) : Int) ≤ (ltr.length : Int) from by omega), (show mrun pcb pcr ppb pps 0 (pcb * 1048576) (ppb * 1048576) ltr = (cl ++ [0]) ++ mrun pcb pcr ppb pps (pr ltr k).1 (up pcb pcr co ((pr ltr k).1 - la) - (pr ltr k).2 * 1048576) (up ppb pps pe ((pr ltr k).1 - la) - (pr ltr k).2 * 1048576) (ltr.drop (k + 1)) from by exact mrun_step (drop_pr (by omega)) hmr (by rw [hcol]; omega) (by simp) (by simp)), (show (cl ++ [0]).length = (k + 1) from by first | omega | (simp; omega)), (show trOk (pr ltr k).1 (ltr.drop (k + 1)) = true from by exact hq.2.2.2.2), (show 0 ≤ (pr ltr k).1 from by omega), (show (pr ltr k).1 ≤ 1966050 from by omega), (show Bkt pcb pcr (pr ltr k).1 (up pcb pcr co ((pr ltr k).1 - la) - (pr ltr k).2 * 1048576) (gr ++ [((pr ltr k).1, (pr ltr k).2)]) from by exact hBg.snoc (by omega) (by omega) (by omega) (by omega) (by unfold colr at hcol; omega)), (show Bkt ppb pps (pr ltr k).1 (up ppb pps pe ((pr ltr k).1 - la) - (pr ltr k).2 * 1048576) (pa ++ [((pr ltr k).1, (pr ltr k).2)]) from by exact hBp.snoc (by omega) (by omega) (by omega) (by omega) (by unfold colr at hcol; omega)), (show ((gr ++ [((pr ltr k).1, (pr ltr k).2)]).length : Int) = ((gn + 1) : Int) from by first | omega | (simp; omega)), (show ((pa ++ [((pr ltr k).1, (pr ltr k).2)]).length : Int) = ((pn + 1) : Int) from by first | omega | (simp; omega)), (show ((gn + 1) : Int) ≤ ((k + 1) : Int) from by omega), (show ((pn + 1) : Int) ≤ ((k + 1) : Int) from by omega)⟩, (show ltr.length - (k + 1) < ltr.length - k from by omega)⟩
        · skip
          replace hF := hF.c hF (i := 73) (v := .bool false) rfl (bF hz14)
          replace hF := hF.c hF (i := 74) (v := .bool false) rfl (bF hz14)
          refine cF hF (by kernel_rfl) (by kernel_rfl) ?_
          refine wp_seq_k fun K19 hK19 => ?_
          refine wp_region_lit ?_
          refine sB 2 [(78, .bool (decide (nt (mrunF pcb pcr ppb pps ltr) k = 1))), (77, .bool (decide (nt (mrunF pcb pcr ppb pps ltr) k = 1)))] hF (by kernel_rfl) fun a hF => ?_
          refine wpList_nil ?_
          refine hK19 _ _ ?_
          by_cases hz15 : nt (mrunF pcb pcr ppb pps ltr) k = 1
          · skip
            replace hF := hF.c hF (i := 77) (v := .bool true) rfl (bT hz15)
            replace hF := hF.c hF (i := 78) (v := .bool true) rfl (bT hz15)
            refine cT hF (by kernel_rfl) (by kernel_rfl) ?_
            refine wp_seq_k fun K20 hK20 => ?_
            refine wp_region_lit ?_
            refine sB 2 [(79, .slice AA14 (pn + 1) cc14), (11, .slice AA14 (pn + 1) cc14)] hF (by kernel_rfl) fun a hF => ?_
            refine wpList_nil ?_
            refine hK20 _ _ ?_
            refine wp_seq_k fun K21 hK21 => ?_
            have hnf : cfB pcb pcr (gr ++ [((pr ltr k).1, (pr ltr k).2)]) = false := by rw [hBg.fits (by omega) (by omega) (by omega) (by omega)]; exact decide_eq_false (by unfold colr at hcol; omega)
            refine wp_region_lit ?_
            refine wl (eL 80 5 0 (v := .agg #[.int .i64 pcb, .int .i64 pcr]) hF hM (by kernel_rfl) rfl rfl (by kernel_rfl) (by kernel_rfl) fun a w hF hM => ?_)
            refine sB 1 [(81, .slice AA10 (gn + 1) cc10)] hF (by kernel_rfl) fun a hF => ?_
            refine wl (eM 82 (v := .bool false) hF hM (by kernel_rfl) (Yld.to (yld_call (f := 24) (args := #[.agg #[.int .i64 pcb, .int .i64 pcr], .slice AA10 (gn + 1) cc10]) hF (by kernel_rfl) (fun _ => by kernel_rfl) (fun w hM => (by rw [show gn + 1 = (gr ++ [((pr ltr k).1, (pr ltr k).2)]).length from by first | omega | (simp; done) | (simp; omega)]; exact lconf_w pcb pcr AA10 (gr ++ [((pr ltr k).1, (pr ltr k).2)]) cc10 w (ro_of_own (hM.ok 11 _ rfl))))) (congrArg Value.bool hnf)) fun a w hF hM => ?_)
            refine wpList_nil ?_
            refine hK21 _ _ ?_
            refine cF hF (by kernel_rfl) (by kernel_rfl) ?_
            refine wp_skip ?_
            refine hK15 _ _ ?_
            refine wp_region_lit ?_
            refine sB 1 [(49, .int .i64 (k : Int))] hF (by kernel_rfl) fun a hF => ?_
            refine wl (eP 50 (v0 := .int .i64 (IntKind.i64.wrap ((k : Int) + 1))) (v := .int .i64 ((k : Int) + 1)) hF (by kernel_rfl) (fun _ => by kernel_rfl) (wi (by omega)) fun a hF => ?_)
            refine sB 1 [(12, .int .i64 ((k : Int) + 1))] hF (by kernel_rfl) fun a hF => ?_
            refine wpList_nil ?_
            replace hM := hM.move 10 13 rfl (by decide)
            refine hK12 _ _ ⟨(k + 1, (pr ltr k).1, up pcb pcr co ((pr ltr k).1 - la), up ppb pps pe ((pr ltr k).1 - la) - (pr ltr k).2 * 1048576, cl ++ [1], gr, gn, pa ++ [((pr ltr k).1, (pr ltr k).2)], pn + 1, G1, c1, AA14, cc14), ⟨((((((((Fr.nil hF).c hF (i := 8) rfl rfl).c hF (i := 7) rfl rfl).c hF (i := 6) rfl rfl).c hF (i := 5) rfl rfl).c hF (i := 12) rfl (vi (show ((k : Int) + 1 : Int) = ((k + 1) : Int) from by omega))).c hF (i := 11) rfl rfl).c hF (i := 10) rfl rfl), (hM.sub ((((((((Sub.nil.c (k := 10) rfl rfl).c (k := 9) rfl rfl).c (k := 8) rfl rfl).c (k := 7) rfl rfl).c (k := 6) rfl rfl).c (k := 5) rfl rfl).c (k := 2) rfl rfl).c (k := 1) rfl rfl)), (show ((k + 1) : Int) ≤ (ltr.length : Int) from by omega), (show mrun pcb pcr ppb pps 0 (pcb * 1048576) (ppb * 1048576) ltr = (cl ++ [1]) ++ mrun pcb pcr ppb pps (pr ltr k).1 (up pcb pcr co ((pr ltr k).1 - la)) (up ppb pps pe ((pr ltr k).1 - la) - (pr ltr k).2 * 1048576) (ltr.drop (k + 1)) from by exact mrun_step (drop_pr (by omega)) hmr (by rw [hcol]; omega) (by simp) (by simp)), (show (cl ++ [1]).length = (k + 1) from by first | omega | (simp; omega)), (show trOk (pr ltr k).1 (ltr.drop (k + 1)) = true from by exact hq.2.2.2.2), (show 0 ≤ (pr ltr k).1 from by omega), (show (pr ltr k).1 ≤ 1966050 from by omega), (show Bkt pcb pcr (pr ltr k).1 (up pcb pcr co ((pr ltr k).1 - la)) gr from by exact hBg.wait (by omega)), (show Bkt ppb pps (pr ltr k).1 (up ppb pps pe ((pr ltr k).1 - la) - (pr ltr k).2 * 1048576) (pa ++ [((pr ltr k).1, (pr ltr k).2)]) from by exact hBp.snoc (by omega) (by omega) (by omega) (by omega) (by unfold colr at hcol; omega)), (show (gr.length : Int) = (gn : Int) from by first | omega | (simp; omega)), (show ((pa ++ [((pr ltr k).1, (pr ltr k).2)]).length : Int) = ((pn + 1) : Int) from by first | omega | (simp; omega)), (show (gn : Int) ≤ ((k + 1) : Int) from by omega), (show ((pn + 1) : Int) ≤ ((k + 1) : Int) from by omega)⟩, (show ltr.length - (k + 1) < ltr.length - k from by omega)⟩
          · skip
            replace hF := hF.c hF (i := 77) (v := .bool false) rfl (bF hz15)
            replace hF := hF.c hF (i := 78) (v := .bool false) rfl (bF hz15)
            refine cF hF (by kernel_rfl) (by kernel_rfl) ?_
            refine wp_seq_k fun K22 hK22 => ?_
            refine wp_region_lit ?_
            refine sB 2 [(84, .bool (decide (nt (mrunF pcb pcr ppb pps ltr) k = 2))), (83, .bool (decide (nt (mrunF pcb pcr ppb pps ltr) k = 2)))] hF (by kernel_rfl) fun a hF => ?_
            refine wpList_nil ?_
            refine hK22 _ _ ?_
            by_cases hz16 : nt (mrunF pcb pcr ppb pps ltr) k = 2
            · skip
              replace hF := hF.c hF (i := 83) (v := .bool true) rfl (bT hz16)
              replace hF := hF.c hF (i := 84) (v := .bool true) rfl (bT hz16)
              refine cT hF (by kernel_rfl) (by kernel_rfl) ?_
              refine wp_seq_k fun K23 hK23 => ?_
              have hnf : cfB ppb pps (pa ++ [((pr ltr k).1, (pr ltr k).2)]) = false := by rw [hBp.fits (by omega) (by omega) (by omega) (by omega)]; exact decide_eq_false (by unfold colr at hcol; omega)
              refine wp_region_lit ?_
              refine wl (eL 85 6 0 (v := .agg #[.int .i64 ppb, .int .i64 pps]) hF hM (by kernel_rfl) rfl rfl (by kernel_rfl) (by kernel_rfl) fun a w hF hM => ?_)
              refine sB 1 [(86, .slice AA14 (pn + 1) cc14)] hF (by kernel_rfl) fun a hF => ?_
              refine wl (eM 87 (v := .bool false) hF hM (by kernel_rfl) (Yld.to (yld_call (f := 24) (args := #[.agg #[.int .i64 ppb, .int .i64 pps], .slice AA14 (pn + 1) cc14]) hF (by kernel_rfl) (fun _ => by kernel_rfl) (fun w hM => (by rw [show pn + 1 = (pa ++ [((pr ltr k).1, (pr ltr k).2)]).length from by first | omega | (simp; done) | (simp; omega)]; exact lconf_w ppb pps AA14 (pa ++ [((pr ltr k).1, (pr ltr k).2)]) cc14 w (ro_of_own (hM.ok 13 _ rfl))))) (congrArg Value.bool hnf)) fun a w hF hM => ?_)
              refine wpList_nil ?_
              refine hK23 _ _ ?_
              refine cF hF (by kernel_rfl) (by kernel_rfl) ?_
              refine wp_skip ?_
              refine hK15 _ _ ?_
              refine wp_region_lit ?_
              refine sB 1 [(49, .int .i64 (k : Int))] hF (by kernel_rfl) fun a hF => ?_
              refine wl (eP 50 (v0 := .int .i64 (IntKind.i64.wrap ((k : Int) + 1))) (v := .int .i64 ((k : Int) + 1)) hF (by kernel_rfl) (fun _ => by kernel_rfl) (wi (by omega)) fun a hF => ?_)
              refine sB 1 [(12, .int .i64 ((k : Int) + 1))] hF (by kernel_rfl) fun a hF => ?_
              refine wpList_nil ?_
              refine hK12 _ _ ⟨(k + 1, (pr ltr k).1, up pcb pcr co ((pr ltr k).1 - la), up ppb pps pe ((pr ltr k).1 - la), cl ++ [2], gr, gn, pa, pn, G1, c1, G2, c2), ⟨((((((((Fr.nil hF).c hF (i := 8) rfl rfl).c hF (i := 7) rfl rfl).c hF (i := 6) rfl rfl).c hF (i := 5) rfl rfl).c hF (i := 12) rfl (vi (show ((k : Int) + 1 : Int) = ((k + 1) : Int) from by omega))).c hF (i := 11) rfl rfl).c hF (i := 10) rfl rfl), (hM.sub ((((((((Sub.nil.c (k := 10) rfl rfl).c (k := 9) rfl rfl).c (k := 8) rfl rfl).c (k := 7) rfl rfl).c (k := 6) rfl rfl).c (k := 5) rfl rfl).c (k := 2) rfl rfl).c (k := 1) rfl rfl)), (show ((k + 1) : Int) ≤ (ltr.length : Int) from by omega), (show mrun pcb pcr ppb pps 0 (pcb * 1048576) (ppb * 1048576) ltr = (cl ++ [2]) ++ mrun pcb pcr ppb pps (pr ltr k).1 (up pcb pcr co ((pr ltr k).1 - la)) (up ppb pps pe ((pr ltr k).1 - la)) (ltr.drop (k + 1)) from by exact mrun_step (drop_pr (by omega)) hmr (by rw [hcol]; omega) (by simp) (by simp)), (show (cl ++ [2]).length = (k + 1) from by first | omega | (simp; omega)), (show trOk (pr ltr k).1 (ltr.drop (k + 1)) = true from by exact hq.2.2.2.2), (show 0 ≤ (pr ltr k).1 from by omega), (show (pr ltr k).1 ≤ 1966050 from by omega), (show Bkt pcb pcr (pr ltr k).1 (up pcb pcr co ((pr ltr k).1 - la)) gr from by exact hBg.wait (by omega)), (show Bkt ppb pps (pr ltr k).1 (up ppb pps pe ((pr ltr k).1 - la)) pa from by exact hBp.wait (by omega)), (show (gr.length : Int) = (gn : Int) from by first | omega | (simp; omega)), (show (pa.length : Int) = (pn : Int) from by first | omega | (simp; omega)), (show (gn : Int) ≤ ((k + 1) : Int) from by omega), (show (pn : Int) ≤ ((k + 1) : Int) from by omega)⟩, (show ltr.length - (k + 1) < ltr.length - k from by omega)⟩
            · skip
              exfalso; omega
    · skip
      replace hF := hF.c hF (i := 48) (v := .bool false) rfl (bF hz13)
      refine cF hF (by kernel_rfl) (by kernel_rfl) ?_
      refine wp_exit ?_
      refine hK10 _ _ ?_
      refine wp_seq_k fun K24 hK24 => ?_
      have hyg := hBg.yes
      have hyp := hBp.yes
      refine wp_region_lit ?_
      refine wl (eL 88 5 0 (v := .agg #[.int .i64 pcb, .int .i64 pcr]) hF hM (by kernel_rfl) rfl rfl (by kernel_rfl) (by kernel_rfl) fun a w hF hM => ?_)
      refine sB 1 [(89, .slice G1 gn c1)] hF (by kernel_rfl) fun a hF => ?_
      refine wl (eM 90 (v := .bool true) hF hM (by kernel_rfl) (Yld.to (yld_call (f := 24) (args := #[.agg #[.int .i64 pcb, .int .i64 pcr], .slice G1 gn c1]) hF (by kernel_rfl) (fun _ => by kernel_rfl) (fun w hM => (by rw [show gn = gr.length from by first | omega | (simp; done) | (simp; omega)]; exact lconf_w pcb pcr G1 gr c1 w (ro_of_own (hM.ok 9 _ rfl))))) (congrArg Value.bool hyg)) fun a w hF hM => ?_)
      refine sB 1 [(91, .bool true)] hF (by kernel_rfl) fun a hF => ?_
      refine wl (eL 92 6 0 (v := .agg #[.int .i64 ppb, .int .i64 pps]) hF hM (by kernel_rfl) rfl rfl (by kernel_rfl) (by kernel_rfl) fun a w hF hM => ?_)
      refine sB 1 [(93, .slice G2 pn c2)] hF (by kernel_rfl) fun a hF => ?_
      refine wl (eM 94 (v := .bool true) hF hM (by kernel_rfl) (Yld.to (yld_call (f := 24) (args := #[.agg #[.int .i64 ppb, .int .i64 pps], .slice G2 pn c2]) hF (by kernel_rfl) (fun _ => by kernel_rfl) (fun w hM => (by rw [show pn = pa.length from by first | omega | (simp; done) | (simp; omega)]; exact lconf_w ppb pps G2 pa c2 w (ro_of_own (hM.ok 10 _ rfl))))) (congrArg Value.bool hyp)) fun a w hF hM => ?_)
      refine sB 2 [(95, .bool true), (4, .bool true)] hF (by kernel_rfl) fun a hF => ?_
      refine wpList_nil ?_
      refine hK24 _ _ ?_
      refine wp_ret ?_
      refine hR0 _ _ ?_
      refine ret_of hF hM (.tmp rfl (.nil)) ?_
      exact ⟨rfl, hM.bel⟩

end Go.Proofs.Ytncllmponigkgaa
