/-
  The walk of ShapeSteps.
-/
import Derived.Test.YtaekcgapbkmepaaShapeF
namespace Go.Proofs.Ytaekcgapbkmepaa
open Go.RowKit
set_option linter.unusedVariables false
set_option linter.unusedSimpArgs false

set_option maxRecDepth 100000 in
set_option maxHeartbeats 8000000 in
theorem shapeSteps_walk (bu ra : Int) (Ga : Option Addr) (gaps : List Int) (cg : Nat) (Sa : Option Addr) (sizes : List Int) (cs : Nat) (Da : Option Addr) (dl : List Int) (cd : Nat) (w0 : World) (hGa : Ro w0 Ga (gaps.map (Value.int .u16))) (hSa : Ro w0 Sa (sizes.map (Value.int .u16))) (hg : All16 gaps) (hs : All16 sizes) (hmg : gaps.length ≤ 9223372036854775807) (hms : sizes.length ≤ 9223372036854775807) (h : 0 ≤ bu ∧ bu < 4294967296 ∧ 0 ≤ ra ∧ ra < 4294967296) (hD : Ro w0 Da (dl.map (Value.int .u16))) (hd16 : All16 dl) (hdm : dl.length ≤ 9223372036854775807) :
    Calls Try.prog 6 #[.agg #[.int .u32 bu, .int .u32 ra, .slice Ga gaps.length cg, .slice Sa sizes.length cs], .slice Da dl.length cd] w0 (Ret w0 (.bool true)) := by
  obtain ⟨xb, hxb⟩ : ∃ z : Int, 1 + bu % 1048576 = z := ⟨_, rfl⟩
  obtain ⟨xq, hxq⟩ : ∃ z : Int, 1 + ra % 2097152 = z := ⟨_, rfl⟩
  have hbk : bkE xb xq = 0 := by unfold bkE; rw [if_pos]; omega
  obtain ⟨lt, hlt⟩ : ∃ z : List (Int × Int), drTrace gaps sizes = z := ⟨_, rfl⟩
  have htr : trE lt = 0 := by rw [← hlt]; exact dr_trE hg hs
  have hle : lt.length ≤ 30 := by rw [← hlt]; exact dr_le _ _
  have hpr : ∀ k, k < lt.length → 0 ≤ (pr lt k).1 ∧ (pr lt k).1 ≤ 1966050 ∧ 1 ≤ (pr lt k).2 ∧ (pr lt k).2 ≤ 65536 := by rw [← hlt]; exact fun k hk => dr_pr hg hs hk
  obtain ⟨fb, hfb⟩ : ∃ z : Int, fbN (1 + bu % 1048576) (drTrace gaps sizes) (drTrace gaps sizes).length = z := ⟨_, rfl⟩
  obtain ⟨fr, hfr⟩ : ∃ z : Int, max (1 + ra % 2097152) 1024 = z := ⟨_, rfl⟩
  have hfb2 : 1 ≤ fb ∧ fb ≤ 1048576 := by rw [← hfb, hlt]; exact fbN_bd (by omega) (fun k hk => by have := hpr k hk; omega) lt.length (Nat.le_refl _)
  have hfk : bkE fb fr = 0 := by unfold bkE; rw [if_pos]; omega
  have hft : fitB fb lt = true := fitB_yes fun j hj => by rw [← hfb, hlt]; exact fbN_le lt.length j hj
  have hsl := sum_le (l := lt) (M := 65536) (fun k hk => (hpr k hk).2.2.2) lt.length (Nat.le_refl _)
  have hT : ∀ j, j < lt.length → shT fb fr lt j ≤ 1099511627776 := fun j hj => by
    have c1 := shT_cap (M := 1966050) hfk htr hft (by omega) (by decide) (fun k hk => (hpr k hk).2.1) (by omega) j hj
    have c2 := sumN_mono htr (i := j + 1) (k := lt.length) (by omega) (by omega)
    omega
  have hok : ShOk fb fr lt := ⟨hfk, htr, hft, hT⟩
  have hse := hok.e
  obtain ⟨og, hog⟩ : ∃ z : List Int, shUp fb fr lt lt.length = z := ⟨_, rfl⟩
  have hol : og.length = lt.length := by rw [← hog]; exact shUp_length _ _ _ _
  have hoa : ∀ j, j < lt.length → nt og j = shT fb fr lt j := fun j hj => by rw [← hog]; exact shUp_at hj
  have hdl : ∀ k, 0 ≤ nt dl k ∧ nt dl k ≤ 65535 := fun k => all16_nt hd16 k
  refine enterK 165 Try.func6 rfl rfl rfl ?_
  intro a hF Q0 hR0 hN0
  have hM := Mem.start w0
  replace hM := hM.addOld 1 hGa (Nat.le_refl _)
  replace hM := hM.addOld 2 hSa (Nat.le_refl _)
  replace hM := hM.addOld 3 hD (Nat.le_refl _)
  refine wp_seq_k fun K1 hK1 => ?_
  refine wp_region_lit ?_
  refine wl (eN 2 4 (t := 27) (fun b => .pointer (some ⟨b, 0, none⟩)) #[.int .u32 bu, .int .u32 ra, .slice Ga gaps.length cg, .slice Sa sizes.length cs] hF hM (by kernel_rfl) (fun _ => by kernel_rfl) fun bb1 a w hF hM => ?_)
  refine sB 1 [(4, .bool false)] hF (by kernel_rfl) fun a hF => ?_
  refine wpList_nil ?_
  refine hK1 _ _ ?_
  refine wp_seq_k fun K2 hK2 => ?_
  refine wp_seq_k fun K3 hK3 => ?_
  refine wp_region_lit ?_
  refine wl (eM 20 (v := .bool true) hF hM (by kernel_rfl) (yld_call (f := 16) (args := #[]) hF (by kernel_rfl) (fun _ => by kernel_rfl) (fun w hM => works34_w w)) fun a w hF hM => ?_)
  refine sB 1 [(21, .bool false)] hF (by kernel_rfl) fun a hF => ?_
  refine wpList_nil ?_
  refine hK3 _ _ ?_
  refine cF hF (by kernel_rfl) (by kernel_rfl) ?_
  refine wp_skip ?_
  refine hK2 _ _ ?_
  refine wp_seq_k fun K4 hK4 => ?_
  refine wp_region_lit ?_
  refine wl (eL 23 4 0 (v := .agg #[.int .u32 bu, .int .u32 ra, .slice Ga gaps.length cg, .slice Sa sizes.length cs]) hF hM (by kernel_rfl) rfl rfl (by kernel_rfl) (by kernel_rfl) fun a w hF hM => ?_)
  refine wl (sOwn 5 (f := 22) (args := #[.agg #[.int .u32 bu, .int .u32 ra, .slice Ga gaps.length cg, .slice Sa sizes.length cs]]) (mk := fun v => .tuple #[.agg #[.int .i64 fb, .int .i64 fr], v]) (e := 31) (size := 2) (m := lt.length) (xs := (flat2 lt)) hF hM (by kernel_rfl) rfl (by decide) (by kernel_rfl) (fun _ => by kernel_rfl) (by rw [← hlt, ← hfb, ← hfr]; exact fitting_w bu ra Ga gaps cg Sa sizes cs w (hM.ok 1 _ rfl) (hM.ok 2 _ rfl) hg hs (by omega) (by omega) (by omega)) fun AA2 cc2 a w hF hM => ?_)
  refine sB 3 [(22, .tuple #[.agg #[.int .i64 fb, .int .i64 fr], .slice AA2 lt.length cc2]), (25, .agg #[.int .i64 fb, .int .i64 fr]), (26, .slice AA2 lt.length cc2)] hF (by kernel_rfl) fun a hF => ?_
  refine wl (eN 5 6 (t := 23) (fun b => .pointer (some ⟨b, 0, none⟩)) #[.int .i64 0, .int .i64 0] hF hM (by kernel_rfl) (fun _ => by kernel_rfl) fun bb3 a w hF hM => ?_)
  refine wl (sStore (i := 6) (off := 0) (cs' := #[.int .i64 fb, .int .i64 fr]) hF hM (by kernel_rfl) rfl rfl (by kernel_rfl) (by kernel_rfl) rfl (by kernel_rfl) fun w hM => ?_)
  refine sB 1 [(6, .slice AA2 lt.length cc2)] hF (by kernel_rfl) fun a hF => ?_
  refine wpList_nil ?_
  refine hK4 _ _ ?_
  refine wp_seq_k fun K5 hK5 => ?_
  refine wp_region_lit ?_
  refine wl (eL 28 6 0 (v := .agg #[.int .i64 fb, .int .i64 fr]) hF hM (by kernel_rfl) rfl rfl (by kernel_rfl) (by kernel_rfl) fun a w hF hM => ?_)
  refine sB 1 [(29, .slice AA2 lt.length cc2)] hF (by kernel_rfl) fun a hF => ?_
  refine wl (sOwn 7 (f := 19) (args := #[.agg #[.int .i64 fb, .int .i64 fr], .slice AA2 lt.length cc2]) (mk := fun v => .tuple #[v, .int .i64 0]) (e := 3) (size := 1) (m := lt.length) (xs := (og.map (Value.int .i64))) hF hM (by kernel_rfl) rfl (by decide) (by kernel_rfl) (fun _ => by kernel_rfl) (shRun_lit hog (shRun_ok fb fr AA2 lt _ w (ro_of_own (hM.ok 5 _ rfl)) hse)) fun AA4 cc4 a w hF hM => ?_)
  refine sB 5 [(27, .tuple #[.slice AA4 lt.length cc4, .int .i64 0]), (31, .slice AA4 lt.length cc4), (32, .int .i64 0), (7, .slice AA4 lt.length cc4), (8, .int .i64 0)] hF (by kernel_rfl) fun a hF => ?_
  refine wpList_nil ?_
  refine hK5 _ _ ?_
  refine wp_seq_k fun K6 hK6 => ?_
  refine wp_region_lit ?_
  refine wl (eL 34 6 0 (v := .agg #[.int .i64 fb, .int .i64 fr]) hF hM (by kernel_rfl) rfl rfl (by kernel_rfl) (by kernel_rfl) fun a w hF hM => ?_)
  refine wl (eM 35 (v := .tuple #[.agg #[.int .i64 0, .int .i64 (fb * 1048576)], .int .i64 0]) hF hM (by kernel_rfl) (yld_call (f := 10) (args := #[.agg #[.int .i64 fb, .int .i64 fr]]) hF (by kernel_rfl) (fun _ => by kernel_rfl) (fun w hM => nw_to (snL_yes hfk) hfk (shNew_w fb fr w))) fun a w hF hM => ?_)
  refine sB 3 [(33, .tuple #[.agg #[.int .i64 0, .int .i64 (fb * 1048576)], .int .i64 0]), (36, .agg #[.int .i64 0, .int .i64 (fb * 1048576)]), (37, .int .i64 0)] hF (by kernel_rfl) fun a hF => ?_
  refine wl (eN 9 8 (t := 29) (fun b => .pointer (some ⟨b, 0, none⟩)) #[.int .i64 0, .int .i64 0] hF hM (by kernel_rfl) (fun _ => by kernel_rfl) fun bb5 a w hF hM => ?_)
  refine wl (sStore (i := 8) (off := 0) (cs' := #[.int .i64 0, .int .i64 (fb * 1048576)]) hF hM (by kernel_rfl) rfl rfl (by kernel_rfl) (by kernel_rfl) rfl (by kernel_rfl) fun w hM => ?_)
  refine sB 1 [(10, .int .i64 0)] hF (by kernel_rfl) fun a hF => ?_
  refine wpList_nil ?_
  refine hK6 _ _ ?_
  refine wp_seq_k fun K7 hK7 => ?_
  refine wp_seq_k fun K8 hK8 => ?_
  refine wp_region_lit ?_
  refine sB 1 [(38, .int .i64 0)] hF (by kernel_rfl) fun a hF => ?_
  refine wl (eP 39 (v0 := .bool (!decide (0 = 0))) (v := .bool false) hF (by kernel_rfl) (fun _ => by kernel_rfl) (nT (by omega)) fun a hF => ?_)
  refine sB 2 [(40, .bool false), (41, .int .i64 0)] hF (by kernel_rfl) fun a hF => ?_
  refine wl (eP 42 (v0 := .bool (!decide (0 = 0))) (v := .bool false) hF (by kernel_rfl) (fun _ => by kernel_rfl) (nT (by omega)) fun a hF => ?_)
  refine sB 6 [(43, .bool false), (44, .bool false), (45, .slice AA4 lt.length cc4), (46, .int .i64 (lt.length : Int)), (47, .slice AA2 lt.length cc2), (48, .int .i64 (lt.length : Int))] hF (by kernel_rfl) fun a hF => ?_
  refine wl (eP 49 (v0 := .bool (!decide ((lt.length : Int) = (lt.length : Int)))) (v := .bool false) hF (by kernel_rfl) (fun _ => by kernel_rfl) (nT (by omega)) fun a hF => ?_)
  refine sB 1 [(50, .bool false)] hF (by kernel_rfl) fun a hF => ?_
  refine wpList_nil ?_
  refine hK8 _ _ ?_
  refine cF hF (by kernel_rfl) (by kernel_rfl) ?_
  refine wp_skip ?_
  refine hK7 _ _ ?_
  refine wp_seq_k fun K9 hK9 => ?_
  refine wp_region_lit ?_
  refine wl (eN 51 9 (t := 31) (fun b => .slice (some ⟨b, 0, none⟩) 0 0) #[] hF hM (by kernel_rfl) (fun _ => by kernel_rfl) fun bb6 a w hF hM => ?_)
  refine sB 1 [(52, .slice AA2 lt.length cc2)] hF (by kernel_rfl) fun a hF => ?_
  refine wl (sAppR0 53 9 (e := 31) (size := 2) (bytes := 16) (z := .agg #[.int .i64 0, .int .i64 0]) (m := lt.length) (c := cc2) (news := (flat2 lt)) (flat2 lt) hF hM (by kernel_rfl) rfl (by kernel_rfl) (by kernel_rfl) (by kernel_rfl) rfl rfl rfl (by first | exact flat2_length _ | (rw [flat2_length]; omega)) (roO 5 rfl) (flat2_one _) (by omega) (by decide) rfl (own_nil hM (k := 5) rfl) fun AA7 cc7 a w hF hM => ?_)
  refine sB 1 [(11, .slice AA7 lt.length cc7)] hF (by kernel_rfl) fun a hF => ?_
  refine wpList_nil ?_
  refine hK9 _ _ ?_
  refine wp_seq_k fun K10 hK10 => ?_
  refine wp_region_lit ?_
  refine sB 1 [(12, .int .i64 0)] hF (by kernel_rfl) fun a hF => ?_
  refine wpList_nil ?_
  refine hK10 _ _ ?_
  refine wp_seq_k fun K11 hK11 => ?_
  refine wp_seq_k fun K12 hK12 => ?_
  have hoz : oAt lt dl 65535 0 = 0 := rfl
  refine wp_region_lit ?_
  refine sB 1 [(13, .int .i64 0)] hF (by kernel_rfl) fun a hF => ?_
  refine wpList_nil ?_
  refine hK12 _ _ ?_
  refine wp_block ?_
  refine wp_loop_k (G := Nat × List (Int × Int) × Int × Int) (fun gg a w => Fr 165 [(12, some (.int .i64 (oAt lt dl 65535 gg.1))), (13, some (.int .i64 (gg.1 : Int))), (1, some (.slice Da dl.length cd)), (5, some (.pointer (some ⟨bb3, 0, none⟩))), (6, some (.slice AA2 lt.length cc2)), (7, some (.slice AA4 lt.length cc4)), (9, some (.pointer (some ⟨bb5, 0, none⟩))), (11, some (.slice AA7 lt.length cc7))] a ∧ Mem w0.heap.size w0 [(1, some (.ro Ga (gaps.map (Value.int .u16)))), (2, some (.ro Sa (sizes.map (Value.int .u16)))), (3, some (.ro Da (dl.map (Value.int .u16)))), (5, some (.own (.slice AA2 lt.length cc2) 31 2 lt.length (flat2 lt))), (6, some (.row bb3 23 #[.int .i64 fb, .int .i64 fr])), (7, some (.own (.slice AA4 lt.length cc4) 3 1 lt.length (og.map (Value.int .i64)))), (8, some (.row bb5 29 #[.int .i64 gg.2.2.1, .int .i64 gg.2.2.2])), (9, some (.own (.slice AA7 lt.length cc7) 31 2 lt.length (flat2 gg.2.1)))] w ∧ ((gg.1 : Int) ≤ (lt.length : Int)) ∧ (gg.2.1 = oL lt dl 65535 gg.1) ∧ ((gg.2.1.length : Int) = (lt.length : Int)) ∧ (gg.2.2.1 = (shN fb fr lt gg.1).1) ∧ (gg.2.2.2 = (shN fb fr lt gg.1).2)) (fun gg => lt.length - gg.1) (0, lt, 0, fb * 1048576) ?_ ?_
  · refine ⟨(((((((((Fr.nil hF).c hF (i := 11) rfl rfl).c hF (i := 9) rfl rfl).c hF (i := 7) rfl rfl).c hF (i := 6) rfl rfl).c hF (i := 5) rfl rfl).c hF (i := 1) rfl rfl).c hF (i := 13) rfl (vi (show (0 : Int) = (0 : Int) from by omega))).c hF (i := 12) rfl (vi (show (0 : Int) = oAt lt dl 65535 0 from by omega))), (hM.sub ((((((((Sub.nil.c (k := 9) rfl rfl).c (k := 8) rfl rfl).c (k := 7) rfl rfl).c (k := 6) rfl rfl).c (k := 5) rfl rfl).c (k := 3) rfl rfl).c (k := 2) rfl rfl).c (k := 1) rfl rfl)), (show (0 : Int) ≤ (lt.length : Int) from by omega), (show lt = oL lt dl 65535 0 from by rfl), (show (lt.length : Int) = (lt.length : Int) from by rfl), (show 0 = (shN fb fr lt 0).1 from by rfl), (show (fb * 1048576) = (shN fb fr lt 0).2 from by rfl)⟩
  · intro gg a w hI
    intro K13 hK13
    obtain ⟨k, mm, la_, lv_⟩ := gg
    try dsimp only at hI hK13
    obtain ⟨hF, hM, hz1, hz2, hz3, hz4, hz5⟩ := hI
    have hmm : mm = oL lt dl 65535 k := by assumption
    have hla : la_ = (shN fb fr lt k).1 := by assumption
    have hlv : lv_ = (shN fb fr lt k).2 := by assumption
    refine wp_seq_k fun K14 hK14 => ?_
    refine wp_seq_k fun K15 hK15 => ?_
    refine wp_region_lit ?_
    refine sB 4 [(54, .int .i64 (k : Int)), (55, .slice AA2 lt.length cc2), (56, .int .i64 (lt.length : Int)), (57, .bool (decide ((k : Int) < (lt.length : Int))))] hF (by kernel_rfl) fun a hF => ?_
    refine wpList_nil ?_
    refine hK15 _ _ ?_
    by_cases hz6 : (k : Int) < (lt.length : Int)
    · skip
      replace hF := hF.c hF (i := 57) (v := .bool true) rfl (bT hz6)
      refine cT hF (by kernel_rfl) (by kernel_rfl) ?_
      refine wp_skip ?_
      refine hK14 _ _ ?_
      refine wp_seq_k fun K16 hK16 => ?_
      refine wp_block ?_
      refine wp_seq_k fun K17 hK17 => ?_
      obtain ⟨t1, ht1⟩ : ∃ z : Int, shT fb fr lt k = z := ⟨_, rfl⟩
      obtain ⟨v1, hv1⟩ : ∃ z : Int, (shN fb fr lt (k + 1)).2 = z := ⟨_, rfl⟩
      have hE := step_el hok (k := k) (by omega)
      rw [← hla, ← hlv, ht1, hv1] at hE
      have ht1b := hT k (by omega)
      have ht1c := (hok.step (k := k) (by omega)).2.2.2
      rw [ht1] at ht1b ht1c
      have hno := hoa k (by omega)
      rw [ht1] at hno
      have hpb := hpr k (by omega)
      have hpk : pr mm k = pr lt k := by rw [hmm, oL_pr (by omega) k (by omega), if_neg (by omega)]
      have hoc := oAt_cap (l := lt) (wt := dl) (D := 65535) (M := 1966050) (C := 65535) (fun k hk => (hpr k hk).2.1) (by decide) (by decide) (by decide) hdl k (by omega)
      refine rF (by kernel_rfl) (by kernel_rfl) (fun S a w => ∃ bb8 : Nat, Fr 165 [(1, some (.slice Da dl.length cd)), (5, some (.pointer (some ⟨bb3, 0, none⟩))), (6, some (.slice AA2 lt.length cc2)), (7, some (.slice AA4 lt.length cc4)), (9, some (.pointer (some ⟨bb5, 0, none⟩))), (11, some (.slice AA7 lt.length cc7)), (12, some (.int .i64 (oAt lt dl 65535 k))), (13, some (.int .i64 (k : Int))), (14, (cond (S.getD 18 false) (some (.int .i64 t1)) none)), (15, (cond (S.getD 17 false) (some (.pointer (some ⟨bb8, 0, none⟩))) none)), (16, (cond (S.getD 20 false) (some (.int .i64 0)) none)), (60, (cond (S.getD 13 false) (some (.tuple #[.int .i64 t1, .agg #[.int .i64 t1, .int .i64 v1], .int .i64 0])) none)), (61, (cond (S.getD 0 false) (some (.agg #[.int .i64 fb, .int .i64 fr])) none)), (62, (cond (S.getD 1 false) (some (.agg #[.int .i64 la_, .int .i64 lv_])) none)), (63, (cond (S.getD 2 false) (some (.slice AA2 lt.length cc2)) none)), (64, (cond (S.getD 3 false) (some (.int .i64 (k : Int))) none)), (65, (cond (S.getD 4 false) (some (.pointer (some (ea AA2 (k * 2))))) none)), (66, (cond (S.getD 5 false) (some (.pointer (some (ea AA2 (k * 2))))) none)), (67, (cond (S.getD 6 false) (some (.int .i64 (pr lt k).1)) none)), (68, (cond (S.getD 7 false) (some (.slice AA2 lt.length cc2)) none)), (69, (cond (S.getD 8 false) (some (.int .i64 (k : Int))) none)), (70, (cond (S.getD 9 false) (some (.pointer (some (ea AA2 (k * 2))))) none)), (71, (cond (S.getD 10 false) (some (.pointer (some (ea AA2 (k * 2 + 1))))) none)), (72, (cond (S.getD 11 false) (some (.int .i64 (pr lt k).2)) none)), (73, (cond (S.getD 12 false) (some (.tuple #[.int .i64 t1, .agg #[.int .i64 t1, .int .i64 v1], .int .i64 0])) none)), (74, (cond (S.getD 14 false) (some (.int .i64 t1)) none)), (75, (cond (S.getD 15 false) (some (.agg #[.int .i64 t1, .int .i64 v1])) none)), (76, (cond (S.getD 16 false) (some (.int .i64 0)) none))] a ∧ Mem w0.heap.size w0 [(1, some (.ro Ga (gaps.map (Value.int .u16)))), (2, some (.ro Sa (sizes.map (Value.int .u16)))), (3, some (.ro Da (dl.map (Value.int .u16)))), (5, some (.own (.slice AA2 lt.length cc2) 31 2 lt.length (flat2 lt))), (6, some (.row bb3 23 #[.int .i64 fb, .int .i64 fr])), (7, some (.own (.slice AA4 lt.length cc4) 3 1 lt.length (og.map (Value.int .i64)))), (8, some (.row bb5 29 #[.int .i64 la_, .int .i64 lv_])), (9, some (.own (.slice AA7 lt.length cc7) 31 2 lt.length (flat2 mm))), (10, (cond (S.getD 19 false) (some (.row bb8 29 #[.int .i64 t1, .int .i64 v1])) (cond (S.getD 17 false) (some (.row bb8 29 #[.int .i64 0, .int .i64 0])) none)))] w) ?_ ?_ ?_
      · exact ⟨0, (((((((((((((((((((((((((((((Fr.nil hF).co hF (i := 76) (by kernel_rfl)).co hF (i := 75) (by kernel_rfl)).co hF (i := 74) (by kernel_rfl)).co hF (i := 73) (by kernel_rfl)).co hF (i := 72) (by kernel_rfl)).co hF (i := 71) (by kernel_rfl)).co hF (i := 70) (by kernel_rfl)).co hF (i := 69) (by kernel_rfl)).co hF (i := 68) (by kernel_rfl)).co hF (i := 67) (by kernel_rfl)).co hF (i := 66) (by kernel_rfl)).co hF (i := 65) (by kernel_rfl)).co hF (i := 64) (by kernel_rfl)).co hF (i := 63) (by kernel_rfl)).co hF (i := 62) (by kernel_rfl)).co hF (i := 61) (by kernel_rfl)).co hF (i := 60) (by kernel_rfl)).co hF (i := 16) (by kernel_rfl)).co hF (i := 15) (by kernel_rfl)).co hF (i := 14) (by kernel_rfl)).co hF (i := 13) (by kernel_rfl)).co hF (i := 12) (by kernel_rfl)).co hF (i := 11) (by kernel_rfl)).co hF (i := 9) (by kernel_rfl)).co hF (i := 7) (by kernel_rfl)).co hF (i := 6) (by kernel_rfl)).co hF (i := 5) (by kernel_rfl)).co hF (i := 1) (by kernel_rfl)), hM.drew.sub (((((((((Sub.nil.co (k := 10) (by kernel_rfl)).co (k := 9) (by kernel_rfl)).co (k := 8) (by kernel_rfl)).co (k := 7) (by kernel_rfl)).co (k := 6) (by kernel_rfl)).co (k := 5) (by kernel_rfl)).co (k := 3) (by kernel_rfl)).co (k := 2) (by kernel_rfl)).co (k := 1) (by kernel_rfl))⟩
      · refine stC ?_ (stC ?_ (stC ?_ (stC ?_ (stC ?_ (stC ?_ (stC ?_ (stC ?_ (stC ?_ (stC ?_ (stC ?_ (stC ?_ (stC ?_ (stC ?_ (stC ?_ (stC ?_ (stC ?_ (stC ?_ (stC ?_ (stC ?_ (stC ?_ (trivial)))))))))))))))))))))
        · intro s0 s1 s2 s3 s4 s5 s6 s7 s8 s9 s10 s11 s12 s13 s14 s15 s16 s17 s18 s19 s20 hc hi hp a w hS
          obtain rfl : s0 = false := hi
          obtain ⟨bb8, hF, hM⟩ := hS
          refine eL 61 6 0 (v := .agg #[.int .i64 fb, .int .i64 fr]) hF hM (by kernel_rfl) rfl rfl (by kernel_rfl) (by kernel_rfl) fun a w hF hM => ?_
          exact ⟨bb8, ((hF.repl 12 (by kernel_rfl)).cast (by kernel_rfl)), (hM.cast (by kernel_rfl))⟩
        · intro s0 s1 s2 s3 s4 s5 s6 s7 s8 s9 s10 s11 s12 s13 s14 s15 s16 s17 s18 s19 s20 hc hi hp a w hS
          obtain rfl : s1 = false := hi
          obtain ⟨bb8, hF, hM⟩ := hS
          refine eL 62 8 0 (v := .agg #[.int .i64 la_, .int .i64 lv_]) hF hM (by kernel_rfl) rfl rfl (by kernel_rfl) (by kernel_rfl) fun a w hF hM => ?_
          exact ⟨bb8, ((hF.repl 13 (by kernel_rfl)).cast (by kernel_rfl)), (hM.cast (by kernel_rfl))⟩
        · intro s0 s1 s2 s3 s4 s5 s6 s7 s8 s9 s10 s11 s12 s13 s14 s15 s16 s17 s18 s19 s20 hc hi hp a w hS
          obtain rfl : s2 = false := hi
          obtain ⟨bb8, hF, hM⟩ := hS
          refine eP 63 (v0 := .slice AA2 lt.length cc2) (v := .slice AA2 lt.length cc2) hF (by kernel_rfl) (fun _ => by kernel_rfl) rfl fun a hF => ?_
          exact ⟨bb8, ((hF.repl 14 (by kernel_rfl)).cast (by kernel_rfl)), (hM.cast (by kernel_rfl))⟩
        · intro s0 s1 s2 s3 s4 s5 s6 s7 s8 s9 s10 s11 s12 s13 s14 s15 s16 s17 s18 s19 s20 hc hi hp a w hS
          obtain rfl : s3 = false := hi
          obtain ⟨bb8, hF, hM⟩ := hS
          refine eP 64 (v0 := .int .i64 (k : Int)) (v := .int .i64 (k : Int)) hF (by kernel_rfl) (fun _ => by kernel_rfl) rfl fun a hF => ?_
          exact ⟨bb8, ((hF.repl 15 (by kernel_rfl)).cast (by kernel_rfl)), (hM.cast (by kernel_rfl))⟩
        · intro s0 s1 s2 s3 s4 s5 s6 s7 s8 s9 s10 s11 s12 s13 s14 s15 s16 s17 s18 s19 s20 hc hi hp a w hS
          obtain rfl : s4 = false := hi
          obtain rfl : s3 = true := hp 3 (by kernel_rfl)
          obtain rfl : s2 = true := hp 2 (by kernel_rfl)
          obtain ⟨bb8, hF, hM⟩ := hS
          refine eM 65 (v := .pointer (some (ea AA2 (k * 2)))) hF hM (by kernel_rfl) (yld_ix (kd := .i64) (e := 31) (len := lt.length) (cap := cc2) (i := (k : Int)) (size := 2) (A := AA2) hF rfl (by kernel_rfl) (by kernel_rfl) (by kernel_rfl) (by kernel_rfl) (by kernel_rfl) (roO 5 rfl) (by omega) (by omega) (by rw [flat2_length]; omega)) fun a w hF hM => ?_
          exact ⟨bb8, ((hF.repl 16 (by kernel_rfl)).cast (by kernel_rfl)), (hM.cast (by kernel_rfl))⟩
        · intro s0 s1 s2 s3 s4 s5 s6 s7 s8 s9 s10 s11 s12 s13 s14 s15 s16 s17 s18 s19 s20 hc hi hp a w hS
          obtain rfl : s5 = false := hi
          obtain rfl : s4 = true := hp 4 (by kernel_rfl)
          obtain ⟨bb8, hF, hM⟩ := hS
          refine eP 66 (v0 := .pointer (some (ea AA2 (k * 2)))) (v := .pointer (some (ea AA2 (k * 2)))) hF (by kernel_rfl) (fun _ => by kernel_rfl) rfl fun a hF => ?_
          exact ⟨bb8, ((hF.repl 17 (by kernel_rfl)).cast (by kernel_rfl)), (hM.cast (by kernel_rfl))⟩
        · intro s0 s1 s2 s3 s4 s5 s6 s7 s8 s9 s10 s11 s12 s13 s14 s15 s16 s17 s18 s19 s20 hc hi hp a w hS
          obtain rfl : s6 = false := hi
          obtain rfl : s5 = true := hp 5 (by kernel_rfl)
          obtain ⟨bb8, hF, hM⟩ := hS
          refine eM 67 (v := .int .i64 (pr lt k).1) hF hM (by kernel_rfl) (yld_ro1 (A := AA2) (j := k * 2) hF rfl (by kernel_rfl) (by kernel_rfl) (roO 5 rfl) (by kernel_rfl) (pr_fst (k := k) (by omega) (by omega))) fun a w hF hM => ?_
          exact ⟨bb8, ((hF.repl 18 (by kernel_rfl)).cast (by kernel_rfl)), (hM.cast (by kernel_rfl))⟩
        · intro s0 s1 s2 s3 s4 s5 s6 s7 s8 s9 s10 s11 s12 s13 s14 s15 s16 s17 s18 s19 s20 hc hi hp a w hS
          obtain rfl : s7 = false := hi
          obtain ⟨bb8, hF, hM⟩ := hS
          refine eP 68 (v0 := .slice AA2 lt.length cc2) (v := .slice AA2 lt.length cc2) hF (by kernel_rfl) (fun _ => by kernel_rfl) rfl fun a hF => ?_
          exact ⟨bb8, ((hF.repl 19 (by kernel_rfl)).cast (by kernel_rfl)), (hM.cast (by kernel_rfl))⟩
        · intro s0 s1 s2 s3 s4 s5 s6 s7 s8 s9 s10 s11 s12 s13 s14 s15 s16 s17 s18 s19 s20 hc hi hp a w hS
          obtain rfl : s8 = false := hi
          obtain ⟨bb8, hF, hM⟩ := hS
          refine eP 69 (v0 := .int .i64 (k : Int)) (v := .int .i64 (k : Int)) hF (by kernel_rfl) (fun _ => by kernel_rfl) rfl fun a hF => ?_
          exact ⟨bb8, ((hF.repl 20 (by kernel_rfl)).cast (by kernel_rfl)), (hM.cast (by kernel_rfl))⟩
        · intro s0 s1 s2 s3 s4 s5 s6 s7 s8 s9 s10 s11 s12 s13 s14 s15 s16 s17 s18 s19 s20 hc hi hp a w hS
          obtain rfl : s9 = false := hi
          obtain rfl : s8 = true := hp 8 (by kernel_rfl)
          obtain rfl : s7 = true := hp 7 (by kernel_rfl)
          obtain ⟨bb8, hF, hM⟩ := hS
          refine eM 70 (v := .pointer (some (ea AA2 (k * 2)))) hF hM (by kernel_rfl) (yld_ix (kd := .i64) (e := 31) (len := lt.length) (cap := cc2) (i := (k : Int)) (size := 2) (A := AA2) hF rfl (by kernel_rfl) (by kernel_rfl) (by kernel_rfl) (by kernel_rfl) (by kernel_rfl) (roO 5 rfl) (by omega) (by omega) (by rw [flat2_length]; omega)) fun a w hF hM => ?_
          exact ⟨bb8, ((hF.repl 21 (by kernel_rfl)).cast (by kernel_rfl)), (hM.cast (by kernel_rfl))⟩
        · intro s0 s1 s2 s3 s4 s5 s6 s7 s8 s9 s10 s11 s12 s13 s14 s15 s16 s17 s18 s19 s20 hc hi hp a w hS
          obtain rfl : s10 = false := hi
          obtain rfl : s9 = true := hp 9 (by kernel_rfl)
          obtain ⟨bb8, hF, hM⟩ := hS
          refine eP 71 (v0 := .pointer (some (ea AA2 (k * 2 + 1)))) (v := .pointer (some (ea AA2 (k * 2 + 1)))) hF (by kernel_rfl) (fun _ => by kernel_rfl) rfl fun a hF => ?_
          exact ⟨bb8, ((hF.repl 22 (by kernel_rfl)).cast (by kernel_rfl)), (hM.cast (by kernel_rfl))⟩
        · intro s0 s1 s2 s3 s4 s5 s6 s7 s8 s9 s10 s11 s12 s13 s14 s15 s16 s17 s18 s19 s20 hc hi hp a w hS
          obtain rfl : s11 = false := hi
          obtain rfl : s10 = true := hp 10 (by kernel_rfl)
          obtain ⟨bb8, hF, hM⟩ := hS
          refine eM 72 (v := .int .i64 (pr lt k).2) hF hM (by kernel_rfl) (yld_ro1 (A := AA2) (j := k * 2 + 1) hF rfl (by kernel_rfl) (by kernel_rfl) (roO 5 rfl) (by kernel_rfl) (pr_snd (k := k) (by omega) (by omega))) fun a w hF hM => ?_
          exact ⟨bb8, ((hF.repl 23 (by kernel_rfl)).cast (by kernel_rfl)), (hM.cast (by kernel_rfl))⟩
        · intro s0 s1 s2 s3 s4 s5 s6 s7 s8 s9 s10 s11 s12 s13 s14 s15 s16 s17 s18 s19 s20 hc hi hp a w hS
          obtain rfl : s12 = false := hi
          obtain rfl : s11 = true := hp 11 (by kernel_rfl)
          obtain rfl : s6 = true := hp 6 (by kernel_rfl)
          obtain rfl : s1 = true := hp 1 (by kernel_rfl)
          obtain rfl : s0 = true := hp 0 (by kernel_rfl)
          obtain ⟨bb8, hF, hM⟩ := hS
          refine eM 73 (v := .tuple #[.int .i64 t1, .agg #[.int .i64 t1, .int .i64 v1], .int .i64 0]) hF hM (by kernel_rfl) (yld_call (f := 14) (args := #[.agg #[.int .i64 fb, .int .i64 fr], .agg #[.int .i64 la_, .int .i64 lv_], .int .i64 (pr lt k).1, .int .i64 (pr lt k).2]) hF (by kernel_rfl) (fun _ => by kernel_rfl) (fun w hM => el3_to ⟨hE.1, hE.2.1, hE.2.2.1⟩ (shElig_w fb fr la_ lv_ (pr lt k).1 (pr lt k).2 w))) fun a w hF hM => ?_
          exact ⟨bb8, ((hF.repl 24 (by kernel_rfl)).cast (by kernel_rfl)), (hM.cast (by kernel_rfl))⟩
        · intro s0 s1 s2 s3 s4 s5 s6 s7 s8 s9 s10 s11 s12 s13 s14 s15 s16 s17 s18 s19 s20 hc hi hp a w hS
          obtain rfl : s13 = false := hi
          obtain rfl : s12 = true := hp 12 (by kernel_rfl)
          obtain ⟨bb8, hF, hM⟩ := hS
          refine eP 60 (v0 := .tuple #[.int .i64 t1, .agg #[.int .i64 t1, .int .i64 v1], .int .i64 0]) (v := .tuple #[.int .i64 t1, .agg #[.int .i64 t1, .int .i64 v1], .int .i64 0]) hF (by kernel_rfl) (fun _ => by kernel_rfl) rfl fun a hF => ?_
          exact ⟨bb8, ((hF.repl 11 (by kernel_rfl)).cast (by kernel_rfl)), (hM.cast (by kernel_rfl))⟩
        · intro s0 s1 s2 s3 s4 s5 s6 s7 s8 s9 s10 s11 s12 s13 s14 s15 s16 s17 s18 s19 s20 hc hi hp a w hS
          obtain rfl : s14 = false := hi
          obtain rfl : s13 = true := hp 13 (by kernel_rfl)
          obtain ⟨bb8, hF, hM⟩ := hS
          refine eP 74 (v0 := .int .i64 t1) (v := .int .i64 t1) hF (by kernel_rfl) (fun _ => by kernel_rfl) rfl fun a hF => ?_
          exact ⟨bb8, ((hF.repl 25 (by kernel_rfl)).cast (by kernel_rfl)), (hM.cast (by kernel_rfl))⟩
        · intro s0 s1 s2 s3 s4 s5 s6 s7 s8 s9 s10 s11 s12 s13 s14 s15 s16 s17 s18 s19 s20 hc hi hp a w hS
          obtain rfl : s15 = false := hi
          obtain rfl : s13 = true := hp 13 (by kernel_rfl)
          obtain ⟨bb8, hF, hM⟩ := hS
          refine eP 75 (v0 := .agg #[.int .i64 t1, .int .i64 v1]) (v := .agg #[.int .i64 t1, .int .i64 v1]) hF (by kernel_rfl) (fun _ => by kernel_rfl) rfl fun a hF => ?_
          exact ⟨bb8, ((hF.repl 26 (by kernel_rfl)).cast (by kernel_rfl)), (hM.cast (by kernel_rfl))⟩
        · intro s0 s1 s2 s3 s4 s5 s6 s7 s8 s9 s10 s11 s12 s13 s14 s15 s16 s17 s18 s19 s20 hc hi hp a w hS
          obtain rfl : s16 = false := hi
          obtain rfl : s13 = true := hp 13 (by kernel_rfl)
          obtain ⟨bb8, hF, hM⟩ := hS
          refine eP 76 (v0 := .int .i64 0) (v := .int .i64 0) hF (by kernel_rfl) (fun _ => by kernel_rfl) rfl fun a hF => ?_
          exact ⟨bb8, ((hF.repl 27 (by kernel_rfl)).cast (by kernel_rfl)), (hM.cast (by kernel_rfl))⟩
        · intro s0 s1 s2 s3 s4 s5 s6 s7 s8 s9 s10 s11 s12 s13 s14 s15 s16 s17 s18 s19 s20 hc hi hp a w hS
          obtain rfl : s17 = false := hi
          obtain rfl : s19 = false := hc.f 19 17 (by kernel_rfl) rfl
          obtain ⟨bb8, hF, hM⟩ := hS
          refine eN 15 10 (t := 29) (fun b => .pointer (some ⟨b, 0, none⟩)) #[.int .i64 0, .int .i64 0] hF hM (by kernel_rfl) (fun _ => by kernel_rfl) fun bb8 a w hF hM => ?_
          exact ⟨bb8, ((hF.repl 9 (by kernel_rfl)).cast (by kernel_rfl)), ((hM.repl 8 (by kernel_rfl)).cast (by kernel_rfl))⟩
        · intro s0 s1 s2 s3 s4 s5 s6 s7 s8 s9 s10 s11 s12 s13 s14 s15 s16 s17 s18 s19 s20 hc hi hp a w hS
          obtain rfl : s18 = false := hi
          obtain rfl : s14 = true := hp 14 (by kernel_rfl)
          obtain ⟨bb8, hF, hM⟩ := hS
          refine eP 14 (v0 := .int .i64 t1) (v := .int .i64 t1) hF (by kernel_rfl) (fun _ => by kernel_rfl) rfl fun a hF => ?_
          exact ⟨bb8, ((hF.repl 8 (by kernel_rfl)).cast (by kernel_rfl)), (hM.cast (by kernel_rfl))⟩
        · intro s0 s1 s2 s3 s4 s5 s6 s7 s8 s9 s10 s11 s12 s13 s14 s15 s16 s17 s18 s19 s20 hc hi hp a w hS
          obtain rfl : s19 = false := hi
          obtain rfl : s17 = true := hp 17 (by kernel_rfl)
          obtain rfl : s15 = true := hp 15 (by kernel_rfl)
          obtain ⟨bb8, hF, hM⟩ := hS
          refine sStore (i := 10) (off := 0) (cs' := #[.int .i64 t1, .int .i64 v1]) hF hM (by kernel_rfl) rfl rfl (by kernel_rfl) (by kernel_rfl) rfl (by kernel_rfl) fun w hM => ?_
          exact ⟨bb8, (hF.cast (by kernel_rfl)), ((hM.repl 8 (by kernel_rfl)).cast (by kernel_rfl))⟩
        · intro s0 s1 s2 s3 s4 s5 s6 s7 s8 s9 s10 s11 s12 s13 s14 s15 s16 s17 s18 s19 s20 hc hi hp a w hS
          obtain rfl : s20 = false := hi
          obtain rfl : s16 = true := hp 16 (by kernel_rfl)
          obtain ⟨bb8, hF, hM⟩ := hS
          refine eP 16 (v0 := .int .i64 0) (v := .int .i64 0) hF (by kernel_rfl) (fun _ => by kernel_rfl) rfl fun a hF => ?_
          exact ⟨bb8, ((hF.repl 10 (by kernel_rfl)).cast (by kernel_rfl)), (hM.cast (by kernel_rfl))⟩
      · intro a w hS
        obtain ⟨bb8, hF, hM⟩ := hS
        replace hF : Fr 165 [(1, some (.slice Da dl.length cd)), (5, some (.pointer (some ⟨bb3, 0, none⟩))), (6, some (.slice AA2 lt.length cc2)), (7, some (.slice AA4 lt.length cc4)), (9, some (.pointer (some ⟨bb5, 0, none⟩))), (11, some (.slice AA7 lt.length cc7)), (12, some (.int .i64 (oAt lt dl 65535 k))), (13, some (.int .i64 (k : Int))), (14, some (.int .i64 t1)), (15, some (.pointer (some ⟨bb8, 0, none⟩))), (16, some (.int .i64 0)), (60, some (.tuple #[.int .i64 t1, .agg #[.int .i64 t1, .int .i64 v1], .int .i64 0])), (61, some (.agg #[.int .i64 fb, .int .i64 fr])), (62, some (.agg #[.int .i64 la_, .int .i64 lv_])), (63, some (.slice AA2 lt.length cc2)), (64, some (.int .i64 (k : Int))), (65, some (.pointer (some (ea AA2 (k * 2))))), (66, some (.pointer (some (ea AA2 (k * 2))))), (67, some (.int .i64 (pr lt k).1)), (68, some (.slice AA2 lt.length cc2)), (69, some (.int .i64 (k : Int))), (70, some (.pointer (some (ea AA2 (k * 2))))), (71, some (.pointer (some (ea AA2 (k * 2 + 1))))), (72, some (.int .i64 (pr lt k).2)), (73, some (.tuple #[.int .i64 t1, .agg #[.int .i64 t1, .int .i64 v1], .int .i64 0])), (74, some (.int .i64 t1)), (75, some (.agg #[.int .i64 t1, .int .i64 v1])), (76, some (.int .i64 0))] a := hF.cast (by kernel_rfl)
        replace hM : Mem w0.heap.size w0 [(1, some (.ro Ga (gaps.map (Value.int .u16)))), (2, some (.ro Sa (sizes.map (Value.int .u16)))), (3, some (.ro Da (dl.map (Value.int .u16)))), (5, some (.own (.slice AA2 lt.length cc2) 31 2 lt.length (flat2 lt))), (6, some (.row bb3 23 #[.int .i64 fb, .int .i64 fr])), (7, some (.own (.slice AA4 lt.length cc4) 3 1 lt.length (og.map (Value.int .i64)))), (8, some (.row bb5 29 #[.int .i64 la_, .int .i64 lv_])), (9, some (.own (.slice AA7 lt.length cc7) 31 2 lt.length (flat2 mm))), (10, some (.row bb8 29 #[.int .i64 t1, .int .i64 v1]))] w := hM.cast (by kernel_rfl)
        refine hK17 _ _ ?_
        refine wp_seq_k fun K18 hK18 => ?_
        refine wp_seq_k fun K19 hK19 => ?_
        refine wp_region_lit ?_
        refine sB 1 [(77, .int .i64 0)] hF (by kernel_rfl) fun a hF => ?_
        refine wl (eP 78 (v0 := .bool (!decide (0 = 0))) (v := .bool false) hF (by kernel_rfl) (fun _ => by kernel_rfl) (nT (by omega)) fun a hF => ?_)
        refine sB 4 [(79, .bool false), (80, .int .i64 t1), (81, .slice AA4 lt.length cc4), (82, .int .i64 (k : Int))] hF (by kernel_rfl) fun a hF => ?_
        refine wl (eM 83 (v := .pointer (some (ea AA4 (k)))) hF hM (by kernel_rfl) (yld_ix (kd := .i64) (e := 3) (len := lt.length) (cap := cc4) (i := (k : Int)) (size := 1) (A := AA4) hF rfl (by kernel_rfl) (by kernel_rfl) (by kernel_rfl) (by kernel_rfl) (by kernel_rfl) (roO 7 rfl) (by omega) (by omega) (by rw [List.length_map]; omega)) fun a w hF hM => ?_)
        refine wl (eM 84 (v := .int .i64 (nt og k)) hF hM (by kernel_rfl) (yld_ro1 (A := AA4) (j := k) hF rfl (by kernel_rfl) (by kernel_rfl) (roO 7 rfl) (by kernel_rfl) (nt_at (by omega))) fun a w hF hM => ?_)
        refine wl (eP 85 (v0 := .bool (!decide (t1 = nt og k))) (v := .bool false) hF (by kernel_rfl) (fun _ => by kernel_rfl) (nT (by omega)) fun a hF => ?_)
        refine sB 3 [(86, .bool false), (87, .bool false), (88, .pointer (some ⟨bb8, 0, none⟩))] hF (by kernel_rfl) fun a hF => ?_
        refine wl (eL 89 10 0 (v := .int .i64 t1) hF hM (by kernel_rfl) rfl rfl (by kernel_rfl) (by kernel_rfl) fun a w hF hM => ?_)
        refine sB 1 [(90, .int .i64 t1)] hF (by kernel_rfl) fun a hF => ?_
        refine wl (eP 91 (v0 := .bool (!decide (t1 = t1))) (v := .bool false) hF (by kernel_rfl) (fun _ => by kernel_rfl) (nT (by omega)) fun a hF => ?_)
        refine sB 2 [(92, .bool false), (93, .bool false)] hF (by kernel_rfl) fun a hF => ?_
        refine wl (eL 94 6 0 (v := .agg #[.int .i64 fb, .int .i64 fr]) hF hM (by kernel_rfl) rfl rfl (by kernel_rfl) (by kernel_rfl) fun a w hF hM => ?_)
        refine wl (eL 95 10 0 (v := .agg #[.int .i64 t1, .int .i64 v1]) hF hM (by kernel_rfl) rfl rfl (by kernel_rfl) (by kernel_rfl) fun a w hF hM => ?_)
        refine wl (eM 96 (v := .int .i64 (skE fb fr t1 v1)) hF hM (by kernel_rfl) (yld_call (f := 12) (args := #[.agg #[.int .i64 fb, .int .i64 fr], .agg #[.int .i64 t1, .int .i64 v1]]) hF (by kernel_rfl) (fun _ => by kernel_rfl) (fun w hM => shCheck_w fb fr t1 v1 w)) fun a w hF hM => ?_)
        refine wl (eP 97 (v0 := .bool (!decide (skE fb fr t1 v1 = 0))) (v := .bool false) hF (by kernel_rfl) (fun _ => by kernel_rfl) (nT hE.2.2.2) fun a hF => ?_)
        refine sB 1 [(98, .bool false)] hF (by kernel_rfl) fun a hF => ?_
        refine wpList_nil ?_
        refine hK19 _ _ ?_
        refine cF hF (by kernel_rfl) (by kernel_rfl) ?_
        refine wp_skip ?_
        refine hK18 _ _ ?_
        refine wp_seq_k fun K20 hK20 => ?_
        refine wp_region_lit ?_
        refine wl (eL 99 10 0 (v := .agg #[.int .i64 t1, .int .i64 v1]) hF hM (by kernel_rfl) rfl rfl (by kernel_rfl) (by kernel_rfl) fun a w hF hM => ?_)
        refine wl (sStore (i := 8) (off := 0) (cs' := #[.int .i64 t1, .int .i64 v1]) hF hM (by kernel_rfl) rfl rfl (by kernel_rfl) (by kernel_rfl) rfl (by kernel_rfl) fun w hM => ?_)
        refine wpList_nil ?_
        refine hK20 _ _ ?_
        refine wp_seq_k fun K21 hK21 => ?_
        refine wp_seq_k fun K22 hK22 => ?_
        refine wp_region_lit ?_
        refine sB 4 [(100, .int .i64 (k : Int)), (101, .slice Da dl.length cd), (102, .int .i64 (dl.length : Int)), (103, .bool (decide ((k : Int) < (dl.length : Int))))] hF (by kernel_rfl) fun a hF => ?_
        refine wpList_nil ?_
        refine hK22 _ _ ?_
        by_cases hz7 : (k : Int) < (dl.length : Int)
        · skip
          replace hF := hF.c hF (i := 103) (v := .bool true) rfl (bT hz7)
          refine cT hF (by kernel_rfl) (by kernel_rfl) ?_
          refine rT 15 (by kernel_rfl) (by kernel_rfl) hM.drew ?_
          refine eQ 104 (v0 := .slice AA7 lt.length cc7) (v := .slice AA7 lt.length cc7) hF (by kernel_rfl) (fun _ => by kernel_rfl) rfl fun a hF => ?_
          refine eQ 105 (v0 := .int .i64 (k : Int)) (v := .int .i64 (k : Int)) hF (by kernel_rfl) (fun _ => by kernel_rfl) rfl fun a hF => ?_
          refine eQ 106 (v0 := .slice AA2 lt.length cc2) (v := .slice AA2 lt.length cc2) hF (by kernel_rfl) (fun _ => by kernel_rfl) rfl fun a hF => ?_
          refine eQ 107 (v0 := .int .i64 (k : Int)) (v := .int .i64 (k : Int)) hF (by kernel_rfl) (fun _ => by kernel_rfl) rfl fun a hF => ?_
          refine eQ2 108 (v := .pointer (some (ea AA2 (k * 2)))) hF (by kernel_rfl) (yld_ix (kd := .i64) (e := 31) (len := lt.length) (cap := cc2) (i := (k : Int)) (size := 2) (A := AA2) hF rfl (by kernel_rfl) (by kernel_rfl) (by kernel_rfl) (by kernel_rfl) (by kernel_rfl) (roO 5 rfl) (by omega) (by omega) (by rw [flat2_length]; omega)) fun a hF => ?_
          refine eQ 109 (v0 := .pointer (some (ea AA2 (k * 2)))) (v := .pointer (some (ea AA2 (k * 2)))) hF (by kernel_rfl) (fun _ => by kernel_rfl) rfl fun a hF => ?_
          refine eQ2 110 (v := .int .i64 (pr lt k).1) hF (by kernel_rfl) (yld_ro1 (A := AA2) (j := k * 2) hF rfl (by kernel_rfl) (by kernel_rfl) (roO 5 rfl) (by kernel_rfl) (pr_fst (k := k) (by omega) (by omega))) fun a hF => ?_
          refine eQ 111 (v0 := .slice Da dl.length cd) (v := .slice Da dl.length cd) hF (by kernel_rfl) (fun _ => by kernel_rfl) rfl fun a hF => ?_
          refine eQ 112 (v0 := .int .i64 (k : Int)) (v := .int .i64 (k : Int)) hF (by kernel_rfl) (fun _ => by kernel_rfl) rfl fun a hF => ?_
          refine eQ2 113 (v := .pointer (some (ea Da (k)))) hF (by kernel_rfl) (yld_ix (kd := .i64) (e := 57) (len := dl.length) (cap := cd) (i := (k : Int)) (size := 1) (A := Da) hF rfl (by kernel_rfl) (by kernel_rfl) (by kernel_rfl) (by kernel_rfl) (by kernel_rfl) (roK 3 rfl) (by omega) (by omega) (by rw [List.length_map]; omega)) fun a hF => ?_
          refine eQ2 114 (v := .int .u16 (nt dl k)) hF (by kernel_rfl) (yld_ro1 (A := Da) (j := k) hF rfl (by kernel_rfl) (by kernel_rfl) (roK 3 rfl) (by kernel_rfl) (nt_at (by omega))) fun a hF => ?_
          have := all16_nt hd16 k
          refine eQ 115 (v0 := .int .i64 (IntKind.i64.wrap (nt dl k))) (v := .int .i64 (nt dl k)) hF (by kernel_rfl) (fun _ => by kernel_rfl) (vi (IntWalk.i64_in _ (by omega))) fun a hF => ?_
          refine eQ 116 (v0 := .int .i64 (IntKind.i64.wrap ((pr lt k).1 + nt dl k))) (v := .int .i64 ((pr lt k).1 + nt dl k)) hF (by kernel_rfl) (fun _ => by kernel_rfl) (wi (by omega)) fun a hF => ?_
          refine eQ2 117 (v := .pointer (some (ea AA7 (k * 2)))) hF (by kernel_rfl) (yld_ix (kd := .i64) (e := 31) (len := lt.length) (cap := cc7) (i := (k : Int)) (size := 2) (A := AA7) hF rfl (by kernel_rfl) (by kernel_rfl) (by kernel_rfl) (by kernel_rfl) (by kernel_rfl) (roO 9 rfl) (by omega) (by omega) (by rw [flat2_length]; omega)) fun a hF => ?_
          refine eQ 118 (v0 := .pointer (some (ea AA7 (k * 2)))) (v := .pointer (some (ea AA7 (k * 2)))) hF (by kernel_rfl) (fun _ => by kernel_rfl) rfl fun a hF => ?_
          refine wpQuiet_nil ?_
          intro w hM
          refine wl (sStoreO 9 (j := k * 2) (A := AA7) (flat2 ((mm).set k ((pr lt k).1 + nt dl k, (pr mm k).2))) hF hM (by kernel_rfl) rfl rfl (by kernel_rfl) (by kernel_rfl) rfl (by kernel_rfl) rfl rfl (by rw [flat2_length]; omega) (flat2_set1 (k := k) _ (by omega) (by omega)) fun w hM => ?_)
          refine wpList_nil ?_
          refine hK21 _ _ ?_
          refine wp_seq_k fun K23 hK23 => ?_
          obtain ⟨m1, hm1⟩ : ∃ z : List (Int × Int), (mm).set k ((pr lt k).1 + nt dl k, (pr mm k).2) = z := ⟨_, rfl⟩
          rw [hm1] at hM
          have hm1l : m1.length = mm.length := by rw [← hm1, List.length_set]
          have hu : (pr m1 k).1 = (pr lt k).1 + nt dl k := by rw [← hm1, pr_set (by omega), if_pos rfl]
          refine wp_region_lit ?_
          refine sB 4 [(119, .slice AA7 lt.length cc7), (120, .int .i64 (k : Int)), (121, .slice AA7 lt.length cc7), (122, .int .i64 (k : Int))] hF (by kernel_rfl) fun a hF => ?_
          refine wl (eM 123 (v := .pointer (some (ea AA7 (k * 2)))) hF hM (by kernel_rfl) (yld_ix (kd := .i64) (e := 31) (len := lt.length) (cap := cc7) (i := (k : Int)) (size := 2) (A := AA7) hF rfl (by kernel_rfl) (by kernel_rfl) (by kernel_rfl) (by kernel_rfl) (by kernel_rfl) (roO 9 rfl) (by omega) (by omega) (by rw [flat2_length]; omega)) fun a w hF hM => ?_)
          refine sB 1 [(124, .pointer (some (ea AA7 (k * 2))))] hF (by kernel_rfl) fun a hF => ?_
          refine wl (eM 125 (v := .int .i64 (pr m1 k).1) hF hM (by kernel_rfl) (yld_ro1 (A := AA7) (j := k * 2) hF rfl (by kernel_rfl) (by kernel_rfl) (roO 9 rfl) (by kernel_rfl) (pr_fst (k := k) (by omega) (by omega))) fun a w hF hM => ?_)
          refine sB 1 [(126, .int .i64 (oAt lt dl 65535 k))] hF (by kernel_rfl) fun a hF => ?_
          refine wl (eP 127 (v0 := .int .i64 (if oAt lt dl 65535 k > (pr m1 k).1 then oAt lt dl 65535 k else (pr m1 k).1)) (v := .int .i64 (max (pr m1 k).1 (oAt lt dl 65535 k))) hF (by kernel_rfl) (fun _ => by kernel_rfl) (vi (max_if _ _)) fun a hF => ?_)
          refine wl (eM 128 (v := .pointer (some (ea AA7 (k * 2)))) hF hM (by kernel_rfl) (yld_ix (kd := .i64) (e := 31) (len := lt.length) (cap := cc7) (i := (k : Int)) (size := 2) (A := AA7) hF rfl (by kernel_rfl) (by kernel_rfl) (by kernel_rfl) (by kernel_rfl) (by kernel_rfl) (roO 9 rfl) (by omega) (by omega) (by rw [flat2_length]; omega)) fun a w hF hM => ?_)
          refine sB 1 [(129, .pointer (some (ea AA7 (k * 2))))] hF (by kernel_rfl) fun a hF => ?_
          refine wl (sStoreO 9 (j := k * 2) (A := AA7) (flat2 ((m1).set k (max (pr m1 k).1 (oAt lt dl 65535 k), (pr m1 k).2))) hF hM (by kernel_rfl) rfl rfl (by kernel_rfl) (by kernel_rfl) rfl (by kernel_rfl) rfl rfl (by rw [flat2_length]; omega) (flat2_set1 (k := k) _ (by omega) (by omega)) fun w hM => ?_)
          refine wpList_nil ?_
          refine hK23 _ _ ?_
          obtain ⟨m2, hm2⟩ : ∃ z : List (Int × Int), (m1).set k (max (pr m1 k).1 (oAt lt dl 65535 k), (pr m1 k).2) = z := ⟨_, rfl⟩
          rw [hm2] at hM
          have hm2o : m2 = oL lt dl 65535 (k + 1) := by
            rw [← hm2, ← hm1]
            exact late_set2 hmm (by omega) (by rw [hm1, hu, if_pos (by omega), show nt dl k % (65535 + 1) = nt dl k from by have := hdl k; omega])
          have hq2 : (pr m2 k).1 = oAt lt dl 65535 (k + 1) := by rw [hm2o, oL_pr (by omega) k (by omega), if_pos (by omega)]
          have hm2l : m2.length = mm.length := by rw [hm2o, hmm, oL_len, oL_len]
          refine wp_region_lit ?_
          refine sB 2 [(130, .slice AA7 lt.length cc7), (131, .int .i64 (k : Int))] hF (by kernel_rfl) fun a hF => ?_
          refine wl (eM 132 (v := .pointer (some (ea AA7 (k * 2)))) hF hM (by kernel_rfl) (yld_ix (kd := .i64) (e := 31) (len := lt.length) (cap := cc7) (i := (k : Int)) (size := 2) (A := AA7) hF rfl (by kernel_rfl) (by kernel_rfl) (by kernel_rfl) (by kernel_rfl) (by kernel_rfl) (roO 9 rfl) (by omega) (by omega) (by rw [flat2_length]; omega)) fun a w hF hM => ?_)
          refine sB 1 [(133, .pointer (some (ea AA7 (k * 2))))] hF (by kernel_rfl) fun a hF => ?_
          refine wl (eM 134 (v := .int .i64 (pr m2 k).1) hF hM (by kernel_rfl) (yld_ro1 (A := AA7) (j := k * 2) hF rfl (by kernel_rfl) (by kernel_rfl) (roO 9 rfl) (by kernel_rfl) (pr_fst (k := k) (by omega) (by omega))) fun a w hF hM => ?_)
          refine sB 1 [(12, .int .i64 (pr m2 k).1)] hF (by kernel_rfl) fun a hF => ?_
          refine wpList_nil ?_
          refine hK16 _ _ ?_
          refine wp_region_lit ?_
          refine sB 1 [(58, .int .i64 (k : Int))] hF (by kernel_rfl) fun a hF => ?_
          refine wl (eP 59 (v0 := .int .i64 (IntKind.i64.wrap ((k : Int) + 1))) (v := .int .i64 ((k : Int) + 1)) hF (by kernel_rfl) (fun _ => by kernel_rfl) (wi (by omega)) fun a hF => ?_)
          refine sB 1 [(13, .int .i64 ((k : Int) + 1))] hF (by kernel_rfl) fun a hF => ?_
          refine wpList_nil ?_
          refine hK13 _ _ ⟨(k + 1, m2, t1, v1), ⟨(((((((((Fr.nil hF).c hF (i := 11) rfl rfl).c hF (i := 9) rfl rfl).c hF (i := 7) rfl rfl).c hF (i := 6) rfl rfl).c hF (i := 5) rfl rfl).c hF (i := 1) rfl rfl).c hF (i := 13) rfl (vi (show ((k : Int) + 1 : Int) = ((k + 1) : Int) from by omega))).c hF (i := 12) rfl (vi (show ((pr m2 k).1 : Int) = oAt lt dl 65535 (k + 1) from by omega))), (hM.sub ((((((((Sub.nil.c (k := 9) rfl rfl).c (k := 8) rfl rfl).c (k := 7) rfl rfl).c (k := 6) rfl rfl).c (k := 5) rfl rfl).c (k := 3) rfl rfl).c (k := 2) rfl rfl).c (k := 1) rfl rfl)), (show ((k + 1) : Int) ≤ (lt.length : Int) from by omega), (show m2 = oL lt dl 65535 (k + 1) from by exact hm2o), (show (m2.length : Int) = (lt.length : Int) from by omega), (show t1 = (shN fb fr lt (k + 1)).1 from by exact ht1.symm), (show v1 = (shN fb fr lt (k + 1)).2 from by exact hv1.symm)⟩, (show lt.length - (k + 1) < lt.length - k from by omega)⟩
        · skip
          replace hF := hF.c hF (i := 103) (v := .bool false) rfl (bF hz7)
          refine cF hF (by kernel_rfl) (by kernel_rfl) ?_
          refine wp_skip ?_
          refine hK21 _ _ ?_
          refine wp_seq_k fun K24 hK24 => ?_
          have hu : (pr mm k).1 = (pr lt k).1 := by rw [hpk]
          refine wp_region_lit ?_
          refine sB 4 [(119, .slice AA7 lt.length cc7), (120, .int .i64 (k : Int)), (121, .slice AA7 lt.length cc7), (122, .int .i64 (k : Int))] hF (by kernel_rfl) fun a hF => ?_
          refine wl (eM 123 (v := .pointer (some (ea AA7 (k * 2)))) hF hM (by kernel_rfl) (yld_ix (kd := .i64) (e := 31) (len := lt.length) (cap := cc7) (i := (k : Int)) (size := 2) (A := AA7) hF rfl (by kernel_rfl) (by kernel_rfl) (by kernel_rfl) (by kernel_rfl) (by kernel_rfl) (roO 9 rfl) (by omega) (by omega) (by rw [flat2_length]; omega)) fun a w hF hM => ?_)
          refine sB 1 [(124, .pointer (some (ea AA7 (k * 2))))] hF (by kernel_rfl) fun a hF => ?_
          refine wl (eM 125 (v := .int .i64 (pr mm k).1) hF hM (by kernel_rfl) (yld_ro1 (A := AA7) (j := k * 2) hF rfl (by kernel_rfl) (by kernel_rfl) (roO 9 rfl) (by kernel_rfl) (pr_fst (k := k) (by omega) (by omega))) fun a w hF hM => ?_)
          refine sB 1 [(126, .int .i64 (oAt lt dl 65535 k))] hF (by kernel_rfl) fun a hF => ?_
          refine wl (eP 127 (v0 := .int .i64 (if oAt lt dl 65535 k > (pr mm k).1 then oAt lt dl 65535 k else (pr mm k).1)) (v := .int .i64 (max (pr mm k).1 (oAt lt dl 65535 k))) hF (by kernel_rfl) (fun _ => by kernel_rfl) (vi (max_if _ _)) fun a hF => ?_)
          refine wl (eM 128 (v := .pointer (some (ea AA7 (k * 2)))) hF hM (by kernel_rfl) (yld_ix (kd := .i64) (e := 31) (len := lt.length) (cap := cc7) (i := (k : Int)) (size := 2) (A := AA7) hF rfl (by kernel_rfl) (by kernel_rfl) (by kernel_rfl) (by kernel_rfl) (by kernel_rfl) (roO 9 rfl) (by omega) (by omega) (by rw [flat2_length]; omega)) fun a w hF hM => ?_)
          refine sB 1 [(129, .pointer (some (ea AA7 (k * 2))))] hF (by kernel_rfl) fun a hF => ?_
          refine wl (sStoreO 9 (j := k * 2) (A := AA7) (flat2 ((mm).set k (max (pr mm k).1 (oAt lt dl 65535 k), (pr mm k).2))) hF hM (by kernel_rfl) rfl rfl (by kernel_rfl) (by kernel_rfl) rfl (by kernel_rfl) rfl rfl (by rw [flat2_length]; omega) (flat2_set1 (k := k) _ (by omega) (by omega)) fun w hM => ?_)
          refine wpList_nil ?_
          refine hK24 _ _ ?_
          obtain ⟨m2, hm2⟩ : ∃ z : List (Int × Int), (mm).set k (max (pr mm k).1 (oAt lt dl 65535 k), (pr mm k).2) = z := ⟨_, rfl⟩
          rw [hm2] at hM
          have hm2o : m2 = oL lt dl 65535 (k + 1) := by
            rw [← hm2]
            exact late_set hmm (by rw [hu, if_neg (by omega), Int.add_zero])
          have hq2 : (pr m2 k).1 = oAt lt dl 65535 (k + 1) := by rw [hm2o, oL_pr (by omega) k (by omega), if_pos (by omega)]
          have hm2l : m2.length = mm.length := by rw [hm2o, hmm, oL_len, oL_len]
          refine wp_region_lit ?_
          refine sB 2 [(130, .slice AA7 lt.length cc7), (131, .int .i64 (k : Int))] hF (by kernel_rfl) fun a hF => ?_
          refine wl (eM 132 (v := .pointer (some (ea AA7 (k * 2)))) hF hM (by kernel_rfl) (yld_ix (kd := .i64) (e := 31) (len := lt.length) (cap := cc7) (i := (k : Int)) (size := 2) (A := AA7) hF rfl (by kernel_rfl) (by kernel_rfl) (by kernel_rfl) (by kernel_rfl) (by kernel_rfl) (roO 9 rfl) (by omega) (by omega) (by rw [flat2_length]; omega)) fun a w hF hM => ?_)
          refine sB 1 [(133, .pointer (some (ea AA7 (k * 2))))] hF (by kernel_rfl) fun a hF => ?_
          refine wl (eM 134 (v := .int .i64 (pr m2 k).1) hF hM (by kernel_rfl) (yld_ro1 (A := AA7) (j := k * 2) hF rfl (by kernel_rfl) (by kernel_rfl) (roO 9 rfl) (by kernel_rfl) (pr_fst (k := k) (by omega) (by omega))) fun a w hF hM => ?_)
          refine sB 1 [(12, .int .i64 (pr m2 k).1)] hF (by kernel_rfl) fun a hF => ?_
          refine wpList_nil ?_
          refine hK16 _ _ ?_
          refine wp_region_lit ?_
          refine sB 1 [(58, .int .i64 (k : Int))] hF (by kernel_rfl) fun a hF => ?_
          refine wl (eP 59 (v0 := .int .i64 (IntKind.i64.wrap ((k : Int) + 1))) (v := .int .i64 ((k : Int) + 1)) hF (by kernel_rfl) (fun _ => by kernel_rfl) (wi (by omega)) fun a hF => ?_)
          refine sB 1 [(13, .int .i64 ((k : Int) + 1))] hF (by kernel_rfl) fun a hF => ?_
          refine wpList_nil ?_
          refine hK13 _ _ ⟨(k + 1, m2, t1, v1), ⟨(((((((((Fr.nil hF).c hF (i := 11) rfl rfl).c hF (i := 9) rfl rfl).c hF (i := 7) rfl rfl).c hF (i := 6) rfl rfl).c hF (i := 5) rfl rfl).c hF (i := 1) rfl rfl).c hF (i := 13) rfl (vi (show ((k : Int) + 1 : Int) = ((k + 1) : Int) from by omega))).c hF (i := 12) rfl (vi (show ((pr m2 k).1 : Int) = oAt lt dl 65535 (k + 1) from by omega))), (hM.sub ((((((((Sub.nil.c (k := 9) rfl rfl).c (k := 8) rfl rfl).c (k := 7) rfl rfl).c (k := 6) rfl rfl).c (k := 5) rfl rfl).c (k := 3) rfl rfl).c (k := 2) rfl rfl).c (k := 1) rfl rfl)), (show ((k + 1) : Int) ≤ (lt.length : Int) from by omega), (show m2 = oL lt dl 65535 (k + 1) from by exact hm2o), (show (m2.length : Int) = (lt.length : Int) from by omega), (show t1 = (shN fb fr lt (k + 1)).1 from by exact ht1.symm), (show v1 = (shN fb fr lt (k + 1)).2 from by exact hv1.symm)⟩, (show lt.length - (k + 1) < lt.length - k from by omega)⟩
    · skip
      replace hF := hF.c hF (i := 57) (v := .bool false) rfl (bF hz6)
      refine cF hF (by kernel_rfl) (by kernel_rfl) ?_
      refine wp_exit ?_
      refine hK11 _ _ ?_
      refine wp_seq_k fun K25 hK25 => ?_
      have hk : k = lt.length := by omega
      have hmL : mm = oL lt dl 65535 lt.length := by rw [hmm, hk]
      have hlo := late_ok (l := lt) (wt := dl) (D := 65535) (C := 65535) (M := 1966050) htr (fun k hk => (hpr k hk).2.1) (by decide) (by decide) (by decide) hdl (by decide)
      rw [← hmL] at hlo
      have hmf : fitB fb mm = true := fitB_yes fun j hj => by rw [hlo.2.1 j (by omega)]; exact fitB_get hft (by omega)
      have hsm := sum_le (l := mm) (M := 65536) (fun k hk => by rw [hlo.2.1 k (by omega)]; exact (hpr k (by omega)).2.2.2) mm.length (Nat.le_refl _)
      have hmT : ∀ j, j < mm.length → shT fb fr mm j ≤ 1099511627776 := fun j hj => by
        have c1 := shT_cap (M := 2031585) hfk hlo.1 hmf (by omega) (by decide) (fun k hk => by have := (hlo.2.2 k (by omega)).2.2; omega) (by omega) j hj
        have c2 := sumN_mono hlo.1 (i := j + 1) (k := mm.length) (by omega) (by omega)
        omega
      have hme := (ShOk.mk hfk hlo.1 hmf hmT).e
      obtain ⟨ol, hol2⟩ : ∃ z : List Int, shUp fb fr mm mm.length = z := ⟨_, rfl⟩
      have holl : ol.length = lt.length := by rw [← hol2, shUp_length]; omega
      have hlt2 : ∀ j, j < lt.length → nt og j ≤ nt ol j := fun j hj => by rw [hoa j hj, ← hol2, shUp_at (show j < mm.length by omega)]; exact shT_later hfk htr hft hlo.1 hmf (by omega) (fun k hk => hlo.2.1 k hk) (fun k hk => (hlo.2.2 k hk).1) hT (fun j hj => hmT j (by omega)) j hj
      refine wp_region_lit ?_
      refine wl (eL 136 6 0 (v := .agg #[.int .i64 fb, .int .i64 fr]) hF hM (by kernel_rfl) rfl rfl (by kernel_rfl) (by kernel_rfl) fun a w hF hM => ?_)
      refine sB 1 [(137, .slice AA7 lt.length cc7)] hF (by kernel_rfl) fun a hF => ?_
      refine wl (sOwn 11 (f := 19) (args := #[.agg #[.int .i64 fb, .int .i64 fr], .slice AA7 lt.length cc7]) (mk := fun v => .tuple #[v, .int .i64 0]) (e := 3) (size := 1) (m := lt.length) (xs := (ol.map (Value.int .i64))) hF hM (by kernel_rfl) rfl (by decide) (by kernel_rfl) (fun _ => by kernel_rfl) (by rw [show lt.length = mm.length from by omega]; exact shRun_lit hol2 (shRun_ok fb fr AA7 mm _ w (ro_of_own (hM.ok 9 _ rfl)) hme)) fun AA9 cc9 a w hF hM => ?_)
      refine sB 5 [(135, .tuple #[.slice AA9 lt.length cc9, .int .i64 0]), (139, .slice AA9 lt.length cc9), (140, .int .i64 0), (17, .slice AA9 lt.length cc9), (18, .int .i64 0)] hF (by kernel_rfl) fun a hF => ?_
      refine wpList_nil ?_
      refine hK25 _ _ ?_
      refine wp_seq_k fun K26 hK26 => ?_
      refine wp_seq_k fun K27 hK27 => ?_
      refine wp_region_lit ?_
      refine sB 1 [(141, .int .i64 0)] hF (by kernel_rfl) fun a hF => ?_
      refine wl (eP 142 (v0 := .bool (!decide (0 = 0))) (v := .bool false) hF (by kernel_rfl) (fun _ => by kernel_rfl) (nT (by omega)) fun a hF => ?_)
      refine sB 5 [(143, .bool false), (144, .slice AA9 lt.length cc9), (145, .int .i64 (lt.length : Int)), (146, .slice AA4 lt.length cc4), (147, .int .i64 (lt.length : Int))] hF (by kernel_rfl) fun a hF => ?_
      refine wl (eP 148 (v0 := .bool (!decide ((lt.length : Int) = (lt.length : Int)))) (v := .bool false) hF (by kernel_rfl) (fun _ => by kernel_rfl) (nT (by omega)) fun a hF => ?_)
      refine sB 1 [(149, .bool false)] hF (by kernel_rfl) fun a hF => ?_
      refine wpList_nil ?_
      refine hK27 _ _ ?_
      refine cF hF (by kernel_rfl) (by kernel_rfl) ?_
      refine wp_skip ?_
      refine hK26 _ _ ?_
      refine wp_seq_k fun K28 hK28 => ?_
      refine wp_seq_k fun K29 hK29 => ?_
      refine wp_region_lit ?_
      refine sB 1 [(19, .int .i64 0)] hF (by kernel_rfl) fun a hF => ?_
      refine wpList_nil ?_
      refine hK29 _ _ ?_
      refine wp_block ?_
      refine wp_loop_k (G := Nat) (fun gg a w => Fr 165 [(19, some (.int .i64 (gg : Int))), (7, some (.slice AA4 lt.length cc4)), (17, some (.slice AA9 lt.length cc9))] a ∧ Mem w0.heap.size w0 [(1, some (.ro Ga (gaps.map (Value.int .u16)))), (2, some (.ro Sa (sizes.map (Value.int .u16)))), (3, some (.ro Da (dl.map (Value.int .u16)))), (7, some (.own (.slice AA4 lt.length cc4) 3 1 lt.length (og.map (Value.int .i64)))), (11, some (.own (.slice AA9 lt.length cc9) 3 1 lt.length (ol.map (Value.int .i64))))] w ∧ ((gg : Int) ≤ (lt.length : Int))) (fun gg => lt.length - gg) (0) ?_ ?_
      · refine ⟨((((Fr.nil hF).c hF (i := 17) rfl rfl).c hF (i := 7) rfl rfl).c hF (i := 19) rfl (vi (show (0 : Int) = (0 : Int) from by omega))), (hM.sub (((((Sub.nil.c (k := 11) rfl rfl).c (k := 7) rfl rfl).c (k := 3) rfl rfl).c (k := 2) rfl rfl).c (k := 1) rfl rfl)), (show (0 : Int) ≤ (lt.length : Int) from by omega)⟩
      · intro gg a w hI
        intro K30 hK30
        obtain ⟨q, rfl⟩ : ∃ x, x = gg := ⟨_, rfl⟩
        try dsimp only at hI hK30
        obtain ⟨hF, hM, hz8⟩ := hI
        refine wp_seq_k fun K31 hK31 => ?_
        refine wp_seq_k fun K32 hK32 => ?_
        refine wp_region_lit ?_
        refine sB 4 [(150, .int .i64 (q : Int)), (151, .slice AA4 lt.length cc4), (152, .int .i64 (lt.length : Int)), (153, .bool (decide ((q : Int) < (lt.length : Int))))] hF (by kernel_rfl) fun a hF => ?_
        refine wpList_nil ?_
        refine hK32 _ _ ?_
        by_cases hz9 : (q : Int) < (lt.length : Int)
        · skip
          replace hF := hF.c hF (i := 153) (v := .bool true) rfl (bT hz9)
          refine cT hF (by kernel_rfl) (by kernel_rfl) ?_
          refine wp_skip ?_
          refine hK31 _ _ ?_
          refine wp_seq_k fun K33 hK33 => ?_
          refine wp_block ?_
          refine wp_seq_k fun K34 hK34 => ?_
          have hfin := hlt2 q (by omega)
          refine rQ hM (by kernel_rfl) (by kernel_rfl) ?_
          refine eQ 156 (v0 := .slice AA9 lt.length cc9) (v := .slice AA9 lt.length cc9) hF (by kernel_rfl) (fun _ => by kernel_rfl) rfl fun a hF => ?_
          refine eQ 157 (v0 := .int .i64 (q : Int)) (v := .int .i64 (q : Int)) hF (by kernel_rfl) (fun _ => by kernel_rfl) rfl fun a hF => ?_
          refine eQ2 158 (v := .pointer (some (ea AA9 (q)))) hF (by kernel_rfl) (yld_ix (kd := .i64) (e := 3) (len := lt.length) (cap := cc9) (i := (q : Int)) (size := 1) (A := AA9) hF rfl (by kernel_rfl) (by kernel_rfl) (by kernel_rfl) (by kernel_rfl) (by kernel_rfl) (roO 11 rfl) (by omega) (by omega) (by rw [List.length_map]; omega)) fun a hF => ?_
          refine eQ2 159 (v := .int .i64 (nt ol q)) hF (by kernel_rfl) (yld_ro1 (A := AA9) (j := q) hF rfl (by kernel_rfl) (by kernel_rfl) (roO 11 rfl) (by kernel_rfl) (nt_at (by omega))) fun a hF => ?_
          refine eQ 160 (v0 := .slice AA4 lt.length cc4) (v := .slice AA4 lt.length cc4) hF (by kernel_rfl) (fun _ => by kernel_rfl) rfl fun a hF => ?_
          refine eQ 161 (v0 := .int .i64 (q : Int)) (v := .int .i64 (q : Int)) hF (by kernel_rfl) (fun _ => by kernel_rfl) rfl fun a hF => ?_
          refine eQ2 162 (v := .pointer (some (ea AA4 (q)))) hF (by kernel_rfl) (yld_ix (kd := .i64) (e := 3) (len := lt.length) (cap := cc4) (i := (q : Int)) (size := 1) (A := AA4) hF rfl (by kernel_rfl) (by kernel_rfl) (by kernel_rfl) (by kernel_rfl) (by kernel_rfl) (roO 7 rfl) (by omega) (by omega) (by rw [List.length_map]; omega)) fun a hF => ?_
          refine eQ2 163 (v := .int .i64 (nt og q)) hF (by kernel_rfl) (yld_ro1 (A := AA4) (j := q) hF rfl (by kernel_rfl) (by kernel_rfl) (roO 7 rfl) (by kernel_rfl) (nt_at (by omega))) fun a hF => ?_
          refine eQ 164 (v0 := .bool (decide (nt ol q < nt og q))) (v := .bool false) hF (by kernel_rfl) (fun _ => by kernel_rfl) (bF (by omega)) fun a hF => ?_
          refine wpQuiet_nil ?_
          intro w hM
          refine hK34 _ _ ?_
          refine cF hF (by kernel_rfl) (by kernel_rfl) ?_
          refine wp_skip ?_
          refine hK33 _ _ ?_
          refine wp_region_lit ?_
          refine sB 1 [(154, .int .i64 (q : Int))] hF (by kernel_rfl) fun a hF => ?_
          refine wl (eP 155 (v0 := .int .i64 (IntKind.i64.wrap ((q : Int) + 1))) (v := .int .i64 ((q : Int) + 1)) hF (by kernel_rfl) (fun _ => by kernel_rfl) (wi (by omega)) fun a hF => ?_)
          refine sB 1 [(19, .int .i64 ((q : Int) + 1))] hF (by kernel_rfl) fun a hF => ?_
          refine wpList_nil ?_
          refine hK30 _ _ ⟨(q + 1), ⟨((((Fr.nil hF).c hF (i := 17) rfl rfl).c hF (i := 7) rfl rfl).c hF (i := 19) rfl (vi (show ((q : Int) + 1 : Int) = ((q + 1) : Int) from by omega))), (hM.sub (((((Sub.nil.c (k := 11) rfl rfl).c (k := 7) rfl rfl).c (k := 3) rfl rfl).c (k := 2) rfl rfl).c (k := 1) rfl rfl)), (show ((q + 1) : Int) ≤ (lt.length : Int) from by omega)⟩, (show lt.length - (q + 1) < lt.length - q from by omega)⟩
        · skip
          replace hF := hF.c hF (i := 153) (v := .bool false) rfl (bF hz9)
          refine cF hF (by kernel_rfl) (by kernel_rfl) ?_
          refine wp_exit ?_
          refine hK28 _ _ ?_
          refine wp_seq_k fun K35 hK35 => ?_
          refine wp_region_lit ?_
          refine sB 1 [(4, .bool true)] hF (by kernel_rfl) fun a hF => ?_
          refine wpList_nil ?_
          refine hK35 _ _ ?_
          refine wp_ret ?_
          refine hR0 _ _ ?_
          refine ret_of hF hM (.tmp rfl (.nil)) ?_
          exact ⟨rfl, hM.bel⟩

end Go.Proofs.Ytaekcgapbkmepaa
