/-
  The examples of the shaper.
-/
import Derived.Test.YtjepnlebmgkomaaCrC
namespace Go.Proofs.Ytjepnlebmgkomaa
open Go.RowKit
set_option linter.unusedVariables false
set_option linter.unusedSimpArgs false

set_option maxRecDepth 100000 in
set_option maxHeartbeats 4000000 in
theorem works_w (w0 : World) :
    Calls Try.prog 15 #[] w0 (Ret w0 (.bool true)) := by
  refine enterK 38 Try.func15 rfl rfl rfl ?_
  intro a hF Q0 hR0 hN0
  have hM := Mem.start w0
  refine wp_seq_k fun K1 hK1 => ?_
  refine wp_region_lit ?_
  refine sB 1 [(0, .bool false)] hF (by kernel_rfl) fun a hF => ?_
  refine wpList_nil ?_
  refine hK1 _ _ ?_
  refine wp_seq_k fun K2 hK2 => ?_
  refine wp_region_lit ?_
  refine wl (eN 5 1 (t := 3) (fun b => .slice (some ⟨b, 0, none⟩) 6 6) #[.int .i64 0, .int .i64 100, .int .i64 0, .int .i64 100, .int .i64 0, .int .i64 100] hF hM (by kernel_rfl) (fun _ => by kernel_rfl) fun bb1 a w hF hM => ?_)
  refine wl (sOwn 2 (f := 23) (args := #[.slice (some ⟨bb1, 0, none⟩) 6 6]) (mk := fun v => v) (e := 57) (size := 2) (m := 3) (xs := (flat2 ([(0, 100), (0, 100), (0, 100)]))) hF hM (by kernel_rfl) rfl (by decide) (by kernel_rfl) (fun _ => by kernel_rfl) (trace_w (some ⟨bb1, 0, none⟩) [0, 100, 0, 100, 0, 100] 6 w (hM.roRow (k := 1) rfl) (by decide)) fun AA2 cc2 a w hF hM => ?_)
  refine wl (eN 7 3 (t := 3) (fun b => .slice (some ⟨b, 0, none⟩) 3 3) #[.int .i64 0, .int .i64 800, .int .i64 1600] hF hM (by kernel_rfl) (fun _ => by kernel_rfl) fun bb3 a w hF hM => ?_)
  refine wl (sC (f := 24) (args := #[.slice AA2 3 cc2, .slice none 0 0, .int .i64 1800, .int .i64 (-78643200), .slice (some ⟨bb3, 0, none⟩) 3 3]) hF (by kernel_rfl) rfl (by decide) (by kernel_rfl) (fun _ => by kernel_rfl) ?_)
  refine enterK 36 Try.func24 rfl rfl rfl ?_
  intro a1 hF1 QR3 hR3 hNR3
  refine wp_seq_k fun K4 hK4 => ?_
  refine wp_region_lit ?_
  refine sB 1 [(10, .bool false)] hF1 (by kernel_rfl) fun a1 hF1 => ?_
  refine wpList_nil ?_
  refine hK4 _ _ ?_
  refine wp_seq_k fun K5 hK5 => ?_
  refine wp_region_lit ?_
  refine wl (sC (f := 22) (args := #[]) hF1 (by kernel_rfl) rfl (by decide) (by kernel_rfl) (fun _ => by kernel_rfl) ?_)
  refine enterK 2 Try.func22 rfl rfl rfl ?_
  intro a2 hF2 QR6 hR6 hNR6
  refine wp_seq_k fun K7 hK7 => ?_
  refine wp_region_lit ?_
  refine wl (eN 0 4 (t := 23) (fun b => .pointer (some ⟨b, 0, none⟩)) #[.int .i64 0, .int .i64 0] hF2 hM (by kernel_rfl) (fun _ => by kernel_rfl) fun bb4 a2 w hF2 hM => ?_)
  refine wpList_nil ?_
  refine hK7 _ _ ?_
  refine wp_seq_k fun K8 hK8 => ?_
  refine wp_region_lit ?_
  refine sB 1 [(1, .agg #[.int .i64 131072, .int .i64 2])] hF2 (by kernel_rfl) fun a2 hF2 => ?_
  refine wl (sStore (i := 4) (off := 0) (cs' := #[.int .i64 131072, .int .i64 2]) hF2 hM (by kernel_rfl) rfl rfl (by kernel_rfl) (by kernel_rfl) rfl (by kernel_rfl) fun w hM => ?_)
  refine wpList_nil ?_
  refine hK8 _ _ ?_
  refine wp_ret ?_
  refine hR6 _ _ ?_
  refine ret_of hF2 hM (.cell (i := 4) rfl rfl (v := .agg #[.int .i64 131072, .int .i64 2]) (by kernel_rfl) (.nil)) ⟨_, rfl, ?_⟩
  intro a1 hF1
  refine sB 2 [(16, .slice AA2 3 cc2), (17, .slice none 0 0)] hF1 (by kernel_rfl) fun a1 hF1 => ?_
  refine wl (sOwn 5 (f := 12) (args := #[.agg #[.int .i64 131072, .int .i64 2], .slice AA2 3 cc2, .slice none 0 0]) (mk := fun v => .tuple #[v, .agg #[.int .i64 (1800), .int .i64 (-78643200)], .int .i64 0]) (e := 3) (size := 1) (m := 3) (xs := (([0, 800, 1600]).map (Value.int .i64))) hF1 hM (by kernel_rfl) rfl (by decide) (by kernel_rfl) (fun _ => by kernel_rfl) (crRun_ok (by decide : runS 131072 2 ([(0, 100), (0, 100), (0, 100)]) ([] : List Int) = (0, [0, 800, 1600], 1800, -78643200)) (crRun_w 131072 2 AA2 ([(0, 100), (0, 100), (0, 100)]) cc2 none ([] : List Int) 0 w (ro_of_own (hM.ok 2 _ rfl)) Ro.nil (by decide) (by decide))) fun AA5 cc5 a1 w hF1 hM => ?_)
  refine sB 4 [(14, .tuple #[.slice AA5 3 cc5, .agg #[.int .i64 1800, .int .i64 (-78643200)], .int .i64 0]), (19, .slice AA5 3 cc5), (20, .agg #[.int .i64 1800, .int .i64 (-78643200)]), (21, .int .i64 0)] hF1 (by kernel_rfl) fun a1 hF1 => ?_
  refine wl (eN 12 6 (t := 40) (fun b => .pointer (some ⟨b, 0, none⟩)) #[.int .i64 0, .int .i64 0] hF1 hM (by kernel_rfl) (fun _ => by kernel_rfl) fun bb6 a1 w hF1 hM => ?_)
  refine sB 1 [(11, .slice AA5 3 cc5)] hF1 (by kernel_rfl) fun a1 hF1 => ?_
  refine wl (sStore (i := 6) (off := 0) (cs' := #[.int .i64 1800, .int .i64 (-78643200)]) hF1 hM (by kernel_rfl) rfl rfl (by kernel_rfl) (by kernel_rfl) rfl (by kernel_rfl) fun w hM => ?_)
  refine sB 1 [(13, .int .i64 0)] hF1 (by kernel_rfl) fun a1 hF1 => ?_
  refine wpList_nil ?_
  refine hK5 _ _ ?_
  refine wp_seq_k fun K9 hK9 => ?_
  refine wp_region_lit ?_
  refine sB 1 [(22, .int .i64 0)] hF1 (by kernel_rfl) fun a1 hF1 => ?_
  refine wl (eP 23 (v0 := .bool (decide (0 = 0))) (v := .bool true) hF1 (by kernel_rfl) (fun _ => by kernel_rfl) (bT (by omega)) fun a1 hF1 => ?_)
  refine sB 3 [(24, .bool true), (25, .slice AA5 3 cc5), (26, .slice (some ⟨bb3, 0, none⟩) 3 3)] hF1 (by kernel_rfl) fun a1 hF1 => ?_
  refine wl (eM 27 (v := .bool true) hF1 hM (by kernel_rfl) (yld_call (f := 14) (args := #[.slice AA5 3 cc5, .slice (some ⟨bb3, 0, none⟩) 3 3]) hF1 (by kernel_rfl) (fun _ => by kernel_rfl) (fun w hM => same_yes AA5 ([0, 800, 1600]) cc5 (some ⟨bb3, 0, none⟩) [0, 800, 1600] 3 w (ro_of_own (hM.ok 5 _ rfl)) (hM.roRow (k := 3) rfl) (by decide) (by decide))) fun a1 w hF1 hM => ?_)
  refine sB 2 [(28, .bool true), (29, .bool true)] hF1 (by kernel_rfl) fun a1 hF1 => ?_
  refine wl (eL 30 6 0 (v := .agg #[.int .i64 1800, .int .i64 (-78643200)]) hF1 hM (by kernel_rfl) rfl rfl (by kernel_rfl) (by kernel_rfl) fun a1 w hF1 hM => ?_)
  refine sB 3 [(31, .int .i64 1800), (32, .int .i64 (-78643200)), (33, .agg #[.int .i64 1800, .int .i64 (-78643200)])] hF1 (by kernel_rfl) fun a1 hF1 => ?_
  refine wl (eM 34 (v := .bool true) hF1 hM (by kernel_rfl) ((yld_eql (C := Mem _ _ _) [1800, -78643200] [1800, -78643200] hF1 rfl (by kernel_rfl) (by kernel_rfl) (by kernel_rfl) rfl (by kernel_rfl) (by kernel_rfl) (by kernel_rfl) rfl rfl).to (bT (by decide))) fun a1 w hF1 hM => ?_)
  refine sB 2 [(35, .bool true), (10, .bool true)] hF1 (by kernel_rfl) fun a1 hF1 => ?_
  refine wpList_nil ?_
  refine hK9 _ _ ?_
  refine wp_ret ?_
  refine hR3 _ _ ?_
  refine ret_of hF1 hM (.tmp rfl (.nil)) ⟨_, rfl, ?_⟩
  intro a hF
  refine sB 1 [(1, .bool true)] hF (by kernel_rfl) fun a hF => ?_
  refine wpList_nil ?_
  refine hK2 _ _ ?_
  refine wp_seq_k fun K10 hK10 => ?_
  refine wp_region_lit ?_
  refine wl (eN 9 7 (t := 3) (fun b => .slice (some ⟨b, 0, none⟩) 4 4) #[.int .i64 0, .int .i64 100, .int .i64 5000, .int .i64 100] hF hM (by kernel_rfl) (fun _ => by kernel_rfl) fun bb7 a w hF hM => ?_)
  refine wl (sOwn 8 (f := 23) (args := #[.slice (some ⟨bb7, 0, none⟩) 4 4]) (mk := fun v => v) (e := 57) (size := 2) (m := 2) (xs := (flat2 ([(0, 100), (5000, 100)]))) hF hM (by kernel_rfl) rfl (by decide) (by kernel_rfl) (fun _ => by kernel_rfl) (trace_w (some ⟨bb7, 0, none⟩) [0, 100, 5000, 100] 4 w (hM.roRow (k := 7) rfl) (by decide)) fun AA8 cc8 a w hF hM => ?_)
  refine wl (eN 11 9 (t := 3) (fun b => .slice (some ⟨b, 0, none⟩) 2 2) #[.int .i64 0, .int .i64 5000] hF hM (by kernel_rfl) (fun _ => by kernel_rfl) fun bb9 a w hF hM => ?_)
  refine wl (sC (f := 24) (args := #[.slice AA8 2 cc8, .slice none 0 0, .int .i64 5200, .int .i64 (-78643200), .slice (some ⟨bb9, 0, none⟩) 2 2]) hF (by kernel_rfl) rfl (by decide) (by kernel_rfl) (fun _ => by kernel_rfl) ?_)
  refine enterK 36 Try.func24 rfl rfl rfl ?_
  intro a1 hF1 QR11 hR11 hNR11
  refine wp_seq_k fun K12 hK12 => ?_
  refine wp_region_lit ?_
  refine sB 1 [(10, .bool false)] hF1 (by kernel_rfl) fun a1 hF1 => ?_
  refine wpList_nil ?_
  refine hK12 _ _ ?_
  refine wp_seq_k fun K13 hK13 => ?_
  refine wp_region_lit ?_
  refine wl (sC (f := 22) (args := #[]) hF1 (by kernel_rfl) rfl (by decide) (by kernel_rfl) (fun _ => by kernel_rfl) ?_)
  refine enterK 2 Try.func22 rfl rfl rfl ?_
  intro a2 hF2 QR14 hR14 hNR14
  refine wp_seq_k fun K15 hK15 => ?_
  refine wp_region_lit ?_
  refine wl (eN 0 10 (t := 23) (fun b => .pointer (some ⟨b, 0, none⟩)) #[.int .i64 0, .int .i64 0] hF2 hM (by kernel_rfl) (fun _ => by kernel_rfl) fun bb10 a2 w hF2 hM => ?_)
  refine wpList_nil ?_
  refine hK15 _ _ ?_
  refine wp_seq_k fun K16 hK16 => ?_
  refine wp_region_lit ?_
  refine sB 1 [(1, .agg #[.int .i64 131072, .int .i64 2])] hF2 (by kernel_rfl) fun a2 hF2 => ?_
  refine wl (sStore (i := 10) (off := 0) (cs' := #[.int .i64 131072, .int .i64 2]) hF2 hM (by kernel_rfl) rfl rfl (by kernel_rfl) (by kernel_rfl) rfl (by kernel_rfl) fun w hM => ?_)
  refine wpList_nil ?_
  refine hK16 _ _ ?_
  refine wp_ret ?_
  refine hR14 _ _ ?_
  refine ret_of hF2 hM (.cell (i := 10) rfl rfl (v := .agg #[.int .i64 131072, .int .i64 2]) (by kernel_rfl) (.nil)) ⟨_, rfl, ?_⟩
  intro a1 hF1
  refine sB 2 [(16, .slice AA8 2 cc8), (17, .slice none 0 0)] hF1 (by kernel_rfl) fun a1 hF1 => ?_
  refine wl (sOwn 11 (f := 12) (args := #[.agg #[.int .i64 131072, .int .i64 2], .slice AA8 2 cc8, .slice none 0 0]) (mk := fun v => .tuple #[v, .agg #[.int .i64 (5200), .int .i64 (-78643200)], .int .i64 0]) (e := 3) (size := 1) (m := 2) (xs := (([0, 5000]).map (Value.int .i64))) hF1 hM (by kernel_rfl) rfl (by decide) (by kernel_rfl) (fun _ => by kernel_rfl) (crRun_ok (by decide : runS 131072 2 ([(0, 100), (5000, 100)]) ([] : List Int) = (0, [0, 5000], 5200, -78643200)) (crRun_w 131072 2 AA8 ([(0, 100), (5000, 100)]) cc8 none ([] : List Int) 0 w (ro_of_own (hM.ok 8 _ rfl)) Ro.nil (by decide) (by decide))) fun AA11 cc11 a1 w hF1 hM => ?_)
  refine sB 4 [(14, .tuple #[.slice AA11 2 cc11, .agg #[.int .i64 5200, .int .i64 (-78643200)], .int .i64 0]), (19, .slice AA11 2 cc11), (20, .agg #[.int .i64 5200, .int .i64 (-78643200)]), (21, .int .i64 0)] hF1 (by kernel_rfl) fun a1 hF1 => ?_
  refine wl (eN 12 12 (t := 40) (fun b => .pointer (some ⟨b, 0, none⟩)) #[.int .i64 0, .int .i64 0] hF1 hM (by kernel_rfl) (fun _ => by kernel_rfl) fun bb12 a1 w hF1 hM => ?_)
  refine sB 1 [(11, .slice AA11 2 cc11)] hF1 (by kernel_rfl) fun a1 hF1 => ?_
  refine wl (sStore (i := 12) (off := 0) (cs' := #[.int .i64 5200, .int .i64 (-78643200)]) hF1 hM (by kernel_rfl) rfl rfl (by kernel_rfl) (by kernel_rfl) rfl (by kernel_rfl) fun w hM => ?_)
  refine sB 1 [(13, .int .i64 0)] hF1 (by kernel_rfl) fun a1 hF1 => ?_
  refine wpList_nil ?_
  refine hK13 _ _ ?_
  refine wp_seq_k fun K17 hK17 => ?_
  refine wp_region_lit ?_
  refine sB 1 [(22, .int .i64 0)] hF1 (by kernel_rfl) fun a1 hF1 => ?_
  refine wl (eP 23 (v0 := .bool (decide (0 = 0))) (v := .bool true) hF1 (by kernel_rfl) (fun _ => by kernel_rfl) (bT (by omega)) fun a1 hF1 => ?_)
  refine sB 3 [(24, .bool true), (25, .slice AA11 2 cc11), (26, .slice (some ⟨bb9, 0, none⟩) 2 2)] hF1 (by kernel_rfl) fun a1 hF1 => ?_
  refine wl (eM 27 (v := .bool true) hF1 hM (by kernel_rfl) (yld_call (f := 14) (args := #[.slice AA11 2 cc11, .slice (some ⟨bb9, 0, none⟩) 2 2]) hF1 (by kernel_rfl) (fun _ => by kernel_rfl) (fun w hM => same_yes AA11 ([0, 5000]) cc11 (some ⟨bb9, 0, none⟩) [0, 5000] 2 w (ro_of_own (hM.ok 11 _ rfl)) (hM.roRow (k := 9) rfl) (by decide) (by decide))) fun a1 w hF1 hM => ?_)
  refine sB 2 [(28, .bool true), (29, .bool true)] hF1 (by kernel_rfl) fun a1 hF1 => ?_
  refine wl (eL 30 12 0 (v := .agg #[.int .i64 5200, .int .i64 (-78643200)]) hF1 hM (by kernel_rfl) rfl rfl (by kernel_rfl) (by kernel_rfl) fun a1 w hF1 hM => ?_)
  refine sB 3 [(31, .int .i64 5200), (32, .int .i64 (-78643200)), (33, .agg #[.int .i64 5200, .int .i64 (-78643200)])] hF1 (by kernel_rfl) fun a1 hF1 => ?_
  refine wl (eM 34 (v := .bool true) hF1 hM (by kernel_rfl) ((yld_eql (C := Mem _ _ _) [5200, -78643200] [5200, -78643200] hF1 rfl (by kernel_rfl) (by kernel_rfl) (by kernel_rfl) rfl (by kernel_rfl) (by kernel_rfl) (by kernel_rfl) rfl rfl).to (bT (by decide))) fun a1 w hF1 hM => ?_)
  refine sB 2 [(35, .bool true), (10, .bool true)] hF1 (by kernel_rfl) fun a1 hF1 => ?_
  refine wpList_nil ?_
  refine hK17 _ _ ?_
  refine wp_ret ?_
  refine hR11 _ _ ?_
  refine ret_of hF1 hM (.tmp rfl (.nil)) ⟨_, rfl, ?_⟩
  intro a hF
  refine sB 1 [(2, .bool true)] hF (by kernel_rfl) fun a hF => ?_
  refine wpList_nil ?_
  refine hK10 _ _ ?_
  refine wp_seq_k fun K18 hK18 => ?_
  refine wp_region_lit ?_
  refine wl (eN 13 13 (t := 3) (fun b => .slice (some ⟨b, 0, none⟩) 4 4) #[.int .i64 0, .int .i64 100, .int .i64 0, .int .i64 100] hF hM (by kernel_rfl) (fun _ => by kernel_rfl) fun bb13 a w hF hM => ?_)
  refine wl (sOwn 14 (f := 23) (args := #[.slice (some ⟨bb13, 0, none⟩) 4 4]) (mk := fun v => v) (e := 57) (size := 2) (m := 2) (xs := (flat2 ([(0, 100), (0, 100)]))) hF hM (by kernel_rfl) rfl (by decide) (by kernel_rfl) (fun _ => by kernel_rfl) (trace_w (some ⟨bb13, 0, none⟩) [0, 100, 0, 100] 4 w (hM.roRow (k := 13) rfl) (by decide)) fun AA14 cc14 a w hF hM => ?_)
  refine wl (eN 15 15 (t := 3) (fun b => .slice (some ⟨b, 0, none⟩) 1 1) #[.int .i64 400] hF hM (by kernel_rfl) (fun _ => by kernel_rfl) fun bb15 a w hF hM => ?_)
  refine wl (eN 16 16 (t := 3) (fun b => .slice (some ⟨b, 0, none⟩) 2 2) #[.int .i64 400, .int .i64 800] hF hM (by kernel_rfl) (fun _ => by kernel_rfl) fun bb16 a w hF hM => ?_)
  refine wl (sC (f := 24) (args := #[.slice AA14 2 cc14, .slice (some ⟨bb15, 0, none⟩) 1 1, .int .i64 1000, .int .i64 (-78643200), .slice (some ⟨bb16, 0, none⟩) 2 2]) hF (by kernel_rfl) rfl (by decide) (by kernel_rfl) (fun _ => by kernel_rfl) ?_)
  refine enterK 36 Try.func24 rfl rfl rfl ?_
  intro a1 hF1 QR19 hR19 hNR19
  refine wp_seq_k fun K20 hK20 => ?_
  refine wp_region_lit ?_
  refine sB 1 [(10, .bool false)] hF1 (by kernel_rfl) fun a1 hF1 => ?_
  refine wpList_nil ?_
  refine hK20 _ _ ?_
  refine wp_seq_k fun K21 hK21 => ?_
  refine wp_region_lit ?_
  refine wl (sC (f := 22) (args := #[]) hF1 (by kernel_rfl) rfl (by decide) (by kernel_rfl) (fun _ => by kernel_rfl) ?_)
  refine enterK 2 Try.func22 rfl rfl rfl ?_
  intro a2 hF2 QR22 hR22 hNR22
  refine wp_seq_k fun K23 hK23 => ?_
  refine wp_region_lit ?_
  refine wl (eN 0 17 (t := 23) (fun b => .pointer (some ⟨b, 0, none⟩)) #[.int .i64 0, .int .i64 0] hF2 hM (by kernel_rfl) (fun _ => by kernel_rfl) fun bb17 a2 w hF2 hM => ?_)
  refine wpList_nil ?_
  refine hK23 _ _ ?_
  refine wp_seq_k fun K24 hK24 => ?_
  refine wp_region_lit ?_
  refine sB 1 [(1, .agg #[.int .i64 131072, .int .i64 2])] hF2 (by kernel_rfl) fun a2 hF2 => ?_
  refine wl (sStore (i := 17) (off := 0) (cs' := #[.int .i64 131072, .int .i64 2]) hF2 hM (by kernel_rfl) rfl rfl (by kernel_rfl) (by kernel_rfl) rfl (by kernel_rfl) fun w hM => ?_)
  refine wpList_nil ?_
  refine hK24 _ _ ?_
  refine wp_ret ?_
  refine hR22 _ _ ?_
  refine ret_of hF2 hM (.cell (i := 17) rfl rfl (v := .agg #[.int .i64 131072, .int .i64 2]) (by kernel_rfl) (.nil)) ⟨_, rfl, ?_⟩
  intro a1 hF1
  refine sB 2 [(16, .slice AA14 2 cc14), (17, .slice (some ⟨bb15, 0, none⟩) 1 1)] hF1 (by kernel_rfl) fun a1 hF1 => ?_
  refine wl (sOwn 18 (f := 12) (args := #[.agg #[.int .i64 131072, .int .i64 2], .slice AA14 2 cc14, .slice (some ⟨bb15, 0, none⟩) 1 1]) (mk := fun v => .tuple #[v, .agg #[.int .i64 (1000), .int .i64 (-78643200)], .int .i64 0]) (e := 3) (size := 1) (m := 2) (xs := (([400, 800]).map (Value.int .i64))) hF1 hM (by kernel_rfl) rfl (by decide) (by kernel_rfl) (fun _ => by kernel_rfl) (crRun_ok (by decide : runS 131072 2 ([(0, 100), (0, 100)]) [400] = (0, [400, 800], 1000, -78643200)) (crRun_w 131072 2 AA14 ([(0, 100), (0, 100)]) cc14 (some ⟨bb15, 0, none⟩) [400] 1 w (ro_of_own (hM.ok 14 _ rfl)) (hM.roRow (k := 15) rfl) (by decide) (by decide))) fun AA18 cc18 a1 w hF1 hM => ?_)
  refine sB 4 [(14, .tuple #[.slice AA18 2 cc18, .agg #[.int .i64 1000, .int .i64 (-78643200)], .int .i64 0]), (19, .slice AA18 2 cc18), (20, .agg #[.int .i64 1000, .int .i64 (-78643200)]), (21, .int .i64 0)] hF1 (by kernel_rfl) fun a1 hF1 => ?_
  refine wl (eN 12 19 (t := 40) (fun b => .pointer (some ⟨b, 0, none⟩)) #[.int .i64 0, .int .i64 0] hF1 hM (by kernel_rfl) (fun _ => by kernel_rfl) fun bb19 a1 w hF1 hM => ?_)
  refine sB 1 [(11, .slice AA18 2 cc18)] hF1 (by kernel_rfl) fun a1 hF1 => ?_
  refine wl (sStore (i := 19) (off := 0) (cs' := #[.int .i64 1000, .int .i64 (-78643200)]) hF1 hM (by kernel_rfl) rfl rfl (by kernel_rfl) (by kernel_rfl) rfl (by kernel_rfl) fun w hM => ?_)
  refine sB 1 [(13, .int .i64 0)] hF1 (by kernel_rfl) fun a1 hF1 => ?_
  refine wpList_nil ?_
  refine hK21 _ _ ?_
  refine wp_seq_k fun K25 hK25 => ?_
  refine wp_region_lit ?_
  refine sB 1 [(22, .int .i64 0)] hF1 (by kernel_rfl) fun a1 hF1 => ?_
  refine wl (eP 23 (v0 := .bool (decide (0 = 0))) (v := .bool true) hF1 (by kernel_rfl) (fun _ => by kernel_rfl) (bT (by omega)) fun a1 hF1 => ?_)
  refine sB 3 [(24, .bool true), (25, .slice AA18 2 cc18), (26, .slice (some ⟨bb16, 0, none⟩) 2 2)] hF1 (by kernel_rfl) fun a1 hF1 => ?_
  refine wl (eM 27 (v := .bool true) hF1 hM (by kernel_rfl) (yld_call (f := 14) (args := #[.slice AA18 2 cc18, .slice (some ⟨bb16, 0, none⟩) 2 2]) hF1 (by kernel_rfl) (fun _ => by kernel_rfl) (fun w hM => same_yes AA18 ([400, 800]) cc18 (some ⟨bb16, 0, none⟩) [400, 800] 2 w (ro_of_own (hM.ok 18 _ rfl)) (hM.roRow (k := 16) rfl) (by decide) (by decide))) fun a1 w hF1 hM => ?_)
  refine sB 2 [(28, .bool true), (29, .bool true)] hF1 (by kernel_rfl) fun a1 hF1 => ?_
  refine wl (eL 30 19 0 (v := .agg #[.int .i64 1000, .int .i64 (-78643200)]) hF1 hM (by kernel_rfl) rfl rfl (by kernel_rfl) (by kernel_rfl) fun a1 w hF1 hM => ?_)
  refine sB 3 [(31, .int .i64 1000), (32, .int .i64 (-78643200)), (33, .agg #[.int .i64 1000, .int .i64 (-78643200)])] hF1 (by kernel_rfl) fun a1 hF1 => ?_
  refine wl (eM 34 (v := .bool true) hF1 hM (by kernel_rfl) ((yld_eql (C := Mem _ _ _) [1000, -78643200] [1000, -78643200] hF1 rfl (by kernel_rfl) (by kernel_rfl) (by kernel_rfl) rfl (by kernel_rfl) (by kernel_rfl) (by kernel_rfl) rfl rfl).to (bT (by decide))) fun a1 w hF1 hM => ?_)
  refine sB 2 [(35, .bool true), (10, .bool true)] hF1 (by kernel_rfl) fun a1 hF1 => ?_
  refine wpList_nil ?_
  refine hK25 _ _ ?_
  refine wp_ret ?_
  refine hR19 _ _ ?_
  refine ret_of hF1 hM (.tmp rfl (.nil)) ⟨_, rfl, ?_⟩
  intro a hF
  refine sB 1 [(3, .bool true)] hF (by kernel_rfl) fun a hF => ?_
  refine wpList_nil ?_
  refine hK18 _ _ ?_
  refine wp_seq_k fun K26 hK26 => ?_
  refine wp_region_lit ?_
  refine wl (eN 18 20 (t := 3) (fun b => .slice (some ⟨b, 0, none⟩) 4 4) #[.int .i64 0, .int .i64 100, .int .i64 8100, .int .i64 10] hF hM (by kernel_rfl) (fun _ => by kernel_rfl) fun bb20 a w hF hM => ?_)
  refine wl (sOwn 21 (f := 23) (args := #[.slice (some ⟨bb20, 0, none⟩) 4 4]) (mk := fun v => v) (e := 57) (size := 2) (m := 2) (xs := (flat2 ([(0, 100), (8100, 10)]))) hF hM (by kernel_rfl) rfl (by decide) (by kernel_rfl) (fun _ => by kernel_rfl) (trace_w (some ⟨bb20, 0, none⟩) [0, 100, 8100, 10] 4 w (hM.roRow (k := 20) rfl) (by decide)) fun AA21 cc21 a w hF hM => ?_)
  refine wl (eN 20 22 (t := 3) (fun b => .slice (some ⟨b, 0, none⟩) 1 1) #[.int .i64 8000] hF hM (by kernel_rfl) (fun _ => by kernel_rfl) fun bb22 a w hF hM => ?_)
  refine wl (eN 21 23 (t := 3) (fun b => .slice (some ⟨b, 0, none⟩) 2 2) #[.int .i64 8000, .int .i64 8200] hF hM (by kernel_rfl) (fun _ => by kernel_rfl) fun bb23 a w hF hM => ?_)
  refine wl (sC (f := 24) (args := #[.slice AA21 2 cc21, .slice (some ⟨bb22, 0, none⟩) 1 1, .int .i64 8220, .int .i64 962068480, .slice (some ⟨bb23, 0, none⟩) 2 2]) hF (by kernel_rfl) rfl (by decide) (by kernel_rfl) (fun _ => by kernel_rfl) ?_)
  refine enterK 36 Try.func24 rfl rfl rfl ?_
  intro a1 hF1 QR27 hR27 hNR27
  refine wp_seq_k fun K28 hK28 => ?_
  refine wp_region_lit ?_
  refine sB 1 [(10, .bool false)] hF1 (by kernel_rfl) fun a1 hF1 => ?_
  refine wpList_nil ?_
  refine hK28 _ _ ?_
  refine wp_seq_k fun K29 hK29 => ?_
  refine wp_region_lit ?_
  refine wl (sC (f := 22) (args := #[]) hF1 (by kernel_rfl) rfl (by decide) (by kernel_rfl) (fun _ => by kernel_rfl) ?_)
  refine enterK 2 Try.func22 rfl rfl rfl ?_
  intro a2 hF2 QR30 hR30 hNR30
  refine wp_seq_k fun K31 hK31 => ?_
  refine wp_region_lit ?_
  refine wl (eN 0 24 (t := 23) (fun b => .pointer (some ⟨b, 0, none⟩)) #[.int .i64 0, .int .i64 0] hF2 hM (by kernel_rfl) (fun _ => by kernel_rfl) fun bb24 a2 w hF2 hM => ?_)
  refine wpList_nil ?_
  refine hK31 _ _ ?_
  refine wp_seq_k fun K32 hK32 => ?_
  refine wp_region_lit ?_
  refine sB 1 [(1, .agg #[.int .i64 131072, .int .i64 2])] hF2 (by kernel_rfl) fun a2 hF2 => ?_
  refine wl (sStore (i := 24) (off := 0) (cs' := #[.int .i64 131072, .int .i64 2]) hF2 hM (by kernel_rfl) rfl rfl (by kernel_rfl) (by kernel_rfl) rfl (by kernel_rfl) fun w hM => ?_)
  refine wpList_nil ?_
  refine hK32 _ _ ?_
  refine wp_ret ?_
  refine hR30 _ _ ?_
  refine ret_of hF2 hM (.cell (i := 24) rfl rfl (v := .agg #[.int .i64 131072, .int .i64 2]) (by kernel_rfl) (.nil)) ⟨_, rfl, ?_⟩
  intro a1 hF1
  refine sB 2 [(16, .slice AA21 2 cc21), (17, .slice (some ⟨bb22, 0, none⟩) 1 1)] hF1 (by kernel_rfl) fun a1 hF1 => ?_
  refine wl (sOwn 25 (f := 12) (args := #[.agg #[.int .i64 131072, .int .i64 2], .slice AA21 2 cc21, .slice (some ⟨bb22, 0, none⟩) 1 1]) (mk := fun v => .tuple #[v, .agg #[.int .i64 (8220), .int .i64 (962068480)], .int .i64 0]) (e := 3) (size := 1) (m := 2) (xs := (([8000, 8200]).map (Value.int .i64))) hF1 hM (by kernel_rfl) rfl (by decide) (by kernel_rfl) (fun _ => by kernel_rfl) (crRun_ok (by decide : runS 131072 2 ([(0, 100), (8100, 10)]) [8000] = (0, [8000, 8200], 8220, 962068480)) (crRun_w 131072 2 AA21 ([(0, 100), (8100, 10)]) cc21 (some ⟨bb22, 0, none⟩) [8000] 1 w (ro_of_own (hM.ok 21 _ rfl)) (hM.roRow (k := 22) rfl) (by decide) (by decide))) fun AA25 cc25 a1 w hF1 hM => ?_)
  refine sB 4 [(14, .tuple #[.slice AA25 2 cc25, .agg #[.int .i64 8220, .int .i64 962068480], .int .i64 0]), (19, .slice AA25 2 cc25), (20, .agg #[.int .i64 8220, .int .i64 962068480]), (21, .int .i64 0)] hF1 (by kernel_rfl) fun a1 hF1 => ?_
  refine wl (eN 12 26 (t := 40) (fun b => .pointer (some ⟨b, 0, none⟩)) #[.int .i64 0, .int .i64 0] hF1 hM (by kernel_rfl) (fun _ => by kernel_rfl) fun bb26 a1 w hF1 hM => ?_)
  refine sB 1 [(11, .slice AA25 2 cc25)] hF1 (by kernel_rfl) fun a1 hF1 => ?_
  refine wl (sStore (i := 26) (off := 0) (cs' := #[.int .i64 8220, .int .i64 962068480]) hF1 hM (by kernel_rfl) rfl rfl (by kernel_rfl) (by kernel_rfl) rfl (by kernel_rfl) fun w hM => ?_)
  refine sB 1 [(13, .int .i64 0)] hF1 (by kernel_rfl) fun a1 hF1 => ?_
  refine wpList_nil ?_
  refine hK29 _ _ ?_
  refine wp_seq_k fun K33 hK33 => ?_
  refine wp_region_lit ?_
  refine sB 1 [(22, .int .i64 0)] hF1 (by kernel_rfl) fun a1 hF1 => ?_
  refine wl (eP 23 (v0 := .bool (decide (0 = 0))) (v := .bool true) hF1 (by kernel_rfl) (fun _ => by kernel_rfl) (bT (by omega)) fun a1 hF1 => ?_)
  refine sB 3 [(24, .bool true), (25, .slice AA25 2 cc25), (26, .slice (some ⟨bb23, 0, none⟩) 2 2)] hF1 (by kernel_rfl) fun a1 hF1 => ?_
  refine wl (eM 27 (v := .bool true) hF1 hM (by kernel_rfl) (yld_call (f := 14) (args := #[.slice AA25 2 cc25, .slice (some ⟨bb23, 0, none⟩) 2 2]) hF1 (by kernel_rfl) (fun _ => by kernel_rfl) (fun w hM => same_yes AA25 ([8000, 8200]) cc25 (some ⟨bb23, 0, none⟩) [8000, 8200] 2 w (ro_of_own (hM.ok 25 _ rfl)) (hM.roRow (k := 23) rfl) (by decide) (by decide))) fun a1 w hF1 hM => ?_)
  refine sB 2 [(28, .bool true), (29, .bool true)] hF1 (by kernel_rfl) fun a1 hF1 => ?_
  refine wl (eL 30 26 0 (v := .agg #[.int .i64 8220, .int .i64 962068480]) hF1 hM (by kernel_rfl) rfl rfl (by kernel_rfl) (by kernel_rfl) fun a1 w hF1 hM => ?_)
  refine sB 3 [(31, .int .i64 8220), (32, .int .i64 962068480), (33, .agg #[.int .i64 8220, .int .i64 962068480])] hF1 (by kernel_rfl) fun a1 hF1 => ?_
  refine wl (eM 34 (v := .bool true) hF1 hM (by kernel_rfl) ((yld_eql (C := Mem _ _ _) [8220, 962068480] [8220, 962068480] hF1 rfl (by kernel_rfl) (by kernel_rfl) (by kernel_rfl) rfl (by kernel_rfl) (by kernel_rfl) (by kernel_rfl) rfl rfl).to (bT (by decide))) fun a1 w hF1 hM => ?_)
  refine sB 2 [(35, .bool true), (10, .bool true)] hF1 (by kernel_rfl) fun a1 hF1 => ?_
  refine wpList_nil ?_
  refine hK33 _ _ ?_
  refine wp_ret ?_
  refine hR27 _ _ ?_
  refine ret_of hF1 hM (.tmp rfl (.nil)) ⟨_, rfl, ?_⟩
  intro a hF
  refine sB 1 [(4, .bool true)] hF (by kernel_rfl) fun a hF => ?_
  refine wpList_nil ?_
  refine hK26 _ _ ?_
  refine wp_seq_k fun K34 hK34 => ?_
  refine wp_region_lit ?_
  refine sB 12 [(23, .bool true), (24, .bool true), (25, .bool true), (26, .bool true), (27, .bool true), (28, .bool true), (29, .bool true), (30, .bool true), (31, .bool true), (32, .bool true), (33, .bool true), (34, .agg #[.int .i64 524288, .int .i64 2])] hF (by kernel_rfl) fun a hF => ?_
  refine wl (eM 35 (v := .int .i64 450) hF hM (by kernel_rfl) (Yld.to (yld_call (f := 16) (args := #[.agg #[.int .i64 524288, .int .i64 2]]) hF (by kernel_rfl) (fun _ => by kernel_rfl) (fun w hM => crCheck_w 524288 2 w)) (by kernel_rfl)) fun a w hF hM => ?_)
  refine wl (eP 36 (v0 := .bool (decide (450 = 450))) (v := .bool true) hF (by kernel_rfl) (fun _ => by kernel_rfl) (bT (by omega)) fun a hF => ?_)
  refine sB 2 [(37, .bool true), (0, .bool true)] hF (by kernel_rfl) fun a hF => ?_
  refine wpList_nil ?_
  refine hK34 _ _ ?_
  refine wp_ret ?_
  refine hR0 _ _ ?_
  refine ret_of hF hM (.tmp rfl (.nil)) ?_
  exact ⟨rfl, hM.bel⟩

end Go.Proofs.Ytjepnlebmgkomaa
