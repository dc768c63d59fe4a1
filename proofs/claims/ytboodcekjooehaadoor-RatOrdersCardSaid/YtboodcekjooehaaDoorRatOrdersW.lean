/-
  The walk of RatOrders.
-/
import Derived.Test.YtboodcekjooehaaDoorRatE
namespace Go.Proofs.YtboodcekjooehaaDoor
open Go.RowKit
set_option linter.unusedVariables false
set_option linter.unusedSimpArgs false

set_option maxRecDepth 100000 in
set_option maxHeartbeats 8000000 in
theorem ratOrders_walk (an ad bn bd : Int) (w0 : World) (hT : Tab w0) :
    Calls Tryd.prog 9 #[.agg #[.int .i64 an, .int .i64 ad], .agg #[.int .i64 bn, .int .i64 bd]] w0 (Ret w0 (.bool true)) := by
  refine enterK 153 Tryd.func9 rfl rfl rfl ?_
  intro a hF Q0 hR0 hN0
  have hM := Mem.start w0
  refine wp_seq_k fun K1 hK1 => ?_
  refine wp_region_lit ?_
  refine wl (eN 2 1 (t := 23) (fun b => .pointer (some ⟨b, 0, none⟩)) #[.int .i64 an, .int .i64 ad] hF hM (by kernel_rfl) (fun _ => by kernel_rfl) fun bb1 a w hF hM => ?_)
  refine wl (eN 3 2 (t := 23) (fun b => .pointer (some ⟨b, 0, none⟩)) #[.int .i64 bn, .int .i64 bd] hF hM (by kernel_rfl) (fun _ => by kernel_rfl) fun bb2 a w hF hM => ?_)
  refine sB 1 [(4, .bool false)] hF (by kernel_rfl) fun a hF => ?_
  refine wpList_nil ?_
  refine hK1 _ _ ?_
  refine wp_seq_k fun K2 hK2 => ?_
  refine wp_seq_k fun K3 hK3 => ?_
  refine wp_region_lit ?_
  refine wl (eL 27 1 0 (v := .agg #[.int .i64 an, .int .i64 ad]) hF hM (by kernel_rfl) rfl rfl (by kernel_rfl) (by kernel_rfl) fun a w hF hM => ?_)
  refine wl (eL 28 2 0 (v := .agg #[.int .i64 bn, .int .i64 bd]) hF hM (by kernel_rfl) rfl rfl (by kernel_rfl) (by kernel_rfl) fun a w hF hM => ?_)
  refine wl (eM 29 (v := .agg #[.int .i64 an, .int .i64 ad, .int .i64 bn, .int .i64 bd, .int .i64 (ofN an ad), .int .i64 (ofD an ad), .int .i64 (ofN bn bd), .int .i64 (ofD bn bd), .int .i64 an, .int .i64 ad, .int .i64 (ofN bn bd), .int .i64 (ofD bn bd), .int .i64 (ofN an ad), .int .i64 (ofD an ad), .int .i64 (ofN an ad), .int .i64 (ofD an ad)]) hF hM (by kernel_rfl) (yld_call (f := 15) (args := #[.agg #[.int .i64 an, .int .i64 ad], .agg #[.int .i64 bn, .int .i64 bd]]) hF (by kernel_rfl) (fun _ => by kernel_rfl) (fun w hM => pairs_w an ad bn bd w)) fun a w hF hM => ?_)
  refine sB 1 [(30, .int .i64 0)] hF (by kernel_rfl) fun a hF => ?_
  refine wpList_nil ?_
  refine hK3 _ _ ?_
  refine wp_block ?_
  refine wp_loop_k (G := Nat) (fun gg a w => Fr 153 [(30, some (.int .i64 (gg : Int))), (29, some (.agg #[.int .i64 an, .int .i64 ad, .int .i64 bn, .int .i64 bd, .int .i64 (ofN an ad), .int .i64 (ofD an ad), .int .i64 (ofN bn bd), .int .i64 (ofD bn bd), .int .i64 an, .int .i64 ad, .int .i64 (ofN bn bd), .int .i64 (ofD bn bd), .int .i64 (ofN an ad), .int .i64 (ofD an ad), .int .i64 (ofN an ad), .int .i64 (ofD an ad)]))] a ∧ Mem w0.heap.size w0 [] w ∧ ((gg : Int) ≤ 4)) (fun gg => 4 - gg) (0) ?_ ?_
  · refine ⟨(((Fr.nil hF).c hF (i := 29) rfl rfl).c hF (i := 30) rfl (vi (show (0 : Int) = (0 : Int) from by omega))), (hM.sub Sub.nil), (show (0 : Int) ≤ 4 from by omega)⟩
  · intro gg a w hI
    intro K4 hK4
    obtain ⟨k30, rfl⟩ : ∃ x, x = gg := ⟨_, rfl⟩
    try dsimp only at hI hK4
    obtain ⟨hF, hM, hz1⟩ := hI
    refine wp_seq_k fun K5 hK5 => ?_
    refine wp_region_lit ?_
    refine sB 1 [(31, .bool (decide ((k30 : Int) < 4)))] hF (by kernel_rfl) fun a hF => ?_
    refine wpList_nil ?_
    refine hK5 _ _ ?_
    refine wp_seq_k fun K6 hK6 => ?_
    by_cases hz2 : (k30 : Int) < 4
    · skip
      replace hF := hF.c hF (i := 31) (v := .bool true) rfl (bT hz2)
      refine cT hF (by kernel_rfl) (by kernel_rfl) ?_
      refine wp_skip ?_
      refine hK6 _ _ ?_
      refine wp_seq_k fun K7 hK7 => ?_
      refine wp_block ?_
      refine wp_seq_k fun K8 hK8 => ?_
      refine wp_region_lit ?_
      obtain ⟨ys2, hl2, hm2, hy2⟩ := idx_agg (P := Tryd.prog) (t := 34) (e := 33) (len := 4) (m := 4) (kd := .i64) [an, ad, bn, bd, ofN an ad, ofD an ad, ofN bn bd, ofD bn bd, an, ad, ofN bn bd, ofD bn bd, ofN an ad, ofD an ad, ofN an ad, ofD an ad] ((k30 : Int)) (by kernel_rfl) (by kernel_rfl) (by omega) rfl
      obtain ⟨y2_0, y2_1, y2_2, y2_3, rfl⟩ := len4 hl2
      refine wl (eM 32 (v := .agg #[.int .i64 y2_0, .int .i64 y2_1, .int .i64 y2_2, .int .i64 y2_3]) hF hM (by kernel_rfl) (yld_index (X := .agg #[.int .i64 an, .int .i64 ad, .int .i64 bn, .int .i64 bd, .int .i64 (ofN an ad), .int .i64 (ofD an ad), .int .i64 (ofN bn bd), .int .i64 (ofD bn bd), .int .i64 an, .int .i64 ad, .int .i64 (ofN bn bd), .int .i64 (ofD bn bd), .int .i64 (ofN an ad), .int .i64 (ofD an ad), .int .i64 (ofN an ad), .int .i64 (ofD an ad)]) (I := .int .i64 ((k30 : Int))) hF rfl (by kernel_rfl) (by kernel_rfl) (by kernel_rfl) (fun w => hy2 w)) fun a w hF hM => ?_)
      refine wl (eN 6 3 (t := 33) (fun b => .pointer (some ⟨b, 0, none⟩)) #[.int .i64 0, .int .i64 0, .int .i64 0, .int .i64 0] hF hM (by kernel_rfl) (fun _ => by kernel_rfl) fun bb3 a w hF hM => ?_)
      refine wl (sStore (i := 3) (off := 0) (cs' := #[.int .i64 y2_0, .int .i64 y2_1, .int .i64 y2_2, .int .i64 y2_3]) hF hM (by kernel_rfl) rfl rfl (by kernel_rfl) (by kernel_rfl) rfl (by kernel_rfl) fun w hM => ?_)
      refine wpList_nil ?_
      refine hK8 _ _ ?_
      refine wp_seq_k fun K9 hK9 => ?_
      by_cases hz3 : raE y2_0 y2_1 = 0
      · skip
        have hz4 := raE_ok hz3
        by_cases hz5 : raE y2_2 y2_3 = 0
        · skip
          have hz6 := raE_ok hz5
          refine wp_region_lit ?_
          refine sB 1 [(34, .pointer (some ⟨bb3, 0, none⟩))] hF (by kernel_rfl) fun a hF => ?_
          refine wl (eL 35 3 0 (v := .agg #[.int .i64 y2_0, .int .i64 y2_1]) hF hM (by kernel_rfl) rfl rfl (by kernel_rfl) (by kernel_rfl) fun a w hF hM => ?_)
          refine sB 1 [(36, .pointer (some ⟨bb3, 2, none⟩))] hF (by kernel_rfl) fun a hF => ?_
          refine wl (eL 37 3 2 (v := .agg #[.int .i64 y2_2, .int .i64 y2_3]) hF hM (by kernel_rfl) rfl rfl (by kernel_rfl) (by kernel_rfl) fun a w hF hM => ?_)
          refine wl (eM 38 (v := .tuple #[.int .i64 (rcV y2_0 y2_1 y2_2 y2_3), .int .i64 0]) hF hM (by kernel_rfl) (yld_call (f := 25) (args := #[.agg #[.int .i64 y2_0, .int .i64 y2_1], .agg #[.int .i64 y2_2, .int .i64 y2_3]]) hF (by kernel_rfl) (fun _ => by kernel_rfl) (fun w hM => raCmp_ok y2_0 y2_1 y2_2 y2_3 w (hT.below (Nat.le_refl _) hM.bel) hz3 hz5)) fun a w hF hM => ?_)
          have := rcV_bd y2_0 y2_1 y2_2 y2_3
          refine sB 5 [(33, .tuple #[.int .i64 (rcV y2_0 y2_1 y2_2 y2_3), .int .i64 0]), (39, .int .i64 (rcV y2_0 y2_1 y2_2 y2_3)), (40, .int .i64 0), (7, .int .i64 (rcV y2_0 y2_1 y2_2 y2_3)), (8, .int .i64 0)] hF (by kernel_rfl) fun a hF => ?_
          refine wpList_nil ?_
          refine hK9 _ _ ?_
          refine wp_seq_k fun K10 hK10 => ?_
          refine wp_region_lit ?_
          refine sB 1 [(42, .pointer (some ⟨bb3, 0, none⟩))] hF (by kernel_rfl) fun a hF => ?_
          refine wl (eL 43 3 0 (v := .agg #[.int .i64 y2_0, .int .i64 y2_1]) hF hM (by kernel_rfl) rfl rfl (by kernel_rfl) (by kernel_rfl) fun a w hF hM => ?_)
          refine sB 1 [(44, .pointer (some ⟨bb3, 2, none⟩))] hF (by kernel_rfl) fun a hF => ?_
          refine wl (eL 45 3 2 (v := .agg #[.int .i64 y2_2, .int .i64 y2_3]) hF hM (by kernel_rfl) rfl rfl (by kernel_rfl) (by kernel_rfl) fun a w hF hM => ?_)
          refine wl (eM 46 (v := .tuple #[.int .i64 (rcV y2_0 y2_1 y2_2 y2_3), .int .i64 0]) hF hM (by kernel_rfl) (yld_call (f := 31) (args := #[.agg #[.int .i64 y2_0, .int .i64 y2_1], .agg #[.int .i64 y2_2, .int .i64 y2_3]]) hF (by kernel_rfl) (fun _ => by kernel_rfl) (fun w hM => rbCmp_ok y2_0 y2_1 y2_2 y2_3 w hz3 hz5)) fun a w hF hM => ?_)
          have := rcV_bd y2_0 y2_1 y2_2 y2_3
          refine sB 5 [(41, .tuple #[.int .i64 (rcV y2_0 y2_1 y2_2 y2_3), .int .i64 0]), (47, .int .i64 (rcV y2_0 y2_1 y2_2 y2_3)), (48, .int .i64 0), (9, .int .i64 (rcV y2_0 y2_1 y2_2 y2_3)), (10, .int .i64 0)] hF (by kernel_rfl) fun a hF => ?_
          refine wpList_nil ?_
          refine hK10 _ _ ?_
          refine wp_seq_k fun K11 hK11 => ?_
          by_cases hz7 : 0 < rcV y2_0 y2_1 y2_2 y2_3
          · skip
            refine wp_region_lit ?_
            refine sB 1 [(50, .pointer (some ⟨bb3, 0, none⟩))] hF (by kernel_rfl) fun a hF => ?_
            refine wl (eL 51 3 0 (v := .agg #[.int .i64 y2_0, .int .i64 y2_1]) hF hM (by kernel_rfl) rfl rfl (by kernel_rfl) (by kernel_rfl) fun a w hF hM => ?_)
            refine sB 1 [(52, .pointer (some ⟨bb3, 2, none⟩))] hF (by kernel_rfl) fun a hF => ?_
            refine wl (eL 53 3 2 (v := .agg #[.int .i64 y2_2, .int .i64 y2_3]) hF hM (by kernel_rfl) rfl rfl (by kernel_rfl) (by kernel_rfl) fun a w hF hM => ?_)
            refine wl (eM 54 (v := .tuple #[.agg #[.int .i64 y2_2, .int .i64 y2_3], .int .i64 0]) hF hM (by kernel_rfl) (yld_call (f := 32) (args := #[.agg #[.int .i64 y2_0, .int .i64 y2_1], .agg #[.int .i64 y2_2, .int .i64 y2_3]]) hF (by kernel_rfl) (fun _ => by kernel_rfl) (fun w hM => raMin_snd y2_0 y2_1 y2_2 y2_3 w (hT.below (Nat.le_refl _) hM.bel) hz3 hz5 hz7)) fun a w hF hM => ?_)
            refine sB 3 [(49, .tuple #[.agg #[.int .i64 y2_2, .int .i64 y2_3], .int .i64 0]), (55, .agg #[.int .i64 y2_2, .int .i64 y2_3]), (56, .int .i64 0)] hF (by kernel_rfl) fun a hF => ?_
            refine wl (eN 11 4 (t := 23) (fun b => .pointer (some ⟨b, 0, none⟩)) #[.int .i64 0, .int .i64 0] hF hM (by kernel_rfl) (fun _ => by kernel_rfl) fun bb4 a w hF hM => ?_)
            refine wl (sStore (i := 4) (off := 0) (cs' := #[.int .i64 y2_2, .int .i64 y2_3]) hF hM (by kernel_rfl) rfl rfl (by kernel_rfl) (by kernel_rfl) rfl (by kernel_rfl) fun w hM => ?_)
            refine sB 1 [(12, .int .i64 0)] hF (by kernel_rfl) fun a hF => ?_
            refine wpList_nil ?_
            refine hK11 _ _ ?_
            refine wp_seq_k fun K12 hK12 => ?_
            refine wp_region_lit ?_
            refine sB 1 [(58, .pointer (some ⟨bb3, 0, none⟩))] hF (by kernel_rfl) fun a hF => ?_
            refine wl (eL 59 3 0 (v := .agg #[.int .i64 y2_0, .int .i64 y2_1]) hF hM (by kernel_rfl) rfl rfl (by kernel_rfl) (by kernel_rfl) fun a w hF hM => ?_)
            refine sB 1 [(60, .pointer (some ⟨bb3, 2, none⟩))] hF (by kernel_rfl) fun a hF => ?_
            refine wl (eL 61 3 2 (v := .agg #[.int .i64 y2_2, .int .i64 y2_3]) hF hM (by kernel_rfl) rfl rfl (by kernel_rfl) (by kernel_rfl) fun a w hF hM => ?_)
            refine wl (eM 62 (v := .tuple #[.agg #[.int .i64 y2_2, .int .i64 y2_3], .int .i64 0]) hF hM (by kernel_rfl) (yld_call (f := 33) (args := #[.agg #[.int .i64 y2_0, .int .i64 y2_1], .agg #[.int .i64 y2_2, .int .i64 y2_3]]) hF (by kernel_rfl) (fun _ => by kernel_rfl) (fun w hM => rbMin_snd y2_0 y2_1 y2_2 y2_3 w hz3 hz5 hz7)) fun a w hF hM => ?_)
            refine sB 3 [(57, .tuple #[.agg #[.int .i64 y2_2, .int .i64 y2_3], .int .i64 0]), (63, .agg #[.int .i64 y2_2, .int .i64 y2_3]), (64, .int .i64 0)] hF (by kernel_rfl) fun a hF => ?_
            refine wl (eN 13 5 (t := 23) (fun b => .pointer (some ⟨b, 0, none⟩)) #[.int .i64 0, .int .i64 0] hF hM (by kernel_rfl) (fun _ => by kernel_rfl) fun bb5 a w hF hM => ?_)
            refine wl (sStore (i := 5) (off := 0) (cs' := #[.int .i64 y2_2, .int .i64 y2_3]) hF hM (by kernel_rfl) rfl rfl (by kernel_rfl) (by kernel_rfl) rfl (by kernel_rfl) fun w hM => ?_)
            refine sB 1 [(14, .int .i64 0)] hF (by kernel_rfl) fun a hF => ?_
            refine wpList_nil ?_
            refine hK12 _ _ ?_
            refine wp_seq_k fun K13 hK13 => ?_
            refine wp_region_lit ?_
            refine sB 1 [(66, .pointer (some ⟨bb3, 0, none⟩))] hF (by kernel_rfl) fun a hF => ?_
            refine wl (eL 67 3 0 (v := .agg #[.int .i64 y2_0, .int .i64 y2_1]) hF hM (by kernel_rfl) rfl rfl (by kernel_rfl) (by kernel_rfl) fun a w hF hM => ?_)
            refine sB 1 [(68, .pointer (some ⟨bb3, 2, none⟩))] hF (by kernel_rfl) fun a hF => ?_
            refine wl (eL 69 3 2 (v := .agg #[.int .i64 y2_2, .int .i64 y2_3]) hF hM (by kernel_rfl) rfl rfl (by kernel_rfl) (by kernel_rfl) fun a w hF hM => ?_)
            refine wl (eM 70 (v := .tuple #[.agg #[.int .i64 y2_0, .int .i64 y2_1], .int .i64 0]) hF hM (by kernel_rfl) (yld_call (f := 29) (args := #[.agg #[.int .i64 y2_0, .int .i64 y2_1], .agg #[.int .i64 y2_2, .int .i64 y2_3]]) hF (by kernel_rfl) (fun _ => by kernel_rfl) (fun w hM => raMax_fst y2_0 y2_1 y2_2 y2_3 w (hT.below (Nat.le_refl _) hM.bel) hz3 hz5 (by omega))) fun a w hF hM => ?_)
            refine sB 3 [(65, .tuple #[.agg #[.int .i64 y2_0, .int .i64 y2_1], .int .i64 0]), (71, .agg #[.int .i64 y2_0, .int .i64 y2_1]), (72, .int .i64 0)] hF (by kernel_rfl) fun a hF => ?_
            refine wl (eN 15 6 (t := 23) (fun b => .pointer (some ⟨b, 0, none⟩)) #[.int .i64 0, .int .i64 0] hF hM (by kernel_rfl) (fun _ => by kernel_rfl) fun bb6 a w hF hM => ?_)
            refine wl (sStore (i := 6) (off := 0) (cs' := #[.int .i64 y2_0, .int .i64 y2_1]) hF hM (by kernel_rfl) rfl rfl (by kernel_rfl) (by kernel_rfl) rfl (by kernel_rfl) fun w hM => ?_)
            refine sB 1 [(16, .int .i64 0)] hF (by kernel_rfl) fun a hF => ?_
            refine wpList_nil ?_
            refine hK13 _ _ ?_
            refine wp_seq_k fun K14 hK14 => ?_
            refine wp_region_lit ?_
            refine sB 1 [(74, .pointer (some ⟨bb3, 0, none⟩))] hF (by kernel_rfl) fun a hF => ?_
            refine wl (eL 75 3 0 (v := .agg #[.int .i64 y2_0, .int .i64 y2_1]) hF hM (by kernel_rfl) rfl rfl (by kernel_rfl) (by kernel_rfl) fun a w hF hM => ?_)
            refine sB 1 [(76, .pointer (some ⟨bb3, 2, none⟩))] hF (by kernel_rfl) fun a hF => ?_
            refine wl (eL 77 3 2 (v := .agg #[.int .i64 y2_2, .int .i64 y2_3]) hF hM (by kernel_rfl) rfl rfl (by kernel_rfl) (by kernel_rfl) fun a w hF hM => ?_)
            refine wl (eM 78 (v := .tuple #[.agg #[.int .i64 y2_0, .int .i64 y2_1], .int .i64 0]) hF hM (by kernel_rfl) (yld_call (f := 34) (args := #[.agg #[.int .i64 y2_0, .int .i64 y2_1], .agg #[.int .i64 y2_2, .int .i64 y2_3]]) hF (by kernel_rfl) (fun _ => by kernel_rfl) (fun w hM => rbMax_fst y2_0 y2_1 y2_2 y2_3 w hz3 hz5 (by omega))) fun a w hF hM => ?_)
            refine sB 3 [(73, .tuple #[.agg #[.int .i64 y2_0, .int .i64 y2_1], .int .i64 0]), (79, .agg #[.int .i64 y2_0, .int .i64 y2_1]), (80, .int .i64 0)] hF (by kernel_rfl) fun a hF => ?_
            refine wl (eN 17 7 (t := 23) (fun b => .pointer (some ⟨b, 0, none⟩)) #[.int .i64 0, .int .i64 0] hF hM (by kernel_rfl) (fun _ => by kernel_rfl) fun bb7 a w hF hM => ?_)
            refine wl (sStore (i := 7) (off := 0) (cs' := #[.int .i64 y2_0, .int .i64 y2_1]) hF hM (by kernel_rfl) rfl rfl (by kernel_rfl) (by kernel_rfl) rfl (by kernel_rfl) fun w hM => ?_)
            refine sB 1 [(18, .int .i64 0)] hF (by kernel_rfl) fun a hF => ?_
            refine wpList_nil ?_
            refine hK14 _ _ ?_
            refine wp_seq_k fun K15 hK15 => ?_
            refine wp_seq_k fun K16 hK16 => ?_
            refine wp_region_lit ?_
            refine sB 2 [(81, .int .i64 (rcV y2_0 y2_1 y2_2 y2_3)), (82, .int .i64 (rcV y2_0 y2_1 y2_2 y2_3))] hF (by kernel_rfl) fun a hF => ?_
            refine wl (eP 83 (v0 := .bool (!decide (rcV y2_0 y2_1 y2_2 y2_3 = rcV y2_0 y2_1 y2_2 y2_3))) (v := .bool false) hF (by kernel_rfl) (fun _ => by kernel_rfl) (nT (by omega)) fun a hF => ?_)
            refine sB 3 [(84, .bool false), (85, .int .i64 0), (86, .int .i64 0)] hF (by kernel_rfl) fun a hF => ?_
            refine wl (eP 87 (v0 := .bool (!decide (0 = 0))) (v := .bool false) hF (by kernel_rfl) (fun _ => by kernel_rfl) (nT (by omega)) fun a hF => ?_)
            refine sB 2 [(88, .bool false), (89, .bool false)] hF (by kernel_rfl) fun a hF => ?_
            refine wl (eL 90 4 0 (v := .agg #[.int .i64 y2_2, .int .i64 y2_3]) hF hM (by kernel_rfl) rfl rfl (by kernel_rfl) (by kernel_rfl) fun a w hF hM => ?_)
            refine wl (eL 91 5 0 (v := .agg #[.int .i64 y2_2, .int .i64 y2_3]) hF hM (by kernel_rfl) rfl rfl (by kernel_rfl) (by kernel_rfl) fun a w hF hM => ?_)
            refine wl (eM 92 (v := .bool false) hF hM (by kernel_rfl) ((yld_neq (C := Mem _ _ _) [y2_2, y2_3] [y2_2, y2_3] hF rfl (by kernel_rfl) (by kernel_rfl) (by kernel_rfl) rfl (by kernel_rfl) (by kernel_rfl) (by kernel_rfl) rfl rfl).to (nT rfl)) fun a w hF hM => ?_)
            refine sB 4 [(93, .bool false), (94, .bool false), (95, .int .i64 0), (96, .int .i64 0)] hF (by kernel_rfl) fun a hF => ?_
            refine wl (eP 97 (v0 := .bool (!decide (0 = 0))) (v := .bool false) hF (by kernel_rfl) (fun _ => by kernel_rfl) (nT (by omega)) fun a hF => ?_)
            refine sB 2 [(98, .bool false), (99, .bool false)] hF (by kernel_rfl) fun a hF => ?_
            refine wl (eL 100 6 0 (v := .agg #[.int .i64 y2_0, .int .i64 y2_1]) hF hM (by kernel_rfl) rfl rfl (by kernel_rfl) (by kernel_rfl) fun a w hF hM => ?_)
            refine wl (eL 101 7 0 (v := .agg #[.int .i64 y2_0, .int .i64 y2_1]) hF hM (by kernel_rfl) rfl rfl (by kernel_rfl) (by kernel_rfl) fun a w hF hM => ?_)
            refine wl (eM 102 (v := .bool false) hF hM (by kernel_rfl) ((yld_neq (C := Mem _ _ _) [y2_0, y2_1] [y2_0, y2_1] hF rfl (by kernel_rfl) (by kernel_rfl) (by kernel_rfl) rfl (by kernel_rfl) (by kernel_rfl) (by kernel_rfl) rfl rfl).to (nT rfl)) fun a w hF hM => ?_)
            refine sB 4 [(103, .bool false), (104, .bool false), (105, .int .i64 0), (106, .int .i64 0)] hF (by kernel_rfl) fun a hF => ?_
            refine wl (eP 107 (v0 := .bool (!decide (0 = 0))) (v := .bool false) hF (by kernel_rfl) (fun _ => by kernel_rfl) (nT (by omega)) fun a hF => ?_)
            refine sB 1 [(108, .bool false)] hF (by kernel_rfl) fun a hF => ?_
            refine wpList_nil ?_
            refine hK16 _ _ ?_
            refine cF hF (by kernel_rfl) (by kernel_rfl) ?_
            refine wp_skip ?_
            refine hK15 _ _ ?_
            refine wp_seq_k fun K17 hK17 => ?_
            refine wp_region_lit ?_
            refine sB 1 [(110, .pointer (some ⟨bb3, 0, none⟩))] hF (by kernel_rfl) fun a hF => ?_
            refine wl (eL 111 3 0 (v := .agg #[.int .i64 y2_0, .int .i64 y2_1]) hF hM (by kernel_rfl) rfl rfl (by kernel_rfl) (by kernel_rfl) fun a w hF hM => ?_)
            refine wl (eM 112 (v := .tuple #[.int .i64 (fdV y2_0 y2_1), .int .i64 0]) hF hM (by kernel_rfl) (yld_call (f := 26) (args := #[.agg #[.int .i64 y2_0, .int .i64 y2_1]]) hF (by kernel_rfl) (fun _ => by kernel_rfl) (fun w hM => raFloor_ok y2_0 y2_1 w (hT.below (Nat.le_refl _) hM.bel) hz3)) fun a w hF hM => ?_)
            refine sB 5 [(109, .tuple #[.int .i64 (fdV y2_0 y2_1), .int .i64 0]), (113, .int .i64 (fdV y2_0 y2_1)), (114, .int .i64 0), (19, .int .i64 (fdV y2_0 y2_1)), (20, .int .i64 0)] hF (by kernel_rfl) fun a hF => ?_
            refine wpList_nil ?_
            refine hK17 _ _ ?_
            refine wp_seq_k fun K18 hK18 => ?_
            refine wp_region_lit ?_
            refine sB 1 [(116, .pointer (some ⟨bb3, 0, none⟩))] hF (by kernel_rfl) fun a hF => ?_
            refine wl (eL 117 3 0 (v := .agg #[.int .i64 y2_0, .int .i64 y2_1]) hF hM (by kernel_rfl) rfl rfl (by kernel_rfl) (by kernel_rfl) fun a w hF hM => ?_)
            refine wl (eM 118 (v := .tuple #[.int .i64 (fdV y2_0 y2_1), .int .i64 0]) hF hM (by kernel_rfl) (yld_call (f := 35) (args := #[.agg #[.int .i64 y2_0, .int .i64 y2_1]]) hF (by kernel_rfl) (fun _ => by kernel_rfl) (fun w hM => rbFloor_ok y2_0 y2_1 w hz3)) fun a w hF hM => ?_)
            refine sB 5 [(115, .tuple #[.int .i64 (fdV y2_0 y2_1), .int .i64 0]), (119, .int .i64 (fdV y2_0 y2_1)), (120, .int .i64 0), (21, .int .i64 (fdV y2_0 y2_1)), (22, .int .i64 0)] hF (by kernel_rfl) fun a hF => ?_
            refine wpList_nil ?_
            refine hK18 _ _ ?_
            refine wp_seq_k fun K19 hK19 => ?_
            refine wp_region_lit ?_
            refine sB 1 [(122, .pointer (some ⟨bb3, 0, none⟩))] hF (by kernel_rfl) fun a hF => ?_
            refine wl (eL 123 3 0 (v := .agg #[.int .i64 y2_0, .int .i64 y2_1]) hF hM (by kernel_rfl) rfl rfl (by kernel_rfl) (by kernel_rfl) fun a w hF hM => ?_)
            refine wl (eM 124 (v := .tuple #[.int .i64 (cdV y2_0 y2_1), .int .i64 0]) hF hM (by kernel_rfl) (yld_call (f := 27) (args := #[.agg #[.int .i64 y2_0, .int .i64 y2_1]]) hF (by kernel_rfl) (fun _ => by kernel_rfl) (fun w hM => raCeil_ok y2_0 y2_1 w (hT.below (Nat.le_refl _) hM.bel) hz3)) fun a w hF hM => ?_)
            refine sB 5 [(121, .tuple #[.int .i64 (cdV y2_0 y2_1), .int .i64 0]), (125, .int .i64 (cdV y2_0 y2_1)), (126, .int .i64 0), (23, .int .i64 (cdV y2_0 y2_1)), (24, .int .i64 0)] hF (by kernel_rfl) fun a hF => ?_
            refine wpList_nil ?_
            refine hK19 _ _ ?_
            refine wp_seq_k fun K20 hK20 => ?_
            refine wp_region_lit ?_
            refine sB 1 [(128, .pointer (some ⟨bb3, 0, none⟩))] hF (by kernel_rfl) fun a hF => ?_
            refine wl (eL 129 3 0 (v := .agg #[.int .i64 y2_0, .int .i64 y2_1]) hF hM (by kernel_rfl) rfl rfl (by kernel_rfl) (by kernel_rfl) fun a w hF hM => ?_)
            refine wl (eM 130 (v := .tuple #[.int .i64 (cdV y2_0 y2_1), .int .i64 0]) hF hM (by kernel_rfl) (yld_call (f := 36) (args := #[.agg #[.int .i64 y2_0, .int .i64 y2_1]]) hF (by kernel_rfl) (fun _ => by kernel_rfl) (fun w hM => rbCeil_ok y2_0 y2_1 w hz3)) fun a w hF hM => ?_)
            refine sB 5 [(127, .tuple #[.int .i64 (cdV y2_0 y2_1), .int .i64 0]), (131, .int .i64 (cdV y2_0 y2_1)), (132, .int .i64 0), (25, .int .i64 (cdV y2_0 y2_1)), (26, .int .i64 0)] hF (by kernel_rfl) fun a hF => ?_
            refine wpList_nil ?_
            refine hK20 _ _ ?_
            refine wp_seq_k fun K21 hK21 => ?_
            refine wp_region_lit ?_
            refine sB 2 [(133, .int .i64 (fdV y2_0 y2_1)), (134, .int .i64 (fdV y2_0 y2_1))] hF (by kernel_rfl) fun a hF => ?_
            refine wl (eP 135 (v0 := .bool (!decide (fdV y2_0 y2_1 = fdV y2_0 y2_1))) (v := .bool false) hF (by kernel_rfl) (fun _ => by kernel_rfl) (nT (by omega)) fun a hF => ?_)
            refine sB 3 [(136, .bool false), (137, .int .i64 0), (138, .int .i64 0)] hF (by kernel_rfl) fun a hF => ?_
            refine wl (eP 139 (v0 := .bool (!decide (0 = 0))) (v := .bool false) hF (by kernel_rfl) (fun _ => by kernel_rfl) (nT (by omega)) fun a hF => ?_)
            refine sB 4 [(140, .bool false), (141, .bool false), (142, .int .i64 (cdV y2_0 y2_1)), (143, .int .i64 (cdV y2_0 y2_1))] hF (by kernel_rfl) fun a hF => ?_
            refine wl (eP 144 (v0 := .bool (!decide (cdV y2_0 y2_1 = cdV y2_0 y2_1))) (v := .bool false) hF (by kernel_rfl) (fun _ => by kernel_rfl) (nT (by omega)) fun a hF => ?_)
            refine sB 4 [(145, .bool false), (146, .bool false), (147, .int .i64 0), (148, .int .i64 0)] hF (by kernel_rfl) fun a hF => ?_
            refine wl (eP 149 (v0 := .bool (!decide (0 = 0))) (v := .bool false) hF (by kernel_rfl) (fun _ => by kernel_rfl) (nT (by omega)) fun a hF => ?_)
            refine sB 1 [(150, .bool false)] hF (by kernel_rfl) fun a hF => ?_
            refine wpList_nil ?_
            refine hK21 _ _ ?_
            refine cF hF (by kernel_rfl) (by kernel_rfl) ?_
            refine wp_skip ?_
            refine hK7 _ _ ?_
            refine wp_region_lit ?_
            refine wl (eP 151 (v0 := .int .i64 (IntKind.i64.wrap ((k30 : Int) + 1))) (v := .int .i64 ((k30 : Int) + 1)) hF (by kernel_rfl) (fun _ => by kernel_rfl) (wi (by omega)) fun a hF => ?_)
            refine sB 1 [(30, .int .i64 ((k30 : Int) + 1))] hF (by kernel_rfl) fun a hF => ?_
            refine wpList_nil ?_
            refine hK4 _ _ ⟨(k30 + 1), ⟨(((Fr.nil hF).c hF (i := 29) rfl rfl).c hF (i := 30) rfl (vi (show ((k30 : Int) + 1 : Int) = ((k30 + 1) : Int) from by omega))), (hM.sub Sub.nil), (show ((k30 + 1) : Int) ≤ 4 from by omega)⟩, (show 4 - (k30 + 1) < 4 - k30 from by omega)⟩
          · skip
            refine wp_region_lit ?_
            refine sB 1 [(50, .pointer (some ⟨bb3, 0, none⟩))] hF (by kernel_rfl) fun a hF => ?_
            refine wl (eL 51 3 0 (v := .agg #[.int .i64 y2_0, .int .i64 y2_1]) hF hM (by kernel_rfl) rfl rfl (by kernel_rfl) (by kernel_rfl) fun a w hF hM => ?_)
            refine sB 1 [(52, .pointer (some ⟨bb3, 2, none⟩))] hF (by kernel_rfl) fun a hF => ?_
            refine wl (eL 53 3 2 (v := .agg #[.int .i64 y2_2, .int .i64 y2_3]) hF hM (by kernel_rfl) rfl rfl (by kernel_rfl) (by kernel_rfl) fun a w hF hM => ?_)
            refine wl (eM 54 (v := .tuple #[.agg #[.int .i64 y2_0, .int .i64 y2_1], .int .i64 0]) hF hM (by kernel_rfl) (yld_call (f := 32) (args := #[.agg #[.int .i64 y2_0, .int .i64 y2_1], .agg #[.int .i64 y2_2, .int .i64 y2_3]]) hF (by kernel_rfl) (fun _ => by kernel_rfl) (fun w hM => raMin_fst y2_0 y2_1 y2_2 y2_3 w (hT.below (Nat.le_refl _) hM.bel) hz3 hz5 hz7)) fun a w hF hM => ?_)
            refine sB 3 [(49, .tuple #[.agg #[.int .i64 y2_0, .int .i64 y2_1], .int .i64 0]), (55, .agg #[.int .i64 y2_0, .int .i64 y2_1]), (56, .int .i64 0)] hF (by kernel_rfl) fun a hF => ?_
            refine wl (eN 11 8 (t := 23) (fun b => .pointer (some ⟨b, 0, none⟩)) #[.int .i64 0, .int .i64 0] hF hM (by kernel_rfl) (fun _ => by kernel_rfl) fun bb8 a w hF hM => ?_)
            refine wl (sStore (i := 8) (off := 0) (cs' := #[.int .i64 y2_0, .int .i64 y2_1]) hF hM (by kernel_rfl) rfl rfl (by kernel_rfl) (by kernel_rfl) rfl (by kernel_rfl) fun w hM => ?_)
            refine sB 1 [(12, .int .i64 0)] hF (by kernel_rfl) fun a hF => ?_
            refine wpList_nil ?_
            refine hK11 _ _ ?_
            refine wp_seq_k fun K22 hK22 => ?_
            refine wp_region_lit ?_
            refine sB 1 [(58, .pointer (some ⟨bb3, 0, none⟩))] hF (by kernel_rfl) fun a hF => ?_
            refine wl (eL 59 3 0 (v := .agg #[.int .i64 y2_0, .int .i64 y2_1]) hF hM (by kernel_rfl) rfl rfl (by kernel_rfl) (by kernel_rfl) fun a w hF hM => ?_)
            refine sB 1 [(60, .pointer (some ⟨bb3, 2, none⟩))] hF (by kernel_rfl) fun a hF => ?_
            refine wl (eL 61 3 2 (v := .agg #[.int .i64 y2_2, .int .i64 y2_3]) hF hM (by kernel_rfl) rfl rfl (by kernel_rfl) (by kernel_rfl) fun a w hF hM => ?_)
            refine wl (eM 62 (v := .tuple #[.agg #[.int .i64 y2_0, .int .i64 y2_1], .int .i64 0]) hF hM (by kernel_rfl) (yld_call (f := 33) (args := #[.agg #[.int .i64 y2_0, .int .i64 y2_1], .agg #[.int .i64 y2_2, .int .i64 y2_3]]) hF (by kernel_rfl) (fun _ => by kernel_rfl) (fun w hM => rbMin_fst y2_0 y2_1 y2_2 y2_3 w hz3 hz5 hz7)) fun a w hF hM => ?_)
            refine sB 3 [(57, .tuple #[.agg #[.int .i64 y2_0, .int .i64 y2_1], .int .i64 0]), (63, .agg #[.int .i64 y2_0, .int .i64 y2_1]), (64, .int .i64 0)] hF (by kernel_rfl) fun a hF => ?_
            refine wl (eN 13 9 (t := 23) (fun b => .pointer (some ⟨b, 0, none⟩)) #[.int .i64 0, .int .i64 0] hF hM (by kernel_rfl) (fun _ => by kernel_rfl) fun bb9 a w hF hM => ?_)
            refine wl (sStore (i := 9) (off := 0) (cs' := #[.int .i64 y2_0, .int .i64 y2_1]) hF hM (by kernel_rfl) rfl rfl (by kernel_rfl) (by kernel_rfl) rfl (by kernel_rfl) fun w hM => ?_)
            refine sB 1 [(14, .int .i64 0)] hF (by kernel_rfl) fun a hF => ?_
            refine wpList_nil ?_
            refine hK22 _ _ ?_
            refine wp_seq_k fun K23 hK23 => ?_
            by_cases hz8 : rcV y2_0 y2_1 y2_2 y2_3 < 0
            · skip
              refine wp_region_lit ?_
              refine sB 1 [(66, .pointer (some ⟨bb3, 0, none⟩))] hF (by kernel_rfl) fun a hF => ?_
              refine wl (eL 67 3 0 (v := .agg #[.int .i64 y2_0, .int .i64 y2_1]) hF hM (by kernel_rfl) rfl rfl (by kernel_rfl) (by kernel_rfl) fun a w hF hM => ?_)
              refine sB 1 [(68, .pointer (some ⟨bb3, 2, none⟩))] hF (by kernel_rfl) fun a hF => ?_
              refine wl (eL 69 3 2 (v := .agg #[.int .i64 y2_2, .int .i64 y2_3]) hF hM (by kernel_rfl) rfl rfl (by kernel_rfl) (by kernel_rfl) fun a w hF hM => ?_)
              refine wl (eM 70 (v := .tuple #[.agg #[.int .i64 y2_2, .int .i64 y2_3], .int .i64 0]) hF hM (by kernel_rfl) (yld_call (f := 29) (args := #[.agg #[.int .i64 y2_0, .int .i64 y2_1], .agg #[.int .i64 y2_2, .int .i64 y2_3]]) hF (by kernel_rfl) (fun _ => by kernel_rfl) (fun w hM => raMax_snd y2_0 y2_1 y2_2 y2_3 w (hT.below (Nat.le_refl _) hM.bel) hz3 hz5 hz8)) fun a w hF hM => ?_)
              refine sB 3 [(65, .tuple #[.agg #[.int .i64 y2_2, .int .i64 y2_3], .int .i64 0]), (71, .agg #[.int .i64 y2_2, .int .i64 y2_3]), (72, .int .i64 0)] hF (by kernel_rfl) fun a hF => ?_
              refine wl (eN 15 10 (t := 23) (fun b => .pointer (some ⟨b, 0, none⟩)) #[.int .i64 0, .int .i64 0] hF hM (by kernel_rfl) (fun _ => by kernel_rfl) fun bb10 a w hF hM => ?_)
              refine wl (sStore (i := 10) (off := 0) (cs' := #[.int .i64 y2_2, .int .i64 y2_3]) hF hM (by kernel_rfl) rfl rfl (by kernel_rfl) (by kernel_rfl) rfl (by kernel_rfl) fun w hM => ?_)
              refine sB 1 [(16, .int .i64 0)] hF (by kernel_rfl) fun a hF => ?_
              refine wpList_nil ?_
              refine hK23 _ _ ?_
              refine wp_seq_k fun K24 hK24 => ?_
              refine wp_region_lit ?_
              refine sB 1 [(74, .pointer (some ⟨bb3, 0, none⟩))] hF (by kernel_rfl) fun a hF => ?_
              refine wl (eL 75 3 0 (v := .agg #[.int .i64 y2_0, .int .i64 y2_1]) hF hM (by kernel_rfl) rfl rfl (by kernel_rfl) (by kernel_rfl) fun a w hF hM => ?_)
              refine sB 1 [(76, .pointer (some ⟨bb3, 2, none⟩))] hF (by kernel_rfl) fun a hF => ?_
              refine wl (eL 77 3 2 (v := .agg #[.int .i64 y2_2, .int .i64 y2_3]) hF hM (by kernel_rfl) rfl rfl (by kernel_rfl) (by kernel_rfl) fun a w hF hM => ?_)
              refine wl (eM 78 (v := .tuple #[.agg #[.int .i64 y2_2, .int .i64 y2_3], .int .i64 0]) hF hM (by kernel_rfl) (yld_call (f := 34) (args := #[.agg #[.int .i64 y2_0, .int .i64 y2_1], .agg #[.int .i64 y2_2, .int .i64 y2_3]]) hF (by kernel_rfl) (fun _ => by kernel_rfl) (fun w hM => rbMax_snd y2_0 y2_1 y2_2 y2_3 w hz3 hz5 hz8)) fun a w hF hM => ?_)
              refine sB 3 [(73, .tuple #[.agg #[.int .i64 y2_2, .int .i64 y2_3], .int .i64 0]), (79, .agg #[.int .i64 y2_2, .int .i64 y2_3]), (80, .int .i64 0)] hF (by kernel_rfl) fun a hF => ?_
              refine wl (eN 17 11 (t := 23) (fun b => .pointer (some ⟨b, 0, none⟩)) #[.int .i64 0, .int .i64 0] hF hM (by kernel_rfl) (fun _ => by kernel_rfl) fun bb11 a w hF hM => ?_)
              refine wl (sStore (i := 11) (off := 0) (cs' := #[.int .i64 y2_2, .int .i64 y2_3]) hF hM (by kernel_rfl) rfl rfl (by kernel_rfl) (by kernel_rfl) rfl (by kernel_rfl) fun w hM => ?_)
              refine sB 1 [(18, .int .i64 0)] hF (by kernel_rfl) fun a hF => ?_
              refine wpList_nil ?_
              refine hK24 _ _ ?_
              refine wp_seq_k fun K25 hK25 => ?_
              refine wp_seq_k fun K26 hK26 => ?_
              refine wp_region_lit ?_
              refine sB 2 [(81, .int .i64 (rcV y2_0 y2_1 y2_2 y2_3)), (82, .int .i64 (rcV y2_0 y2_1 y2_2 y2_3))] hF (by kernel_rfl) fun a hF => ?_
              refine wl (eP 83 (v0 := .bool (!decide (rcV y2_0 y2_1 y2_2 y2_3 = rcV y2_0 y2_1 y2_2 y2_3))) (v := .bool false) hF (by kernel_rfl) (fun _ => by kernel_rfl) (nT (by omega)) fun a hF => ?_)
              refine sB 3 [(84, .bool false), (85, .int .i64 0), (86, .int .i64 0)] hF (by kernel_rfl) fun a hF => ?_
              refine wl (eP 87 (v0 := .bool (!decide (0 = 0))) (v := .bool false) hF (by kernel_rfl) (fun _ => by kernel_rfl) (nT (by omega)) fun a hF => ?_)
              refine sB 2 [(88, .bool false), (89, .bool false)] hF (by kernel_rfl) fun a hF => ?_
              refine wl (eL 90 8 0 (v := .agg #[.int .i64 y2_0, .int .i64 y2_1]) hF hM (by kernel_rfl) rfl rfl (by kernel_rfl) (by kernel_rfl) fun a w hF hM => ?_)
              refine wl (eL 91 9 0 (v := .agg #[.int .i64 y2_0, .int .i64 y2_1]) hF hM (by kernel_rfl) rfl rfl (by kernel_rfl) (by kernel_rfl) fun a w hF hM => ?_)
              refine wl (eM 92 (v := .bool false) hF hM (by kernel_rfl) ((yld_neq (C := Mem _ _ _) [y2_0, y2_1] [y2_0, y2_1] hF rfl (by kernel_rfl) (by kernel_rfl) (by kernel_rfl) rfl (by kernel_rfl) (by kernel_rfl) (by kernel_rfl) rfl rfl).to (nT rfl)) fun a w hF hM => ?_)
              refine sB 4 [(93, .bool false), (94, .bool false), (95, .int .i64 0), (96, .int .i64 0)] hF (by kernel_rfl) fun a hF => ?_
              refine wl (eP 97 (v0 := .bool (!decide (0 = 0))) (v := .bool false) hF (by kernel_rfl) (fun _ => by kernel_rfl) (nT (by omega)) fun a hF => ?_)
              refine sB 2 [(98, .bool false), (99, .bool false)] hF (by kernel_rfl) fun a hF => ?_
              refine wl (eL 100 10 0 (v := .agg #[.int .i64 y2_2, .int .i64 y2_3]) hF hM (by kernel_rfl) rfl rfl (by kernel_rfl) (by kernel_rfl) fun a w hF hM => ?_)
              refine wl (eL 101 11 0 (v := .agg #[.int .i64 y2_2, .int .i64 y2_3]) hF hM (by kernel_rfl) rfl rfl (by kernel_rfl) (by kernel_rfl) fun a w hF hM => ?_)
              refine wl (eM 102 (v := .bool false) hF hM (by kernel_rfl) ((yld_neq (C := Mem _ _ _) [y2_2, y2_3] [y2_2, y2_3] hF rfl (by kernel_rfl) (by kernel_rfl) (by kernel_rfl) rfl (by kernel_rfl) (by kernel_rfl) (by kernel_rfl) rfl rfl).to (nT rfl)) fun a w hF hM => ?_)
              refine sB 4 [(103, .bool false), (104, .bool false), (105, .int .i64 0), (106, .int .i64 0)] hF (by kernel_rfl) fun a hF => ?_
              refine wl (eP 107 (v0 := .bool (!decide (0 = 0))) (v := .bool false) hF (by kernel_rfl) (fun _ => by kernel_rfl) (nT (by omega)) fun a hF => ?_)
              refine sB 1 [(108, .bool false)] hF (by kernel_rfl) fun a hF => ?_
              refine wpList_nil ?_
              refine hK26 _ _ ?_
              refine cF hF (by kernel_rfl) (by kernel_rfl) ?_
              refine wp_skip ?_
              refine hK25 _ _ ?_
              refine wp_seq_k fun K27 hK27 => ?_
              refine wp_region_lit ?_
              refine sB 1 [(110, .pointer (some ⟨bb3, 0, none⟩))] hF (by kernel_rfl) fun a hF => ?_
              refine wl (eL 111 3 0 (v := .agg #[.int .i64 y2_0, .int .i64 y2_1]) hF hM (by kernel_rfl) rfl rfl (by kernel_rfl) (by kernel_rfl) fun a w hF hM => ?_)
              refine wl (eM 112 (v := .tuple #[.int .i64 (fdV y2_0 y2_1), .int .i64 0]) hF hM (by kernel_rfl) (yld_call (f := 26) (args := #[.agg #[.int .i64 y2_0, .int .i64 y2_1]]) hF (by kernel_rfl) (fun _ => by kernel_rfl) (fun w hM => raFloor_ok y2_0 y2_1 w (hT.below (Nat.le_refl _) hM.bel) hz3)) fun a w hF hM => ?_)
              refine sB 5 [(109, .tuple #[.int .i64 (fdV y2_0 y2_1), .int .i64 0]), (113, .int .i64 (fdV y2_0 y2_1)), (114, .int .i64 0), (19, .int .i64 (fdV y2_0 y2_1)), (20, .int .i64 0)] hF (by kernel_rfl) fun a hF => ?_
              refine wpList_nil ?_
              refine hK27 _ _ ?_
              refine wp_seq_k fun K28 hK28 => ?_
              refine wp_region_lit ?_
              refine sB 1 [(116, .pointer (some ⟨bb3, 0, none⟩))] hF (by kernel_rfl) fun a hF => ?_
              refine wl (eL 117 3 0 (v := .agg #[.int .i64 y2_0, .int .i64 y2_1]) hF hM (by kernel_rfl) rfl rfl (by kernel_rfl) (by kernel_rfl) fun a w hF hM => ?_)
              refine wl (eM 118 (v := .tuple #[.int .i64 (fdV y2_0 y2_1), .int .i64 0]) hF hM (by kernel_rfl) (yld_call (f := 35) (args := #[.agg #[.int .i64 y2_0, .int .i64 y2_1]]) hF (by kernel_rfl) (fun _ => by kernel_rfl) (fun w hM => rbFloor_ok y2_0 y2_1 w hz3)) fun a w hF hM => ?_)
              refine sB 5 [(115, .tuple #[.int .i64 (fdV y2_0 y2_1), .int .i64 0]), (119, .int .i64 (fdV y2_0 y2_1)), (120, .int .i64 0), (21, .int .i64 (fdV y2_0 y2_1)), (22, .int .i64 0)] hF (by kernel_rfl) fun a hF => ?_
              refine wpList_nil ?_
              refine hK28 _ _ ?_
              refine wp_seq_k fun K29 hK29 => ?_
              refine wp_region_lit ?_
              refine sB 1 [(122, .pointer (some ⟨bb3, 0, none⟩))] hF (by kernel_rfl) fun a hF => ?_
              refine wl (eL 123 3 0 (v := .agg #[.int .i64 y2_0, .int .i64 y2_1]) hF hM (by kernel_rfl) rfl rfl (by kernel_rfl) (by kernel_rfl) fun a w hF hM => ?_)
              refine wl (eM 124 (v := .tuple #[.int .i64 (cdV y2_0 y2_1), .int .i64 0]) hF hM (by kernel_rfl) (yld_call (f := 27) (args := #[.agg #[.int .i64 y2_0, .int .i64 y2_1]]) hF (by kernel_rfl) (fun _ => by kernel_rfl) (fun w hM => raCeil_ok y2_0 y2_1 w (hT.below (Nat.le_refl _) hM.bel) hz3)) fun a w hF hM => ?_)
              refine sB 5 [(121, .tuple #[.int .i64 (cdV y2_0 y2_1), .int .i64 0]), (125, .int .i64 (cdV y2_0 y2_1)), (126, .int .i64 0), (23, .int .i64 (cdV y2_0 y2_1)), (24, .int .i64 0)] hF (by kernel_rfl) fun a hF => ?_
              refine wpList_nil ?_
              refine hK29 _ _ ?_
              refine wp_seq_k fun K30 hK30 => ?_
              refine wp_region_lit ?_
              refine sB 1 [(128, .pointer (some ⟨bb3, 0, none⟩))] hF (by kernel_rfl) fun a hF => ?_
              refine wl (eL 129 3 0 (v := .agg #[.int .i64 y2_0, .int .i64 y2_1]) hF hM (by kernel_rfl) rfl rfl (by kernel_rfl) (by kernel_rfl) fun a w hF hM => ?_)
              refine wl (eM 130 (v := .tuple #[.int .i64 (cdV y2_0 y2_1), .int .i64 0]) hF hM (by kernel_rfl) (yld_call (f := 36) (args := #[.agg #[.int .i64 y2_0, .int .i64 y2_1]]) hF (by kernel_rfl) (fun _ => by kernel_rfl) (fun w hM => rbCeil_ok y2_0 y2_1 w hz3)) fun a w hF hM => ?_)
              refine sB 5 [(127, .tuple #[.int .i64 (cdV y2_0 y2_1), .int .i64 0]), (131, .int .i64 (cdV y2_0 y2_1)), (132, .int .i64 0), (25, .int .i64 (cdV y2_0 y2_1)), (26, .int .i64 0)] hF (by kernel_rfl) fun a hF => ?_
              refine wpList_nil ?_
              refine hK30 _ _ ?_
              refine wp_seq_k fun K31 hK31 => ?_
              refine wp_region_lit ?_
              refine sB 2 [(133, .int .i64 (fdV y2_0 y2_1)), (134, .int .i64 (fdV y2_0 y2_1))] hF (by kernel_rfl) fun a hF => ?_
              refine wl (eP 135 (v0 := .bool (!decide (fdV y2_0 y2_1 = fdV y2_0 y2_1))) (v := .bool false) hF (by kernel_rfl) (fun _ => by kernel_rfl) (nT (by omega)) fun a hF => ?_)
              refine sB 3 [(136, .bool false), (137, .int .i64 0), (138, .int .i64 0)] hF (by kernel_rfl) fun a hF => ?_
              refine wl (eP 139 (v0 := .bool (!decide (0 = 0))) (v := .bool false) hF (by kernel_rfl) (fun _ => by kernel_rfl) (nT (by omega)) fun a hF => ?_)
              refine sB 4 [(140, .bool false), (141, .bool false), (142, .int .i64 (cdV y2_0 y2_1)), (143, .int .i64 (cdV y2_0 y2_1))] hF (by kernel_rfl) fun a hF => ?_
              refine wl (eP 144 (v0 := .bool (!decide (cdV y2_0 y2_1 = cdV y2_0 y2_1))) (v := .bool false) hF (by kernel_rfl) (fun _ => by kernel_rfl) (nT (by omega)) fun a hF => ?_)
              refine sB 4 [(145, .bool false), (146, .bool false), (147, .int .i64 0), (148, .int .i64 0)] hF (by kernel_rfl) fun a hF => ?_
              refine wl (eP 149 (v0 := .bool (!decide (0 = 0))) (v := .bool false) hF (by kernel_rfl) (fun _ => by kernel_rfl) (nT (by omega)) fun a hF => ?_)
              refine sB 1 [(150, .bool false)] hF (by kernel_rfl) fun a hF => ?_
              refine wpList_nil ?_
              refine hK31 _ _ ?_
              refine cF hF (by kernel_rfl) (by kernel_rfl) ?_
              refine wp_skip ?_
              refine hK7 _ _ ?_
              refine wp_region_lit ?_
              refine wl (eP 151 (v0 := .int .i64 (IntKind.i64.wrap ((k30 : Int) + 1))) (v := .int .i64 ((k30 : Int) + 1)) hF (by kernel_rfl) (fun _ => by kernel_rfl) (wi (by omega)) fun a hF => ?_)
              refine sB 1 [(30, .int .i64 ((k30 : Int) + 1))] hF (by kernel_rfl) fun a hF => ?_
              refine wpList_nil ?_
              refine hK4 _ _ ⟨(k30 + 1), ⟨(((Fr.nil hF).c hF (i := 29) rfl rfl).c hF (i := 30) rfl (vi (show ((k30 : Int) + 1 : Int) = ((k30 + 1) : Int) from by omega))), (hM.sub Sub.nil), (show ((k30 + 1) : Int) ≤ 4 from by omega)⟩, (show 4 - (k30 + 1) < 4 - k30 from by omega)⟩
            · skip
              refine wp_region_lit ?_
              refine sB 1 [(66, .pointer (some ⟨bb3, 0, none⟩))] hF (by kernel_rfl) fun a hF => ?_
              refine wl (eL 67 3 0 (v := .agg #[.int .i64 y2_0, .int .i64 y2_1]) hF hM (by kernel_rfl) rfl rfl (by kernel_rfl) (by kernel_rfl) fun a w hF hM => ?_)
              refine sB 1 [(68, .pointer (some ⟨bb3, 2, none⟩))] hF (by kernel_rfl) fun a hF => ?_
              refine wl (eL 69 3 2 (v := .agg #[.int .i64 y2_2, .int .i64 y2_3]) hF hM (by kernel_rfl) rfl rfl (by kernel_rfl) (by kernel_rfl) fun a w hF hM => ?_)
              refine wl (eM 70 (v := .tuple #[.agg #[.int .i64 y2_0, .int .i64 y2_1], .int .i64 0]) hF hM (by kernel_rfl) (yld_call (f := 29) (args := #[.agg #[.int .i64 y2_0, .int .i64 y2_1], .agg #[.int .i64 y2_2, .int .i64 y2_3]]) hF (by kernel_rfl) (fun _ => by kernel_rfl) (fun w hM => raMax_fst y2_0 y2_1 y2_2 y2_3 w (hT.below (Nat.le_refl _) hM.bel) hz3 hz5 hz8)) fun a w hF hM => ?_)
              refine sB 3 [(65, .tuple #[.agg #[.int .i64 y2_0, .int .i64 y2_1], .int .i64 0]), (71, .agg #[.int .i64 y2_0, .int .i64 y2_1]), (72, .int .i64 0)] hF (by kernel_rfl) fun a hF => ?_
              refine wl (eN 15 12 (t := 23) (fun b => .pointer (some ⟨b, 0, none⟩)) #[.int .i64 0, .int .i64 0] hF hM (by kernel_rfl) (fun _ => by kernel_rfl) fun bb12 a w hF hM => ?_)
              refine wl (sStore (i := 12) (off := 0) (cs' := #[.int .i64 y2_0, .int .i64 y2_1]) hF hM (by kernel_rfl) rfl rfl (by kernel_rfl) (by kernel_rfl) rfl (by kernel_rfl) fun w hM => ?_)
              refine sB 1 [(16, .int .i64 0)] hF (by kernel_rfl) fun a hF => ?_
              refine wpList_nil ?_
              refine hK23 _ _ ?_
              refine wp_seq_k fun K32 hK32 => ?_
              refine wp_region_lit ?_
              refine sB 1 [(74, .pointer (some ⟨bb3, 0, none⟩))] hF (by kernel_rfl) fun a hF => ?_
              refine wl (eL 75 3 0 (v := .agg #[.int .i64 y2_0, .int .i64 y2_1]) hF hM (by kernel_rfl) rfl rfl (by kernel_rfl) (by kernel_rfl) fun a w hF hM => ?_)
              refine sB 1 [(76, .pointer (some ⟨bb3, 2, none⟩))] hF (by kernel_rfl) fun a hF => ?_
              refine wl (eL 77 3 2 (v := .agg #[.int .i64 y2_2, .int .i64 y2_3]) hF hM (by kernel_rfl) rfl rfl (by kernel_rfl) (by kernel_rfl) fun a w hF hM => ?_)
              refine wl (eM 78 (v := .tuple #[.agg #[.int .i64 y2_0, .int .i64 y2_1], .int .i64 0]) hF hM (by kernel_rfl) (yld_call (f := 34) (args := #[.agg #[.int .i64 y2_0, .int .i64 y2_1], .agg #[.int .i64 y2_2, .int .i64 y2_3]]) hF (by kernel_rfl) (fun _ => by kernel_rfl) (fun w hM => rbMax_fst y2_0 y2_1 y2_2 y2_3 w hz3 hz5 hz8)) fun a w hF hM => ?_)
              refine sB 3 [(73, .tuple #[.agg #[.int .i64 y2_0, .int .i64 y2_1], .int .i64 0]), (79, .agg #[.int .i64 y2_0, .int .i64 y2_1]), (80, .int .i64 0)] hF (by kernel_rfl) fun a hF => ?_
              refine wl (eN 17 13 (t := 23) (fun b => .pointer (some ⟨b, 0, none⟩)) #[.int .i64 0, .int .i64 0] hF hM (by kernel_rfl) (fun _ => by kernel_rfl) fun bb13 a w hF hM => ?_)
              refine wl (sStore (i := 13) (off := 0) (cs' := #[.int .i64 y2_0, .int .i64 y2_1]) hF hM (by kernel_rfl) rfl rfl (by kernel_rfl) (by kernel_rfl) rfl (by kernel_rfl) fun w hM => ?_)
              refine sB 1 [(18, .int .i64 0)] hF (by kernel_rfl) fun a hF => ?_
              refine wpList_nil ?_
              refine hK32 _ _ ?_
              refine wp_seq_k fun K33 hK33 => ?_
              refine wp_seq_k fun K34 hK34 => ?_
              refine wp_region_lit ?_
              refine sB 2 [(81, .int .i64 (rcV y2_0 y2_1 y2_2 y2_3)), (82, .int .i64 (rcV y2_0 y2_1 y2_2 y2_3))] hF (by kernel_rfl) fun a hF => ?_
              refine wl (eP 83 (v0 := .bool (!decide (rcV y2_0 y2_1 y2_2 y2_3 = rcV y2_0 y2_1 y2_2 y2_3))) (v := .bool false) hF (by kernel_rfl) (fun _ => by kernel_rfl) (nT (by omega)) fun a hF => ?_)
              refine sB 3 [(84, .bool false), (85, .int .i64 0), (86, .int .i64 0)] hF (by kernel_rfl) fun a hF => ?_
              refine wl (eP 87 (v0 := .bool (!decide (0 = 0))) (v := .bool false) hF (by kernel_rfl) (fun _ => by kernel_rfl) (nT (by omega)) fun a hF => ?_)
              refine sB 2 [(88, .bool false), (89, .bool false)] hF (by kernel_rfl) fun a hF => ?_
              refine wl (eL 90 8 0 (v := .agg #[.int .i64 y2_0, .int .i64 y2_1]) hF hM (by kernel_rfl) rfl rfl (by kernel_rfl) (by kernel_rfl) fun a w hF hM => ?_)
              refine wl (eL 91 9 0 (v := .agg #[.int .i64 y2_0, .int .i64 y2_1]) hF hM (by kernel_rfl) rfl rfl (by kernel_rfl) (by kernel_rfl) fun a w hF hM => ?_)
              refine wl (eM 92 (v := .bool false) hF hM (by kernel_rfl) ((yld_neq (C := Mem _ _ _) [y2_0, y2_1] [y2_0, y2_1] hF rfl (by kernel_rfl) (by kernel_rfl) (by kernel_rfl) rfl (by kernel_rfl) (by kernel_rfl) (by kernel_rfl) rfl rfl).to (nT rfl)) fun a w hF hM => ?_)
              refine sB 4 [(93, .bool false), (94, .bool false), (95, .int .i64 0), (96, .int .i64 0)] hF (by kernel_rfl) fun a hF => ?_
              refine wl (eP 97 (v0 := .bool (!decide (0 = 0))) (v := .bool false) hF (by kernel_rfl) (fun _ => by kernel_rfl) (nT (by omega)) fun a hF => ?_)
              refine sB 2 [(98, .bool false), (99, .bool false)] hF (by kernel_rfl) fun a hF => ?_
              refine wl (eL 100 12 0 (v := .agg #[.int .i64 y2_0, .int .i64 y2_1]) hF hM (by kernel_rfl) rfl rfl (by kernel_rfl) (by kernel_rfl) fun a w hF hM => ?_)
              refine wl (eL 101 13 0 (v := .agg #[.int .i64 y2_0, .int .i64 y2_1]) hF hM (by kernel_rfl) rfl rfl (by kernel_rfl) (by kernel_rfl) fun a w hF hM => ?_)
              refine wl (eM 102 (v := .bool false) hF hM (by kernel_rfl) ((yld_neq (C := Mem _ _ _) [y2_0, y2_1] [y2_0, y2_1] hF rfl (by kernel_rfl) (by kernel_rfl) (by kernel_rfl) rfl (by kernel_rfl) (by kernel_rfl) (by kernel_rfl) rfl rfl).to (nT rfl)) fun a w hF hM => ?_)
              refine sB 4 [(103, .bool false), (104, .bool false), (105, .int .i64 0), (106, .int .i64 0)] hF (by kernel_rfl) fun a hF => ?_
              refine wl (eP 107 (v0 := .bool (!decide (0 = 0))) (v := .bool false) hF (by kernel_rfl) (fun _ => by kernel_rfl) (nT (by omega)) fun a hF => ?_)
              refine sB 1 [(108, .bool false)] hF (by kernel_rfl) fun a hF => ?_
              refine wpList_nil ?_
              refine hK34 _ _ ?_
              refine cF hF (by kernel_rfl) (by kernel_rfl) ?_
              refine wp_skip ?_
              refine hK33 _ _ ?_
              refine wp_seq_k fun K35 hK35 => ?_
              refine wp_region_lit ?_
              refine sB 1 [(110, .pointer (some ⟨bb3, 0, none⟩))] hF (by kernel_rfl) fun a hF => ?_
              refine wl (eL 111 3 0 (v := .agg #[.int .i64 y2_0, .int .i64 y2_1]) hF hM (by kernel_rfl) rfl rfl (by kernel_rfl) (by kernel_rfl) fun a w hF hM => ?_)
              refine wl (eM 112 (v := .tuple #[.int .i64 (fdV y2_0 y2_1), .int .i64 0]) hF hM (by kernel_rfl) (yld_call (f := 26) (args := #[.agg #[.int .i64 y2_0, .int .i64 y2_1]]) hF (by kernel_rfl) (fun _ => by kernel_rfl) (fun w hM => raFloor_ok y2_0 y2_1 w (hT.below (Nat.le_refl _) hM.bel) hz3)) fun a w hF hM => ?_)
              refine sB 5 [(109, .tuple #[.int .i64 (fdV y2_0 y2_1), .int .i64 0]), (113, .int .i64 (fdV y2_0 y2_1)), (114, .int .i64 0), (19, .int .i64 (fdV y2_0 y2_1)), (20, .int .i64 0)] hF (by kernel_rfl) fun a hF => ?_
              refine wpList_nil ?_
              refine hK35 _ _ ?_
              refine wp_seq_k fun K36 hK36 => ?_
              refine wp_region_lit ?_
              refine sB 1 [(116, .pointer (some ⟨bb3, 0, none⟩))] hF (by kernel_rfl) fun a hF => ?_
              refine wl (eL 117 3 0 (v := .agg #[.int .i64 y2_0, .int .i64 y2_1]) hF hM (by kernel_rfl) rfl rfl (by kernel_rfl) (by kernel_rfl) fun a w hF hM => ?_)
              refine wl (eM 118 (v := .tuple #[.int .i64 (fdV y2_0 y2_1), .int .i64 0]) hF hM (by kernel_rfl) (yld_call (f := 35) (args := #[.agg #[.int .i64 y2_0, .int .i64 y2_1]]) hF (by kernel_rfl) (fun _ => by kernel_rfl) (fun w hM => rbFloor_ok y2_0 y2_1 w hz3)) fun a w hF hM => ?_)
              refine sB 5 [(115, .tuple #[.int .i64 (fdV y2_0 y2_1), .int .i64 0]), (119, .int .i64 (fdV y2_0 y2_1)), (120, .int .i64 0), (21, .int .i64 (fdV y2_0 y2_1)), (22, .int .i64 0)] hF (by kernel_rfl) fun a hF => ?_
              refine wpList_nil ?_
              refine hK36 _ _ ?_
              refine wp_seq_k fun K37 hK37 => ?_
              refine wp_region_lit ?_
              refine sB 1 [(122, .pointer (some ⟨bb3, 0, none⟩))] hF (by kernel_rfl) fun a hF => ?_
              refine wl (eL 123 3 0 (v := .agg #[.int .i64 y2_0, .int .i64 y2_1]) hF hM (by kernel_rfl) rfl rfl (by kernel_rfl) (by kernel_rfl) fun a w hF hM => ?_)
              refine wl (eM 124 (v := .tuple #[.int .i64 (cdV y2_0 y2_1), .int .i64 0]) hF hM (by kernel_rfl) (yld_call (f := 27) (args := #[.agg #[.int .i64 y2_0, .int .i64 y2_1]]) hF (by kernel_rfl) (fun _ => by kernel_rfl) (fun w hM => raCeil_ok y2_0 y2_1 w (hT.below (Nat.le_refl _) hM.bel) hz3)) fun a w hF hM => ?_)
              refine sB 5 [(121, .tuple #[.int .i64 (cdV y2_0 y2_1), .int .i64 0]), (125, .int .i64 (cdV y2_0 y2_1)), (126, .int .i64 0), (23, .int .i64 (cdV y2_0 y2_1)), (24, .int .i64 0)] hF (by kernel_rfl) fun a hF => ?_
              refine wpList_nil ?_
              refine hK37 _ _ ?_
              refine wp_seq_k fun K38 hK38 => ?_
              refine wp_region_lit ?_
              refine sB 1 [(128, .pointer (some ⟨bb3, 0, none⟩))] hF (by kernel_rfl) fun a hF => ?_
              refine wl (eL 129 3 0 (v := .agg #[.int .i64 y2_0, .int .i64 y2_1]) hF hM (by kernel_rfl) rfl rfl (by kernel_rfl) (by kernel_rfl) fun a w hF hM => ?_)
              refine wl (eM 130 (v := .tuple #[.int .i64 (cdV y2_0 y2_1), .int .i64 0]) hF hM (by kernel_rfl) (yld_call (f := 36) (args := #[.agg #[.int .i64 y2_0, .int .i64 y2_1]]) hF (by kernel_rfl) (fun _ => by kernel_rfl) (fun w hM => rbCeil_ok y2_0 y2_1 w hz3)) fun a w hF hM => ?_)
              refine sB 5 [(127, .tuple #[.int .i64 (cdV y2_0 y2_1), .int .i64 0]), (131, .int .i64 (cdV y2_0 y2_1)), (132, .int .i64 0), (25, .int .i64 (cdV y2_0 y2_1)), (26, .int .i64 0)] hF (by kernel_rfl) fun a hF => ?_
              refine wpList_nil ?_
              refine hK38 _ _ ?_
              refine wp_seq_k fun K39 hK39 => ?_
              refine wp_region_lit ?_
              refine sB 2 [(133, .int .i64 (fdV y2_0 y2_1)), (134, .int .i64 (fdV y2_0 y2_1))] hF (by kernel_rfl) fun a hF => ?_
              refine wl (eP 135 (v0 := .bool (!decide (fdV y2_0 y2_1 = fdV y2_0 y2_1))) (v := .bool false) hF (by kernel_rfl) (fun _ => by kernel_rfl) (nT (by omega)) fun a hF => ?_)
              refine sB 3 [(136, .bool false), (137, .int .i64 0), (138, .int .i64 0)] hF (by kernel_rfl) fun a hF => ?_
              refine wl (eP 139 (v0 := .bool (!decide (0 = 0))) (v := .bool false) hF (by kernel_rfl) (fun _ => by kernel_rfl) (nT (by omega)) fun a hF => ?_)
              refine sB 4 [(140, .bool false), (141, .bool false), (142, .int .i64 (cdV y2_0 y2_1)), (143, .int .i64 (cdV y2_0 y2_1))] hF (by kernel_rfl) fun a hF => ?_
              refine wl (eP 144 (v0 := .bool (!decide (cdV y2_0 y2_1 = cdV y2_0 y2_1))) (v := .bool false) hF (by kernel_rfl) (fun _ => by kernel_rfl) (nT (by omega)) fun a hF => ?_)
              refine sB 4 [(145, .bool false), (146, .bool false), (147, .int .i64 0), (148, .int .i64 0)] hF (by kernel_rfl) fun a hF => ?_
              refine wl (eP 149 (v0 := .bool (!decide (0 = 0))) (v := .bool false) hF (by kernel_rfl) (fun _ => by kernel_rfl) (nT (by omega)) fun a hF => ?_)
              refine sB 1 [(150, .bool false)] hF (by kernel_rfl) fun a hF => ?_
              refine wpList_nil ?_
              refine hK39 _ _ ?_
              refine cF hF (by kernel_rfl) (by kernel_rfl) ?_
              refine wp_skip ?_
              refine hK7 _ _ ?_
              refine wp_region_lit ?_
              refine wl (eP 151 (v0 := .int .i64 (IntKind.i64.wrap ((k30 : Int) + 1))) (v := .int .i64 ((k30 : Int) + 1)) hF (by kernel_rfl) (fun _ => by kernel_rfl) (wi (by omega)) fun a hF => ?_)
              refine sB 1 [(30, .int .i64 ((k30 : Int) + 1))] hF (by kernel_rfl) fun a hF => ?_
              refine wpList_nil ?_
              refine hK4 _ _ ⟨(k30 + 1), ⟨(((Fr.nil hF).c hF (i := 29) rfl rfl).c hF (i := 30) rfl (vi (show ((k30 : Int) + 1 : Int) = ((k30 + 1) : Int) from by omega))), (hM.sub Sub.nil), (show ((k30 + 1) : Int) ≤ 4 from by omega)⟩, (show 4 - (k30 + 1) < 4 - k30 from by omega)⟩
        · skip
          refine wp_region_lit ?_
          refine sB 1 [(34, .pointer (some ⟨bb3, 0, none⟩))] hF (by kernel_rfl) fun a hF => ?_
          refine wl (eL 35 3 0 (v := .agg #[.int .i64 y2_0, .int .i64 y2_1]) hF hM (by kernel_rfl) rfl rfl (by kernel_rfl) (by kernel_rfl) fun a w hF hM => ?_)
          refine sB 1 [(36, .pointer (some ⟨bb3, 2, none⟩))] hF (by kernel_rfl) fun a hF => ?_
          refine wl (eL 37 3 2 (v := .agg #[.int .i64 y2_2, .int .i64 y2_3]) hF hM (by kernel_rfl) rfl rfl (by kernel_rfl) (by kernel_rfl) fun a w hF hM => ?_)
          refine wl (eM 38 (v := .tuple #[.int .i64 0, .int .i64 120]) hF hM (by kernel_rfl) (yld_call (f := 25) (args := #[.agg #[.int .i64 y2_0, .int .i64 y2_1], .agg #[.int .i64 y2_2, .int .i64 y2_3]]) hF (by kernel_rfl) (fun _ => by kernel_rfl) (fun w hM => raCmp_no y2_0 y2_1 y2_2 y2_3 w (hT.below (Nat.le_refl _) hM.bel) (fun q => hz5 q.2))) fun a w hF hM => ?_)
          refine sB 5 [(33, .tuple #[.int .i64 0, .int .i64 120]), (39, .int .i64 0), (40, .int .i64 120), (7, .int .i64 0), (8, .int .i64 120)] hF (by kernel_rfl) fun a hF => ?_
          refine wpList_nil ?_
          refine hK9 _ _ ?_
          refine wp_seq_k fun K40 hK40 => ?_
          refine wp_region_lit ?_
          refine sB 1 [(42, .pointer (some ⟨bb3, 0, none⟩))] hF (by kernel_rfl) fun a hF => ?_
          refine wl (eL 43 3 0 (v := .agg #[.int .i64 y2_0, .int .i64 y2_1]) hF hM (by kernel_rfl) rfl rfl (by kernel_rfl) (by kernel_rfl) fun a w hF hM => ?_)
          refine sB 1 [(44, .pointer (some ⟨bb3, 2, none⟩))] hF (by kernel_rfl) fun a hF => ?_
          refine wl (eL 45 3 2 (v := .agg #[.int .i64 y2_2, .int .i64 y2_3]) hF hM (by kernel_rfl) rfl rfl (by kernel_rfl) (by kernel_rfl) fun a w hF hM => ?_)
          refine wl (eM 46 (v := .tuple #[.int .i64 0, .int .i64 120]) hF hM (by kernel_rfl) (yld_call (f := 31) (args := #[.agg #[.int .i64 y2_0, .int .i64 y2_1], .agg #[.int .i64 y2_2, .int .i64 y2_3]]) hF (by kernel_rfl) (fun _ => by kernel_rfl) (fun w hM => rbCmp_no y2_0 y2_1 y2_2 y2_3 w (fun q => hz5 q.2))) fun a w hF hM => ?_)
          refine sB 5 [(41, .tuple #[.int .i64 0, .int .i64 120]), (47, .int .i64 0), (48, .int .i64 120), (9, .int .i64 0), (10, .int .i64 120)] hF (by kernel_rfl) fun a hF => ?_
          refine wpList_nil ?_
          refine hK40 _ _ ?_
          refine wp_seq_k fun K41 hK41 => ?_
          refine wp_region_lit ?_
          refine sB 1 [(50, .pointer (some ⟨bb3, 0, none⟩))] hF (by kernel_rfl) fun a hF => ?_
          refine wl (eL 51 3 0 (v := .agg #[.int .i64 y2_0, .int .i64 y2_1]) hF hM (by kernel_rfl) rfl rfl (by kernel_rfl) (by kernel_rfl) fun a w hF hM => ?_)
          refine sB 1 [(52, .pointer (some ⟨bb3, 2, none⟩))] hF (by kernel_rfl) fun a hF => ?_
          refine wl (eL 53 3 2 (v := .agg #[.int .i64 y2_2, .int .i64 y2_3]) hF hM (by kernel_rfl) rfl rfl (by kernel_rfl) (by kernel_rfl) fun a w hF hM => ?_)
          refine wl (eM 54 (v := .tuple #[.agg #[.int .i64 0, .int .i64 0], .int .i64 120]) hF hM (by kernel_rfl) (yld_call (f := 32) (args := #[.agg #[.int .i64 y2_0, .int .i64 y2_1], .agg #[.int .i64 y2_2, .int .i64 y2_3]]) hF (by kernel_rfl) (fun _ => by kernel_rfl) (fun w hM => raMin_no y2_0 y2_1 y2_2 y2_3 w (hT.below (Nat.le_refl _) hM.bel) (fun q => hz5 q.2))) fun a w hF hM => ?_)
          refine sB 3 [(49, .tuple #[.agg #[.int .i64 0, .int .i64 0], .int .i64 120]), (55, .agg #[.int .i64 0, .int .i64 0]), (56, .int .i64 120)] hF (by kernel_rfl) fun a hF => ?_
          refine wl (eN 11 14 (t := 23) (fun b => .pointer (some ⟨b, 0, none⟩)) #[.int .i64 0, .int .i64 0] hF hM (by kernel_rfl) (fun _ => by kernel_rfl) fun bb14 a w hF hM => ?_)
          refine wl (sStore (i := 14) (off := 0) (cs' := #[.int .i64 0, .int .i64 0]) hF hM (by kernel_rfl) rfl rfl (by kernel_rfl) (by kernel_rfl) rfl (by kernel_rfl) fun w hM => ?_)
          refine sB 1 [(12, .int .i64 120)] hF (by kernel_rfl) fun a hF => ?_
          refine wpList_nil ?_
          refine hK41 _ _ ?_
          refine wp_seq_k fun K42 hK42 => ?_
          refine wp_region_lit ?_
          refine sB 1 [(58, .pointer (some ⟨bb3, 0, none⟩))] hF (by kernel_rfl) fun a hF => ?_
          refine wl (eL 59 3 0 (v := .agg #[.int .i64 y2_0, .int .i64 y2_1]) hF hM (by kernel_rfl) rfl rfl (by kernel_rfl) (by kernel_rfl) fun a w hF hM => ?_)
          refine sB 1 [(60, .pointer (some ⟨bb3, 2, none⟩))] hF (by kernel_rfl) fun a hF => ?_
          refine wl (eL 61 3 2 (v := .agg #[.int .i64 y2_2, .int .i64 y2_3]) hF hM (by kernel_rfl) rfl rfl (by kernel_rfl) (by kernel_rfl) fun a w hF hM => ?_)
          refine wl (eM 62 (v := .tuple #[.agg #[.int .i64 0, .int .i64 0], .int .i64 120]) hF hM (by kernel_rfl) (yld_call (f := 33) (args := #[.agg #[.int .i64 y2_0, .int .i64 y2_1], .agg #[.int .i64 y2_2, .int .i64 y2_3]]) hF (by kernel_rfl) (fun _ => by kernel_rfl) (fun w hM => rbMin_no y2_0 y2_1 y2_2 y2_3 w (fun q => hz5 q.2))) fun a w hF hM => ?_)
          refine sB 3 [(57, .tuple #[.agg #[.int .i64 0, .int .i64 0], .int .i64 120]), (63, .agg #[.int .i64 0, .int .i64 0]), (64, .int .i64 120)] hF (by kernel_rfl) fun a hF => ?_
          refine wl (eN 13 15 (t := 23) (fun b => .pointer (some ⟨b, 0, none⟩)) #[.int .i64 0, .int .i64 0] hF hM (by kernel_rfl) (fun _ => by kernel_rfl) fun bb15 a w hF hM => ?_)
          refine wl (sStore (i := 15) (off := 0) (cs' := #[.int .i64 0, .int .i64 0]) hF hM (by kernel_rfl) rfl rfl (by kernel_rfl) (by kernel_rfl) rfl (by kernel_rfl) fun w hM => ?_)
          refine sB 1 [(14, .int .i64 120)] hF (by kernel_rfl) fun a hF => ?_
          refine wpList_nil ?_
          refine hK42 _ _ ?_
          refine wp_seq_k fun K43 hK43 => ?_
          refine wp_region_lit ?_
          refine sB 1 [(66, .pointer (some ⟨bb3, 0, none⟩))] hF (by kernel_rfl) fun a hF => ?_
          refine wl (eL 67 3 0 (v := .agg #[.int .i64 y2_0, .int .i64 y2_1]) hF hM (by kernel_rfl) rfl rfl (by kernel_rfl) (by kernel_rfl) fun a w hF hM => ?_)
          refine sB 1 [(68, .pointer (some ⟨bb3, 2, none⟩))] hF (by kernel_rfl) fun a hF => ?_
          refine wl (eL 69 3 2 (v := .agg #[.int .i64 y2_2, .int .i64 y2_3]) hF hM (by kernel_rfl) rfl rfl (by kernel_rfl) (by kernel_rfl) fun a w hF hM => ?_)
          refine wl (eM 70 (v := .tuple #[.agg #[.int .i64 0, .int .i64 0], .int .i64 120]) hF hM (by kernel_rfl) (yld_call (f := 29) (args := #[.agg #[.int .i64 y2_0, .int .i64 y2_1], .agg #[.int .i64 y2_2, .int .i64 y2_3]]) hF (by kernel_rfl) (fun _ => by kernel_rfl) (fun w hM => raMax_no y2_0 y2_1 y2_2 y2_3 w (hT.below (Nat.le_refl _) hM.bel) (fun q => hz5 q.2))) fun a w hF hM => ?_)
          refine sB 3 [(65, .tuple #[.agg #[.int .i64 0, .int .i64 0], .int .i64 120]), (71, .agg #[.int .i64 0, .int .i64 0]), (72, .int .i64 120)] hF (by kernel_rfl) fun a hF => ?_
          refine wl (eN 15 16 (t := 23) (fun b => .pointer (some ⟨b, 0, none⟩)) #[.int .i64 0, .int .i64 0] hF hM (by kernel_rfl) (fun _ => by kernel_rfl) fun bb16 a w hF hM => ?_)
          refine wl (sStore (i := 16) (off := 0) (cs' := #[.int .i64 0, .int .i64 0]) hF hM (by kernel_rfl) rfl rfl (by kernel_rfl) (by kernel_rfl) rfl (by kernel_rfl) fun w hM => ?_)
          refine sB 1 [(16, .int .i64 120)] hF (by kernel_rfl) fun a hF => ?_
          refine wpList_nil ?_
          refine hK43 _ _ ?_
          refine wp_seq_k fun K44 hK44 => ?_
          refine wp_region_lit ?_
          refine sB 1 [(74, .pointer (some ⟨bb3, 0, none⟩))] hF (by kernel_rfl) fun a hF => ?_
          refine wl (eL 75 3 0 (v := .agg #[.int .i64 y2_0, .int .i64 y2_1]) hF hM (by kernel_rfl) rfl rfl (by kernel_rfl) (by kernel_rfl) fun a w hF hM => ?_)
          refine sB 1 [(76, .pointer (some ⟨bb3, 2, none⟩))] hF (by kernel_rfl) fun a hF => ?_
          refine wl (eL 77 3 2 (v := .agg #[.int .i64 y2_2, .int .i64 y2_3]) hF hM (by kernel_rfl) rfl rfl (by kernel_rfl) (by kernel_rfl) fun a w hF hM => ?_)
          refine wl (eM 78 (v := .tuple #[.agg #[.int .i64 0, .int .i64 0], .int .i64 120]) hF hM (by kernel_rfl) (yld_call (f := 34) (args := #[.agg #[.int .i64 y2_0, .int .i64 y2_1], .agg #[.int .i64 y2_2, .int .i64 y2_3]]) hF (by kernel_rfl) (fun _ => by kernel_rfl) (fun w hM => rbMax_no y2_0 y2_1 y2_2 y2_3 w (fun q => hz5 q.2))) fun a w hF hM => ?_)
          refine sB 3 [(73, .tuple #[.agg #[.int .i64 0, .int .i64 0], .int .i64 120]), (79, .agg #[.int .i64 0, .int .i64 0]), (80, .int .i64 120)] hF (by kernel_rfl) fun a hF => ?_
          refine wl (eN 17 17 (t := 23) (fun b => .pointer (some ⟨b, 0, none⟩)) #[.int .i64 0, .int .i64 0] hF hM (by kernel_rfl) (fun _ => by kernel_rfl) fun bb17 a w hF hM => ?_)
          refine wl (sStore (i := 17) (off := 0) (cs' := #[.int .i64 0, .int .i64 0]) hF hM (by kernel_rfl) rfl rfl (by kernel_rfl) (by kernel_rfl) rfl (by kernel_rfl) fun w hM => ?_)
          refine sB 1 [(18, .int .i64 120)] hF (by kernel_rfl) fun a hF => ?_
          refine wpList_nil ?_
          refine hK44 _ _ ?_
          refine wp_seq_k fun K45 hK45 => ?_
          refine wp_seq_k fun K46 hK46 => ?_
          refine wp_region_lit ?_
          refine sB 2 [(81, .int .i64 0), (82, .int .i64 0)] hF (by kernel_rfl) fun a hF => ?_
          refine wl (eP 83 (v0 := .bool (!decide (0 = 0))) (v := .bool false) hF (by kernel_rfl) (fun _ => by kernel_rfl) (nT (by omega)) fun a hF => ?_)
          refine sB 3 [(84, .bool false), (85, .int .i64 120), (86, .int .i64 120)] hF (by kernel_rfl) fun a hF => ?_
          refine wl (eP 87 (v0 := .bool (!decide (120 = 120))) (v := .bool false) hF (by kernel_rfl) (fun _ => by kernel_rfl) (nT (by omega)) fun a hF => ?_)
          refine sB 2 [(88, .bool false), (89, .bool false)] hF (by kernel_rfl) fun a hF => ?_
          refine wl (eL 90 14 0 (v := .agg #[.int .i64 0, .int .i64 0]) hF hM (by kernel_rfl) rfl rfl (by kernel_rfl) (by kernel_rfl) fun a w hF hM => ?_)
          refine wl (eL 91 15 0 (v := .agg #[.int .i64 0, .int .i64 0]) hF hM (by kernel_rfl) rfl rfl (by kernel_rfl) (by kernel_rfl) fun a w hF hM => ?_)
          refine wl (eM 92 (v := .bool false) hF hM (by kernel_rfl) ((yld_neq (C := Mem _ _ _) [0, 0] [0, 0] hF rfl (by kernel_rfl) (by kernel_rfl) (by kernel_rfl) rfl (by kernel_rfl) (by kernel_rfl) (by kernel_rfl) rfl rfl).to (nT (by decide))) fun a w hF hM => ?_)
          refine sB 4 [(93, .bool false), (94, .bool false), (95, .int .i64 120), (96, .int .i64 120)] hF (by kernel_rfl) fun a hF => ?_
          refine wl (eP 97 (v0 := .bool (!decide (120 = 120))) (v := .bool false) hF (by kernel_rfl) (fun _ => by kernel_rfl) (nT (by omega)) fun a hF => ?_)
          refine sB 2 [(98, .bool false), (99, .bool false)] hF (by kernel_rfl) fun a hF => ?_
          refine wl (eL 100 16 0 (v := .agg #[.int .i64 0, .int .i64 0]) hF hM (by kernel_rfl) rfl rfl (by kernel_rfl) (by kernel_rfl) fun a w hF hM => ?_)
          refine wl (eL 101 17 0 (v := .agg #[.int .i64 0, .int .i64 0]) hF hM (by kernel_rfl) rfl rfl (by kernel_rfl) (by kernel_rfl) fun a w hF hM => ?_)
          refine wl (eM 102 (v := .bool false) hF hM (by kernel_rfl) ((yld_neq (C := Mem _ _ _) [0, 0] [0, 0] hF rfl (by kernel_rfl) (by kernel_rfl) (by kernel_rfl) rfl (by kernel_rfl) (by kernel_rfl) (by kernel_rfl) rfl rfl).to (nT (by decide))) fun a w hF hM => ?_)
          refine sB 4 [(103, .bool false), (104, .bool false), (105, .int .i64 120), (106, .int .i64 120)] hF (by kernel_rfl) fun a hF => ?_
          refine wl (eP 107 (v0 := .bool (!decide (120 = 120))) (v := .bool false) hF (by kernel_rfl) (fun _ => by kernel_rfl) (nT (by omega)) fun a hF => ?_)
          refine sB 1 [(108, .bool false)] hF (by kernel_rfl) fun a hF => ?_
          refine wpList_nil ?_
          refine hK46 _ _ ?_
          refine cF hF (by kernel_rfl) (by kernel_rfl) ?_
          refine wp_skip ?_
          refine hK45 _ _ ?_
          refine wp_seq_k fun K47 hK47 => ?_
          refine wp_region_lit ?_
          refine sB 1 [(110, .pointer (some ⟨bb3, 0, none⟩))] hF (by kernel_rfl) fun a hF => ?_
          refine wl (eL 111 3 0 (v := .agg #[.int .i64 y2_0, .int .i64 y2_1]) hF hM (by kernel_rfl) rfl rfl (by kernel_rfl) (by kernel_rfl) fun a w hF hM => ?_)
          refine wl (eM 112 (v := .tuple #[.int .i64 (fdV y2_0 y2_1), .int .i64 0]) hF hM (by kernel_rfl) (yld_call (f := 26) (args := #[.agg #[.int .i64 y2_0, .int .i64 y2_1]]) hF (by kernel_rfl) (fun _ => by kernel_rfl) (fun w hM => raFloor_ok y2_0 y2_1 w (hT.below (Nat.le_refl _) hM.bel) hz3)) fun a w hF hM => ?_)
          refine sB 5 [(109, .tuple #[.int .i64 (fdV y2_0 y2_1), .int .i64 0]), (113, .int .i64 (fdV y2_0 y2_1)), (114, .int .i64 0), (19, .int .i64 (fdV y2_0 y2_1)), (20, .int .i64 0)] hF (by kernel_rfl) fun a hF => ?_
          refine wpList_nil ?_
          refine hK47 _ _ ?_
          refine wp_seq_k fun K48 hK48 => ?_
          refine wp_region_lit ?_
          refine sB 1 [(116, .pointer (some ⟨bb3, 0, none⟩))] hF (by kernel_rfl) fun a hF => ?_
          refine wl (eL 117 3 0 (v := .agg #[.int .i64 y2_0, .int .i64 y2_1]) hF hM (by kernel_rfl) rfl rfl (by kernel_rfl) (by kernel_rfl) fun a w hF hM => ?_)
          refine wl (eM 118 (v := .tuple #[.int .i64 (fdV y2_0 y2_1), .int .i64 0]) hF hM (by kernel_rfl) (yld_call (f := 35) (args := #[.agg #[.int .i64 y2_0, .int .i64 y2_1]]) hF (by kernel_rfl) (fun _ => by kernel_rfl) (fun w hM => rbFloor_ok y2_0 y2_1 w hz3)) fun a w hF hM => ?_)
          refine sB 5 [(115, .tuple #[.int .i64 (fdV y2_0 y2_1), .int .i64 0]), (119, .int .i64 (fdV y2_0 y2_1)), (120, .int .i64 0), (21, .int .i64 (fdV y2_0 y2_1)), (22, .int .i64 0)] hF (by kernel_rfl) fun a hF => ?_
          refine wpList_nil ?_
          refine hK48 _ _ ?_
          refine wp_seq_k fun K49 hK49 => ?_
          refine wp_region_lit ?_
          refine sB 1 [(122, .pointer (some ⟨bb3, 0, none⟩))] hF (by kernel_rfl) fun a hF => ?_
          refine wl (eL 123 3 0 (v := .agg #[.int .i64 y2_0, .int .i64 y2_1]) hF hM (by kernel_rfl) rfl rfl (by kernel_rfl) (by kernel_rfl) fun a w hF hM => ?_)
          refine wl (eM 124 (v := .tuple #[.int .i64 (cdV y2_0 y2_1), .int .i64 0]) hF hM (by kernel_rfl) (yld_call (f := 27) (args := #[.agg #[.int .i64 y2_0, .int .i64 y2_1]]) hF (by kernel_rfl) (fun _ => by kernel_rfl) (fun w hM => raCeil_ok y2_0 y2_1 w (hT.below (Nat.le_refl _) hM.bel) hz3)) fun a w hF hM => ?_)
          refine sB 5 [(121, .tuple #[.int .i64 (cdV y2_0 y2_1), .int .i64 0]), (125, .int .i64 (cdV y2_0 y2_1)), (126, .int .i64 0), (23, .int .i64 (cdV y2_0 y2_1)), (24, .int .i64 0)] hF (by kernel_rfl) fun a hF => ?_
          refine wpList_nil ?_
          refine hK49 _ _ ?_
          refine wp_seq_k fun K50 hK50 => ?_
          refine wp_region_lit ?_
          refine sB 1 [(128, .pointer (some ⟨bb3, 0, none⟩))] hF (by kernel_rfl) fun a hF => ?_
          refine wl (eL 129 3 0 (v := .agg #[.int .i64 y2_0, .int .i64 y2_1]) hF hM (by kernel_rfl) rfl rfl (by kernel_rfl) (by kernel_rfl) fun a w hF hM => ?_)
          refine wl (eM 130 (v := .tuple #[.int .i64 (cdV y2_0 y2_1), .int .i64 0]) hF hM (by kernel_rfl) (yld_call (f := 36) (args := #[.agg #[.int .i64 y2_0, .int .i64 y2_1]]) hF (by kernel_rfl) (fun _ => by kernel_rfl) (fun w hM => rbCeil_ok y2_0 y2_1 w hz3)) fun a w hF hM => ?_)
          refine sB 5 [(127, .tuple #[.int .i64 (cdV y2_0 y2_1), .int .i64 0]), (131, .int .i64 (cdV y2_0 y2_1)), (132, .int .i64 0), (25, .int .i64 (cdV y2_0 y2_1)), (26, .int .i64 0)] hF (by kernel_rfl) fun a hF => ?_
          refine wpList_nil ?_
          refine hK50 _ _ ?_
          refine wp_seq_k fun K51 hK51 => ?_
          refine wp_region_lit ?_
          refine sB 2 [(133, .int .i64 (fdV y2_0 y2_1)), (134, .int .i64 (fdV y2_0 y2_1))] hF (by kernel_rfl) fun a hF => ?_
          refine wl (eP 135 (v0 := .bool (!decide (fdV y2_0 y2_1 = fdV y2_0 y2_1))) (v := .bool false) hF (by kernel_rfl) (fun _ => by kernel_rfl) (nT (by omega)) fun a hF => ?_)
          refine sB 3 [(136, .bool false), (137, .int .i64 0), (138, .int .i64 0)] hF (by kernel_rfl) fun a hF => ?_
          refine wl (eP 139 (v0 := .bool (!decide (0 = 0))) (v := .bool false) hF (by kernel_rfl) (fun _ => by kernel_rfl) (nT (by omega)) fun a hF => ?_)
          refine sB 4 [(140, .bool false), (141, .bool false), (142, .int .i64 (cdV y2_0 y2_1)), (143, .int .i64 (cdV y2_0 y2_1))] hF (by kernel_rfl) fun a hF => ?_
          refine wl (eP 144 (v0 := .bool (!decide (cdV y2_0 y2_1 = cdV y2_0 y2_1))) (v := .bool false) hF (by kernel_rfl) (fun _ => by kernel_rfl) (nT (by omega)) fun a hF => ?_)
          refine sB 4 [(145, .bool false), (146, .bool false), (147, .int .i64 0), (148, .int .i64 0)] hF (by kernel_rfl) fun a hF => ?_
          refine wl (eP 149 (v0 := .bool (!decide (0 = 0))) (v := .bool false) hF (by kernel_rfl) (fun _ => by kernel_rfl) (nT (by omega)) fun a hF => ?_)
          refine sB 1 [(150, .bool false)] hF (by kernel_rfl) fun a hF => ?_
          refine wpList_nil ?_
          refine hK51 _ _ ?_
          refine cF hF (by kernel_rfl) (by kernel_rfl) ?_
          refine wp_skip ?_
          refine hK7 _ _ ?_
          refine wp_region_lit ?_
          refine wl (eP 151 (v0 := .int .i64 (IntKind.i64.wrap ((k30 : Int) + 1))) (v := .int .i64 ((k30 : Int) + 1)) hF (by kernel_rfl) (fun _ => by kernel_rfl) (wi (by omega)) fun a hF => ?_)
          refine sB 1 [(30, .int .i64 ((k30 : Int) + 1))] hF (by kernel_rfl) fun a hF => ?_
          refine wpList_nil ?_
          refine hK4 _ _ ⟨(k30 + 1), ⟨(((Fr.nil hF).c hF (i := 29) rfl rfl).c hF (i := 30) rfl (vi (show ((k30 : Int) + 1 : Int) = ((k30 + 1) : Int) from by omega))), (hM.sub Sub.nil), (show ((k30 + 1) : Int) ≤ 4 from by omega)⟩, (show 4 - (k30 + 1) < 4 - k30 from by omega)⟩
      · skip
        refine wp_region_lit ?_
        refine sB 1 [(34, .pointer (some ⟨bb3, 0, none⟩))] hF (by kernel_rfl) fun a hF => ?_
        refine wl (eL 35 3 0 (v := .agg #[.int .i64 y2_0, .int .i64 y2_1]) hF hM (by kernel_rfl) rfl rfl (by kernel_rfl) (by kernel_rfl) fun a w hF hM => ?_)
        refine sB 1 [(36, .pointer (some ⟨bb3, 2, none⟩))] hF (by kernel_rfl) fun a hF => ?_
        refine wl (eL 37 3 2 (v := .agg #[.int .i64 y2_2, .int .i64 y2_3]) hF hM (by kernel_rfl) rfl rfl (by kernel_rfl) (by kernel_rfl) fun a w hF hM => ?_)
        refine wl (eM 38 (v := .tuple #[.int .i64 0, .int .i64 120]) hF hM (by kernel_rfl) (yld_call (f := 25) (args := #[.agg #[.int .i64 y2_0, .int .i64 y2_1], .agg #[.int .i64 y2_2, .int .i64 y2_3]]) hF (by kernel_rfl) (fun _ => by kernel_rfl) (fun w hM => raCmp_no y2_0 y2_1 y2_2 y2_3 w (hT.below (Nat.le_refl _) hM.bel) (fun q => hz3 q.1))) fun a w hF hM => ?_)
        refine sB 5 [(33, .tuple #[.int .i64 0, .int .i64 120]), (39, .int .i64 0), (40, .int .i64 120), (7, .int .i64 0), (8, .int .i64 120)] hF (by kernel_rfl) fun a hF => ?_
        refine wpList_nil ?_
        refine hK9 _ _ ?_
        refine wp_seq_k fun K52 hK52 => ?_
        refine wp_region_lit ?_
        refine sB 1 [(42, .pointer (some ⟨bb3, 0, none⟩))] hF (by kernel_rfl) fun a hF => ?_
        refine wl (eL 43 3 0 (v := .agg #[.int .i64 y2_0, .int .i64 y2_1]) hF hM (by kernel_rfl) rfl rfl (by kernel_rfl) (by kernel_rfl) fun a w hF hM => ?_)
        refine sB 1 [(44, .pointer (some ⟨bb3, 2, none⟩))] hF (by kernel_rfl) fun a hF => ?_
        refine wl (eL 45 3 2 (v := .agg #[.int .i64 y2_2, .int .i64 y2_3]) hF hM (by kernel_rfl) rfl rfl (by kernel_rfl) (by kernel_rfl) fun a w hF hM => ?_)
        refine wl (eM 46 (v := .tuple #[.int .i64 0, .int .i64 120]) hF hM (by kernel_rfl) (yld_call (f := 31) (args := #[.agg #[.int .i64 y2_0, .int .i64 y2_1], .agg #[.int .i64 y2_2, .int .i64 y2_3]]) hF (by kernel_rfl) (fun _ => by kernel_rfl) (fun w hM => rbCmp_no y2_0 y2_1 y2_2 y2_3 w (fun q => hz3 q.1))) fun a w hF hM => ?_)
        refine sB 5 [(41, .tuple #[.int .i64 0, .int .i64 120]), (47, .int .i64 0), (48, .int .i64 120), (9, .int .i64 0), (10, .int .i64 120)] hF (by kernel_rfl) fun a hF => ?_
        refine wpList_nil ?_
        refine hK52 _ _ ?_
        refine wp_seq_k fun K53 hK53 => ?_
        refine wp_region_lit ?_
        refine sB 1 [(50, .pointer (some ⟨bb3, 0, none⟩))] hF (by kernel_rfl) fun a hF => ?_
        refine wl (eL 51 3 0 (v := .agg #[.int .i64 y2_0, .int .i64 y2_1]) hF hM (by kernel_rfl) rfl rfl (by kernel_rfl) (by kernel_rfl) fun a w hF hM => ?_)
        refine sB 1 [(52, .pointer (some ⟨bb3, 2, none⟩))] hF (by kernel_rfl) fun a hF => ?_
        refine wl (eL 53 3 2 (v := .agg #[.int .i64 y2_2, .int .i64 y2_3]) hF hM (by kernel_rfl) rfl rfl (by kernel_rfl) (by kernel_rfl) fun a w hF hM => ?_)
        refine wl (eM 54 (v := .tuple #[.agg #[.int .i64 0, .int .i64 0], .int .i64 120]) hF hM (by kernel_rfl) (yld_call (f := 32) (args := #[.agg #[.int .i64 y2_0, .int .i64 y2_1], .agg #[.int .i64 y2_2, .int .i64 y2_3]]) hF (by kernel_rfl) (fun _ => by kernel_rfl) (fun w hM => raMin_no y2_0 y2_1 y2_2 y2_3 w (hT.below (Nat.le_refl _) hM.bel) (fun q => hz3 q.1))) fun a w hF hM => ?_)
        refine sB 3 [(49, .tuple #[.agg #[.int .i64 0, .int .i64 0], .int .i64 120]), (55, .agg #[.int .i64 0, .int .i64 0]), (56, .int .i64 120)] hF (by kernel_rfl) fun a hF => ?_
        refine wl (eN 11 18 (t := 23) (fun b => .pointer (some ⟨b, 0, none⟩)) #[.int .i64 0, .int .i64 0] hF hM (by kernel_rfl) (fun _ => by kernel_rfl) fun bb18 a w hF hM => ?_)
        refine wl (sStore (i := 18) (off := 0) (cs' := #[.int .i64 0, .int .i64 0]) hF hM (by kernel_rfl) rfl rfl (by kernel_rfl) (by kernel_rfl) rfl (by kernel_rfl) fun w hM => ?_)
        refine sB 1 [(12, .int .i64 120)] hF (by kernel_rfl) fun a hF => ?_
        refine wpList_nil ?_
        refine hK53 _ _ ?_
        refine wp_seq_k fun K54 hK54 => ?_
        refine wp_region_lit ?_
        refine sB 1 [(58, .pointer (some ⟨bb3, 0, none⟩))] hF (by kernel_rfl) fun a hF => ?_
        refine wl (eL 59 3 0 (v := .agg #[.int .i64 y2_0, .int .i64 y2_1]) hF hM (by kernel_rfl) rfl rfl (by kernel_rfl) (by kernel_rfl) fun a w hF hM => ?_)
        refine sB 1 [(60, .pointer (some ⟨bb3, 2, none⟩))] hF (by kernel_rfl) fun a hF => ?_
        refine wl (eL 61 3 2 (v := .agg #[.int .i64 y2_2, .int .i64 y2_3]) hF hM (by kernel_rfl) rfl rfl (by kernel_rfl) (by kernel_rfl) fun a w hF hM => ?_)
        refine wl (eM 62 (v := .tuple #[.agg #[.int .i64 0, .int .i64 0], .int .i64 120]) hF hM (by kernel_rfl) (yld_call (f := 33) (args := #[.agg #[.int .i64 y2_0, .int .i64 y2_1], .agg #[.int .i64 y2_2, .int .i64 y2_3]]) hF (by kernel_rfl) (fun _ => by kernel_rfl) (fun w hM => rbMin_no y2_0 y2_1 y2_2 y2_3 w (fun q => hz3 q.1))) fun a w hF hM => ?_)
        refine sB 3 [(57, .tuple #[.agg #[.int .i64 0, .int .i64 0], .int .i64 120]), (63, .agg #[.int .i64 0, .int .i64 0]), (64, .int .i64 120)] hF (by kernel_rfl) fun a hF => ?_
        refine wl (eN 13 19 (t := 23) (fun b => .pointer (some ⟨b, 0, none⟩)) #[.int .i64 0, .int .i64 0] hF hM (by kernel_rfl) (fun _ => by kernel_rfl) fun bb19 a w hF hM => ?_)
        refine wl (sStore (i := 19) (off := 0) (cs' := #[.int .i64 0, .int .i64 0]) hF hM (by kernel_rfl) rfl rfl (by kernel_rfl) (by kernel_rfl) rfl (by kernel_rfl) fun w hM => ?_)
        refine sB 1 [(14, .int .i64 120)] hF (by kernel_rfl) fun a hF => ?_
        refine wpList_nil ?_
        refine hK54 _ _ ?_
        refine wp_seq_k fun K55 hK55 => ?_
        refine wp_region_lit ?_
        refine sB 1 [(66, .pointer (some ⟨bb3, 0, none⟩))] hF (by kernel_rfl) fun a hF => ?_
        refine wl (eL 67 3 0 (v := .agg #[.int .i64 y2_0, .int .i64 y2_1]) hF hM (by kernel_rfl) rfl rfl (by kernel_rfl) (by kernel_rfl) fun a w hF hM => ?_)
        refine sB 1 [(68, .pointer (some ⟨bb3, 2, none⟩))] hF (by kernel_rfl) fun a hF => ?_
        refine wl (eL 69 3 2 (v := .agg #[.int .i64 y2_2, .int .i64 y2_3]) hF hM (by kernel_rfl) rfl rfl (by kernel_rfl) (by kernel_rfl) fun a w hF hM => ?_)
        refine wl (eM 70 (v := .tuple #[.agg #[.int .i64 0, .int .i64 0], .int .i64 120]) hF hM (by kernel_rfl) (yld_call (f := 29) (args := #[.agg #[.int .i64 y2_0, .int .i64 y2_1], .agg #[.int .i64 y2_2, .int .i64 y2_3]]) hF (by kernel_rfl) (fun _ => by kernel_rfl) (fun w hM => raMax_no y2_0 y2_1 y2_2 y2_3 w (hT.below (Nat.le_refl _) hM.bel) (fun q => hz3 q.1))) fun a w hF hM => ?_)
        refine sB 3 [(65, .tuple #[.agg #[.int .i64 0, .int .i64 0], .int .i64 120]), (71, .agg #[.int .i64 0, .int .i64 0]), (72, .int .i64 120)] hF (by kernel_rfl) fun a hF => ?_
        refine wl (eN 15 20 (t := 23) (fun b => .pointer (some ⟨b, 0, none⟩)) #[.int .i64 0, .int .i64 0] hF hM (by kernel_rfl) (fun _ => by kernel_rfl) fun bb20 a w hF hM => ?_)
        refine wl (sStore (i := 20) (off := 0) (cs' := #[.int .i64 0, .int .i64 0]) hF hM (by kernel_rfl) rfl rfl (by kernel_rfl) (by kernel_rfl) rfl (by kernel_rfl) fun w hM => ?_)
        refine sB 1 [(16, .int .i64 120)] hF (by kernel_rfl) fun a hF => ?_
        refine wpList_nil ?_
        refine hK55 _ _ ?_
        refine wp_seq_k fun K56 hK56 => ?_
        refine wp_region_lit ?_
        refine sB 1 [(74, .pointer (some ⟨bb3, 0, none⟩))] hF (by kernel_rfl) fun a hF => ?_
        refine wl (eL 75 3 0 (v := .agg #[.int .i64 y2_0, .int .i64 y2_1]) hF hM (by kernel_rfl) rfl rfl (by kernel_rfl) (by kernel_rfl) fun a w hF hM => ?_)
        refine sB 1 [(76, .pointer (some ⟨bb3, 2, none⟩))] hF (by kernel_rfl) fun a hF => ?_
        refine wl (eL 77 3 2 (v := .agg #[.int .i64 y2_2, .int .i64 y2_3]) hF hM (by kernel_rfl) rfl rfl (by kernel_rfl) (by kernel_rfl) fun a w hF hM => ?_)
        refine wl (eM 78 (v := .tuple #[.agg #[.int .i64 0, .int .i64 0], .int .i64 120]) hF hM (by kernel_rfl) (yld_call (f := 34) (args := #[.agg #[.int .i64 y2_0, .int .i64 y2_1], .agg #[.int .i64 y2_2, .int .i64 y2_3]]) hF (by kernel_rfl) (fun _ => by kernel_rfl) (fun w hM => rbMax_no y2_0 y2_1 y2_2 y2_3 w (fun q => hz3 q.1))) fun a w hF hM => ?_)
        refine sB 3 [(73, .tuple #[.agg #[.int .i64 0, .int .i64 0], .int .i64 120]), (79, .agg #[.int .i64 0, .int .i64 0]), (80, .int .i64 120)] hF (by kernel_rfl) fun a hF => ?_
        refine wl (eN 17 21 (t := 23) (fun b => .pointer (some ⟨b, 0, none⟩)) #[.int .i64 0, .int .i64 0] hF hM (by kernel_rfl) (fun _ => by kernel_rfl) fun bb21 a w hF hM => ?_)
        refine wl (sStore (i := 21) (off := 0) (cs' := #[.int .i64 0, .int .i64 0]) hF hM (by kernel_rfl) rfl rfl (by kernel_rfl) (by kernel_rfl) rfl (by kernel_rfl) fun w hM => ?_)
        refine sB 1 [(18, .int .i64 120)] hF (by kernel_rfl) fun a hF => ?_
        refine wpList_nil ?_
        refine hK56 _ _ ?_
        refine wp_seq_k fun K57 hK57 => ?_
        refine wp_seq_k fun K58 hK58 => ?_
        refine wp_region_lit ?_
        refine sB 2 [(81, .int .i64 0), (82, .int .i64 0)] hF (by kernel_rfl) fun a hF => ?_
        refine wl (eP 83 (v0 := .bool (!decide (0 = 0))) (v := .bool false) hF (by kernel_rfl) (fun _ => by kernel_rfl) (nT (by omega)) fun a hF => ?_)
        refine sB 3 [(84, .bool false), (85, .int .i64 120), (86, .int .i64 120)] hF (by kernel_rfl) fun a hF => ?_
        refine wl (eP 87 (v0 := .bool (!decide (120 = 120))) (v := .bool false) hF (by kernel_rfl) (fun _ => by kernel_rfl) (nT (by omega)) fun a hF => ?_)
        refine sB 2 [(88, .bool false), (89, .bool false)] hF (by kernel_rfl) fun a hF => ?_
        refine wl (eL 90 18 0 (v := .agg #[.int .i64 0, .int .i64 0]) hF hM (by kernel_rfl) rfl rfl (by kernel_rfl) (by kernel_rfl) fun a w hF hM => ?_)
        refine wl (eL 91 19 0 (v := .agg #[.int .i64 0, .int .i64 0]) hF hM (by kernel_rfl) rfl rfl (by kernel_rfl) (by kernel_rfl) fun a w hF hM => ?_)
        refine wl (eM 92 (v := .bool false) hF hM (by kernel_rfl) ((yld_neq (C := Mem _ _ _) [0, 0] [0, 0] hF rfl (by kernel_rfl) (by kernel_rfl) (by kernel_rfl) rfl (by kernel_rfl) (by kernel_rfl) (by kernel_rfl) rfl rfl).to (nT (by decide))) fun a w hF hM => ?_)
        refine sB 4 [(93, .bool false), (94, .bool false), (95, .int .i64 120), (96, .int .i64 120)] hF (by kernel_rfl) fun a hF => ?_
        refine wl (eP 97 (v0 := .bool (!decide (120 = 120))) (v := .bool false) hF (by kernel_rfl) (fun _ => by kernel_rfl) (nT (by omega)) fun a hF => ?_)
        refine sB 2 [(98, .bool false), (99, .bool false)] hF (by kernel_rfl) fun a hF => ?_
        refine wl (eL 100 20 0 (v := .agg #[.int .i64 0, .int .i64 0]) hF hM (by kernel_rfl) rfl rfl (by kernel_rfl) (by kernel_rfl) fun a w hF hM => ?_)
        refine wl (eL 101 21 0 (v := .agg #[.int .i64 0, .int .i64 0]) hF hM (by kernel_rfl) rfl rfl (by kernel_rfl) (by kernel_rfl) fun a w hF hM => ?_)
        refine wl (eM 102 (v := .bool false) hF hM (by kernel_rfl) ((yld_neq (C := Mem _ _ _) [0, 0] [0, 0] hF rfl (by kernel_rfl) (by kernel_rfl) (by kernel_rfl) rfl (by kernel_rfl) (by kernel_rfl) (by kernel_rfl) rfl rfl).to (nT (by decide))) fun a w hF hM => ?_)
        refine sB 4 [(103, .bool false), (104, .bool false), (105, .int .i64 120), (106, .int .i64 120)] hF (by kernel_rfl) fun a hF => ?_
        refine wl (eP 107 (v0 := .bool (!decide (120 = 120))) (v := .bool false) hF (by kernel_rfl) (fun _ => by kernel_rfl) (nT (by omega)) fun a hF => ?_)
        refine sB 1 [(108, .bool false)] hF (by kernel_rfl) fun a hF => ?_
        refine wpList_nil ?_
        refine hK58 _ _ ?_
        refine cF hF (by kernel_rfl) (by kernel_rfl) ?_
        refine wp_skip ?_
        refine hK57 _ _ ?_
        refine wp_seq_k fun K59 hK59 => ?_
        refine wp_region_lit ?_
        refine sB 1 [(110, .pointer (some ⟨bb3, 0, none⟩))] hF (by kernel_rfl) fun a hF => ?_
        refine wl (eL 111 3 0 (v := .agg #[.int .i64 y2_0, .int .i64 y2_1]) hF hM (by kernel_rfl) rfl rfl (by kernel_rfl) (by kernel_rfl) fun a w hF hM => ?_)
        refine wl (eM 112 (v := .tuple #[.int .i64 0, .int .i64 120]) hF hM (by kernel_rfl) (yld_call (f := 26) (args := #[.agg #[.int .i64 y2_0, .int .i64 y2_1]]) hF (by kernel_rfl) (fun _ => by kernel_rfl) (fun w hM => raFloor_no y2_0 y2_1 w (hT.below (Nat.le_refl _) hM.bel) hz3)) fun a w hF hM => ?_)
        refine sB 5 [(109, .tuple #[.int .i64 0, .int .i64 120]), (113, .int .i64 0), (114, .int .i64 120), (19, .int .i64 0), (20, .int .i64 120)] hF (by kernel_rfl) fun a hF => ?_
        refine wpList_nil ?_
        refine hK59 _ _ ?_
        refine wp_seq_k fun K60 hK60 => ?_
        refine wp_region_lit ?_
        refine sB 1 [(116, .pointer (some ⟨bb3, 0, none⟩))] hF (by kernel_rfl) fun a hF => ?_
        refine wl (eL 117 3 0 (v := .agg #[.int .i64 y2_0, .int .i64 y2_1]) hF hM (by kernel_rfl) rfl rfl (by kernel_rfl) (by kernel_rfl) fun a w hF hM => ?_)
        refine wl (eM 118 (v := .tuple #[.int .i64 0, .int .i64 120]) hF hM (by kernel_rfl) (yld_call (f := 35) (args := #[.agg #[.int .i64 y2_0, .int .i64 y2_1]]) hF (by kernel_rfl) (fun _ => by kernel_rfl) (fun w hM => rbFloor_no y2_0 y2_1 w hz3)) fun a w hF hM => ?_)
        refine sB 5 [(115, .tuple #[.int .i64 0, .int .i64 120]), (119, .int .i64 0), (120, .int .i64 120), (21, .int .i64 0), (22, .int .i64 120)] hF (by kernel_rfl) fun a hF => ?_
        refine wpList_nil ?_
        refine hK60 _ _ ?_
        refine wp_seq_k fun K61 hK61 => ?_
        refine wp_region_lit ?_
        refine sB 1 [(122, .pointer (some ⟨bb3, 0, none⟩))] hF (by kernel_rfl) fun a hF => ?_
        refine wl (eL 123 3 0 (v := .agg #[.int .i64 y2_0, .int .i64 y2_1]) hF hM (by kernel_rfl) rfl rfl (by kernel_rfl) (by kernel_rfl) fun a w hF hM => ?_)
        refine wl (eM 124 (v := .tuple #[.int .i64 0, .int .i64 120]) hF hM (by kernel_rfl) (yld_call (f := 27) (args := #[.agg #[.int .i64 y2_0, .int .i64 y2_1]]) hF (by kernel_rfl) (fun _ => by kernel_rfl) (fun w hM => raCeil_no y2_0 y2_1 w (hT.below (Nat.le_refl _) hM.bel) hz3)) fun a w hF hM => ?_)
        refine sB 5 [(121, .tuple #[.int .i64 0, .int .i64 120]), (125, .int .i64 0), (126, .int .i64 120), (23, .int .i64 0), (24, .int .i64 120)] hF (by kernel_rfl) fun a hF => ?_
        refine wpList_nil ?_
        refine hK61 _ _ ?_
        refine wp_seq_k fun K62 hK62 => ?_
        refine wp_region_lit ?_
        refine sB 1 [(128, .pointer (some ⟨bb3, 0, none⟩))] hF (by kernel_rfl) fun a hF => ?_
        refine wl (eL 129 3 0 (v := .agg #[.int .i64 y2_0, .int .i64 y2_1]) hF hM (by kernel_rfl) rfl rfl (by kernel_rfl) (by kernel_rfl) fun a w hF hM => ?_)
        refine wl (eM 130 (v := .tuple #[.int .i64 0, .int .i64 120]) hF hM (by kernel_rfl) (yld_call (f := 36) (args := #[.agg #[.int .i64 y2_0, .int .i64 y2_1]]) hF (by kernel_rfl) (fun _ => by kernel_rfl) (fun w hM => rbCeil_no y2_0 y2_1 w hz3)) fun a w hF hM => ?_)
        refine sB 5 [(127, .tuple #[.int .i64 0, .int .i64 120]), (131, .int .i64 0), (132, .int .i64 120), (25, .int .i64 0), (26, .int .i64 120)] hF (by kernel_rfl) fun a hF => ?_
        refine wpList_nil ?_
        refine hK62 _ _ ?_
        refine wp_seq_k fun K63 hK63 => ?_
        refine wp_region_lit ?_
        refine sB 2 [(133, .int .i64 0), (134, .int .i64 0)] hF (by kernel_rfl) fun a hF => ?_
        refine wl (eP 135 (v0 := .bool (!decide (0 = 0))) (v := .bool false) hF (by kernel_rfl) (fun _ => by kernel_rfl) (nT (by omega)) fun a hF => ?_)
        refine sB 3 [(136, .bool false), (137, .int .i64 120), (138, .int .i64 120)] hF (by kernel_rfl) fun a hF => ?_
        refine wl (eP 139 (v0 := .bool (!decide (120 = 120))) (v := .bool false) hF (by kernel_rfl) (fun _ => by kernel_rfl) (nT (by omega)) fun a hF => ?_)
        refine sB 4 [(140, .bool false), (141, .bool false), (142, .int .i64 0), (143, .int .i64 0)] hF (by kernel_rfl) fun a hF => ?_
        refine wl (eP 144 (v0 := .bool (!decide (0 = 0))) (v := .bool false) hF (by kernel_rfl) (fun _ => by kernel_rfl) (nT (by omega)) fun a hF => ?_)
        refine sB 4 [(145, .bool false), (146, .bool false), (147, .int .i64 120), (148, .int .i64 120)] hF (by kernel_rfl) fun a hF => ?_
        refine wl (eP 149 (v0 := .bool (!decide (120 = 120))) (v := .bool false) hF (by kernel_rfl) (fun _ => by kernel_rfl) (nT (by omega)) fun a hF => ?_)
        refine sB 1 [(150, .bool false)] hF (by kernel_rfl) fun a hF => ?_
        refine wpList_nil ?_
        refine hK63 _ _ ?_
        refine cF hF (by kernel_rfl) (by kernel_rfl) ?_
        refine wp_skip ?_
        refine hK7 _ _ ?_
        refine wp_region_lit ?_
        refine wl (eP 151 (v0 := .int .i64 (IntKind.i64.wrap ((k30 : Int) + 1))) (v := .int .i64 ((k30 : Int) + 1)) hF (by kernel_rfl) (fun _ => by kernel_rfl) (wi (by omega)) fun a hF => ?_)
        refine sB 1 [(30, .int .i64 ((k30 : Int) + 1))] hF (by kernel_rfl) fun a hF => ?_
        refine wpList_nil ?_
        refine hK4 _ _ ⟨(k30 + 1), ⟨(((Fr.nil hF).c hF (i := 29) rfl rfl).c hF (i := 30) rfl (vi (show ((k30 : Int) + 1 : Int) = ((k30 + 1) : Int) from by omega))), (hM.sub Sub.nil), (show ((k30 + 1) : Int) ≤ 4 from by omega)⟩, (show 4 - (k30 + 1) < 4 - k30 from by omega)⟩
    · skip
      replace hF := hF.c hF (i := 31) (v := .bool false) rfl (bF hz2)
      refine cF hF (by kernel_rfl) (by kernel_rfl) ?_
      refine wp_exit ?_
      refine hK2 _ _ ?_
      refine wp_seq_k fun K64 hK64 => ?_
      refine wp_region_lit ?_
      refine wl (eM 152 (v := .bool true) hF hM (by kernel_rfl) (yld_call (f := 14) (args := #[]) hF (by kernel_rfl) (fun _ => by kernel_rfl) (fun w hM => works_w w (hT.below (Nat.le_refl _) hM.bel))) fun a w hF hM => ?_)
      refine sB 1 [(4, .bool true)] hF (by kernel_rfl) fun a hF => ?_
      refine wpList_nil ?_
      refine hK64 _ _ ?_
      refine wp_ret ?_
      refine hR0 _ _ ?_
      refine ret_of hF hM (.tmp rfl (.nil)) ?_
      exact ⟨rfl, hM.bel⟩

end Go.Proofs.YtboodcekjooehaaDoor
