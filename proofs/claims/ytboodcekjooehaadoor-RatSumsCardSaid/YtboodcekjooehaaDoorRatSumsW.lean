/-
  The walk of RatSums.
-/
import Derived.Test.YtboodcekjooehaaDoorRatE
namespace Go.Proofs.YtboodcekjooehaaDoor
open Go.RowKit
set_option linter.unusedVariables false
set_option linter.unusedSimpArgs false

set_option maxRecDepth 100000 in
set_option maxHeartbeats 8000000 in
theorem ratSums_walk (an ad bn bd : Int) (w0 : World) (hT : Tab w0) :
    Calls Tryd.prog 4 #[.agg #[.int .i64 an, .int .i64 ad], .agg #[.int .i64 bn, .int .i64 bd]] w0 (Ret w0 (.bool true)) := by
  refine enterK 133 Tryd.func4 rfl rfl rfl ?_
  intro a hF Q0 hR0 hN0
  have hM := Mem.start w0
  refine wp_seq_k fun K1 hK1 => ?_
  refine wp_region_lit ?_
  refine wl (eN 2 1 (t := 23) (fun b => .pointer (some ⟨b, 0, none⟩)) #[.int .i64 an, .int .i64 ad] hF hM (by kernel_rfl) (fun _ => by kernel_rfl) fun bb1 a w hF hM => ?_)
  refine wl (eN 3 2 (t := 23) (fun b => .pointer (some ⟨b, 0, none⟩)) #[.int .i64 bn, .int .i64 bd] hF hM (by kernel_rfl) (fun _ => by kernel_rfl) fun bb2 a w hF hM => ?_)
  refine sB 1 [(4, .bool false)] hF (by kernel_rfl) fun a hF => ?_
  refine wpList_nil ?_
  refine hK1 _ _ ?_
  refine wp_seq_k fun K2 hK2 => ?_
  refine wp_seq_k fun K3 hK3 => ?_
  refine wp_region_lit ?_
  refine wl (eL 23 1 0 (v := .agg #[.int .i64 an, .int .i64 ad]) hF hM (by kernel_rfl) rfl rfl (by kernel_rfl) (by kernel_rfl) fun a w hF hM => ?_)
  refine wl (eL 24 2 0 (v := .agg #[.int .i64 bn, .int .i64 bd]) hF hM (by kernel_rfl) rfl rfl (by kernel_rfl) (by kernel_rfl) fun a w hF hM => ?_)
  refine wl (eM 25 (v := .agg #[.int .i64 an, .int .i64 ad, .int .i64 bn, .int .i64 bd, .int .i64 (ofN an ad), .int .i64 (ofD an ad), .int .i64 (ofN bn bd), .int .i64 (ofD bn bd), .int .i64 an, .int .i64 ad, .int .i64 (ofN bn bd), .int .i64 (ofD bn bd), .int .i64 (ofN an ad), .int .i64 (ofD an ad), .int .i64 (ofN an ad), .int .i64 (ofD an ad)]) hF hM (by kernel_rfl) (yld_call (f := 15) (args := #[.agg #[.int .i64 an, .int .i64 ad], .agg #[.int .i64 bn, .int .i64 bd]]) hF (by kernel_rfl) (fun _ => by kernel_rfl) (fun w hM => pairs_w an ad bn bd w)) fun a w hF hM => ?_)
  refine sB 1 [(26, .int .i64 0)] hF (by kernel_rfl) fun a hF => ?_
  refine wpList_nil ?_
  refine hK3 _ _ ?_
  refine wp_block ?_
  refine wp_loop_k (G := Nat) (fun gg a w => Fr 133 [(26, some (.int .i64 (gg : Int))), (25, some (.agg #[.int .i64 an, .int .i64 ad, .int .i64 bn, .int .i64 bd, .int .i64 (ofN an ad), .int .i64 (ofD an ad), .int .i64 (ofN bn bd), .int .i64 (ofD bn bd), .int .i64 an, .int .i64 ad, .int .i64 (ofN bn bd), .int .i64 (ofD bn bd), .int .i64 (ofN an ad), .int .i64 (ofD an ad), .int .i64 (ofN an ad), .int .i64 (ofD an ad)]))] a ∧ Mem w0.heap.size w0 [] w ∧ ((gg : Int) ≤ 4)) (fun gg => 4 - gg) (0) ?_ ?_
  · refine ⟨(((Fr.nil hF).c hF (i := 25) rfl rfl).c hF (i := 26) rfl (vi (show (0 : Int) = (0 : Int) from by omega))), (hM.sub Sub.nil), (show (0 : Int) ≤ 4 from by omega)⟩
  · intro gg a w hI
    intro K4 hK4
    obtain ⟨k26, rfl⟩ : ∃ x, x = gg := ⟨_, rfl⟩
    try dsimp only at hI hK4
    obtain ⟨hF, hM, hz1⟩ := hI
    refine wp_seq_k fun K5 hK5 => ?_
    refine wp_region_lit ?_
    refine sB 1 [(27, .bool (decide ((k26 : Int) < 4)))] hF (by kernel_rfl) fun a hF => ?_
    refine wpList_nil ?_
    refine hK5 _ _ ?_
    refine wp_seq_k fun K6 hK6 => ?_
    by_cases hz2 : (k26 : Int) < 4
    · skip
      replace hF := hF.c hF (i := 27) (v := .bool true) rfl (bT hz2)
      refine cT hF (by kernel_rfl) (by kernel_rfl) ?_
      refine wp_skip ?_
      refine hK6 _ _ ?_
      refine wp_seq_k fun K7 hK7 => ?_
      refine wp_block ?_
      refine wp_seq_k fun K8 hK8 => ?_
      refine wp_region_lit ?_
      obtain ⟨ys2, hl2, hm2, hy2⟩ := idx_agg (P := Tryd.prog) (t := 34) (e := 33) (len := 4) (m := 4) (kd := .i64) [an, ad, bn, bd, ofN an ad, ofD an ad, ofN bn bd, ofD bn bd, an, ad, ofN bn bd, ofD bn bd, ofN an ad, ofD an ad, ofN an ad, ofD an ad] ((k26 : Int)) (by kernel_rfl) (by kernel_rfl) (by omega) rfl
      obtain ⟨y2_0, y2_1, y2_2, y2_3, rfl⟩ := len4 hl2
      refine wl (eM 28 (v := .agg #[.int .i64 y2_0, .int .i64 y2_1, .int .i64 y2_2, .int .i64 y2_3]) hF hM (by kernel_rfl) (yld_index (X := .agg #[.int .i64 an, .int .i64 ad, .int .i64 bn, .int .i64 bd, .int .i64 (ofN an ad), .int .i64 (ofD an ad), .int .i64 (ofN bn bd), .int .i64 (ofD bn bd), .int .i64 an, .int .i64 ad, .int .i64 (ofN bn bd), .int .i64 (ofD bn bd), .int .i64 (ofN an ad), .int .i64 (ofD an ad), .int .i64 (ofN an ad), .int .i64 (ofD an ad)]) (I := .int .i64 ((k26 : Int))) hF rfl (by kernel_rfl) (by kernel_rfl) (by kernel_rfl) (fun w => hy2 w)) fun a w hF hM => ?_)
      refine wl (eN 6 3 (t := 33) (fun b => .pointer (some ⟨b, 0, none⟩)) #[.int .i64 0, .int .i64 0, .int .i64 0, .int .i64 0] hF hM (by kernel_rfl) (fun _ => by kernel_rfl) fun bb3 a w hF hM => ?_)
      refine wl (sStore (i := 3) (off := 0) (cs' := #[.int .i64 y2_0, .int .i64 y2_1, .int .i64 y2_2, .int .i64 y2_3]) hF hM (by kernel_rfl) rfl rfl (by kernel_rfl) (by kernel_rfl) rfl (by kernel_rfl) fun w hM => ?_)
      refine wpList_nil ?_
      refine hK8 _ _ ?_
      refine wp_seq_k fun K9 hK9 => ?_
      by_cases hz3 : raE y2_0 y2_1 = 0
      · skip
        have hz4 := raE_ok hz3
        by_cases hz5 : raE y2_2 y2_3 = 0
        · skip
          have hz6 := raE_ok hz5
          refine wp_region_lit ?_
          refine sB 1 [(30, .pointer (some ⟨bb3, 0, none⟩))] hF (by kernel_rfl) fun a hF => ?_
          refine wl (eL 31 3 0 (v := .agg #[.int .i64 y2_0, .int .i64 y2_1]) hF hM (by kernel_rfl) rfl rfl (by kernel_rfl) (by kernel_rfl) fun a w hF hM => ?_)
          refine sB 1 [(32, .pointer (some ⟨bb3, 2, none⟩))] hF (by kernel_rfl) fun a hF => ?_
          refine wl (eL 33 3 2 (v := .agg #[.int .i64 y2_2, .int .i64 y2_3]) hF hM (by kernel_rfl) rfl rfl (by kernel_rfl) (by kernel_rfl) fun a w hF hM => ?_)
          refine wl (eM 34 (v := .tuple #[.agg #[.int .i64 (rmN (y2_0 * y2_3 + y2_2 * y2_1) (y2_1 * y2_3)), .int .i64 (rmD (y2_0 * y2_3 + y2_2 * y2_1) (y2_1 * y2_3))], .int .i64 (rmE (y2_0 * y2_3 + y2_2 * y2_1) (y2_1 * y2_3))]) hF hM (by kernel_rfl) (yld_call (f := 16) (args := #[.agg #[.int .i64 y2_0, .int .i64 y2_1], .agg #[.int .i64 y2_2, .int .i64 y2_3]]) hF (by kernel_rfl) (fun _ => by kernel_rfl) (fun w hM => raAdd_ok y2_0 y2_1 y2_2 y2_3 w (hT.below (Nat.le_refl _) hM.bel) hz3 hz5)) fun a w hF hM => ?_)
          refine sB 3 [(29, .tuple #[.agg #[.int .i64 (rmN (y2_0 * y2_3 + y2_2 * y2_1) (y2_1 * y2_3)), .int .i64 (rmD (y2_0 * y2_3 + y2_2 * y2_1) (y2_1 * y2_3))], .int .i64 (rmE (y2_0 * y2_3 + y2_2 * y2_1) (y2_1 * y2_3))]), (35, .agg #[.int .i64 (rmN (y2_0 * y2_3 + y2_2 * y2_1) (y2_1 * y2_3)), .int .i64 (rmD (y2_0 * y2_3 + y2_2 * y2_1) (y2_1 * y2_3))]), (36, .int .i64 (rmE (y2_0 * y2_3 + y2_2 * y2_1) (y2_1 * y2_3)))] hF (by kernel_rfl) fun a hF => ?_
          refine wl (eN 7 4 (t := 23) (fun b => .pointer (some ⟨b, 0, none⟩)) #[.int .i64 0, .int .i64 0] hF hM (by kernel_rfl) (fun _ => by kernel_rfl) fun bb4 a w hF hM => ?_)
          refine wl (sStore (i := 4) (off := 0) (cs' := #[.int .i64 (rmN (y2_0 * y2_3 + y2_2 * y2_1) (y2_1 * y2_3)), .int .i64 (rmD (y2_0 * y2_3 + y2_2 * y2_1) (y2_1 * y2_3))]) hF hM (by kernel_rfl) rfl rfl (by kernel_rfl) (by kernel_rfl) rfl (by kernel_rfl) fun w hM => ?_)
          refine sB 1 [(8, .int .i64 (rmE (y2_0 * y2_3 + y2_2 * y2_1) (y2_1 * y2_3)))] hF (by kernel_rfl) fun a hF => ?_
          refine wpList_nil ?_
          refine hK9 _ _ ?_
          refine wp_seq_k fun K10 hK10 => ?_
          refine wp_region_lit ?_
          refine sB 1 [(38, .pointer (some ⟨bb3, 0, none⟩))] hF (by kernel_rfl) fun a hF => ?_
          refine wl (eL 39 3 0 (v := .agg #[.int .i64 y2_0, .int .i64 y2_1]) hF hM (by kernel_rfl) rfl rfl (by kernel_rfl) (by kernel_rfl) fun a w hF hM => ?_)
          refine sB 1 [(40, .pointer (some ⟨bb3, 2, none⟩))] hF (by kernel_rfl) fun a hF => ?_
          refine wl (eL 41 3 2 (v := .agg #[.int .i64 y2_2, .int .i64 y2_3]) hF hM (by kernel_rfl) rfl rfl (by kernel_rfl) (by kernel_rfl) fun a w hF hM => ?_)
          refine wl (eM 42 (v := .tuple #[.agg #[.int .i64 (rmN (y2_0 * y2_3 + y2_2 * y2_1) (y2_1 * y2_3)), .int .i64 (rmD (y2_0 * y2_3 + y2_2 * y2_1) (y2_1 * y2_3))], .int .i64 (rmE (y2_0 * y2_3 + y2_2 * y2_1) (y2_1 * y2_3))]) hF hM (by kernel_rfl) (yld_call (f := 17) (args := #[.agg #[.int .i64 y2_0, .int .i64 y2_1], .agg #[.int .i64 y2_2, .int .i64 y2_3]]) hF (by kernel_rfl) (fun _ => by kernel_rfl) (fun w hM => rbAdd_ok y2_0 y2_1 y2_2 y2_3 w hz3 hz5)) fun a w hF hM => ?_)
          refine sB 3 [(37, .tuple #[.agg #[.int .i64 (rmN (y2_0 * y2_3 + y2_2 * y2_1) (y2_1 * y2_3)), .int .i64 (rmD (y2_0 * y2_3 + y2_2 * y2_1) (y2_1 * y2_3))], .int .i64 (rmE (y2_0 * y2_3 + y2_2 * y2_1) (y2_1 * y2_3))]), (43, .agg #[.int .i64 (rmN (y2_0 * y2_3 + y2_2 * y2_1) (y2_1 * y2_3)), .int .i64 (rmD (y2_0 * y2_3 + y2_2 * y2_1) (y2_1 * y2_3))]), (44, .int .i64 (rmE (y2_0 * y2_3 + y2_2 * y2_1) (y2_1 * y2_3)))] hF (by kernel_rfl) fun a hF => ?_
          refine wl (eN 9 5 (t := 23) (fun b => .pointer (some ⟨b, 0, none⟩)) #[.int .i64 0, .int .i64 0] hF hM (by kernel_rfl) (fun _ => by kernel_rfl) fun bb5 a w hF hM => ?_)
          refine wl (sStore (i := 5) (off := 0) (cs' := #[.int .i64 (rmN (y2_0 * y2_3 + y2_2 * y2_1) (y2_1 * y2_3)), .int .i64 (rmD (y2_0 * y2_3 + y2_2 * y2_1) (y2_1 * y2_3))]) hF hM (by kernel_rfl) rfl rfl (by kernel_rfl) (by kernel_rfl) rfl (by kernel_rfl) fun w hM => ?_)
          refine sB 1 [(10, .int .i64 (rmE (y2_0 * y2_3 + y2_2 * y2_1) (y2_1 * y2_3)))] hF (by kernel_rfl) fun a hF => ?_
          refine wpList_nil ?_
          refine hK10 _ _ ?_
          refine wp_seq_k fun K11 hK11 => ?_
          refine wp_region_lit ?_
          refine sB 1 [(46, .pointer (some ⟨bb3, 0, none⟩))] hF (by kernel_rfl) fun a hF => ?_
          refine wl (eL 47 3 0 (v := .agg #[.int .i64 y2_0, .int .i64 y2_1]) hF hM (by kernel_rfl) rfl rfl (by kernel_rfl) (by kernel_rfl) fun a w hF hM => ?_)
          refine sB 1 [(48, .pointer (some ⟨bb3, 2, none⟩))] hF (by kernel_rfl) fun a hF => ?_
          refine wl (eL 49 3 2 (v := .agg #[.int .i64 y2_2, .int .i64 y2_3]) hF hM (by kernel_rfl) rfl rfl (by kernel_rfl) (by kernel_rfl) fun a w hF hM => ?_)
          refine wl (eM 50 (v := .tuple #[.agg #[.int .i64 (rmN (y2_0 * y2_3 - y2_2 * y2_1) (y2_1 * y2_3)), .int .i64 (rmD (y2_0 * y2_3 - y2_2 * y2_1) (y2_1 * y2_3))], .int .i64 (rmE (y2_0 * y2_3 - y2_2 * y2_1) (y2_1 * y2_3))]) hF hM (by kernel_rfl) (yld_call (f := 18) (args := #[.agg #[.int .i64 y2_0, .int .i64 y2_1], .agg #[.int .i64 y2_2, .int .i64 y2_3]]) hF (by kernel_rfl) (fun _ => by kernel_rfl) (fun w hM => raSub_ok y2_0 y2_1 y2_2 y2_3 w (hT.below (Nat.le_refl _) hM.bel) hz3 hz5)) fun a w hF hM => ?_)
          refine sB 3 [(45, .tuple #[.agg #[.int .i64 (rmN (y2_0 * y2_3 - y2_2 * y2_1) (y2_1 * y2_3)), .int .i64 (rmD (y2_0 * y2_3 - y2_2 * y2_1) (y2_1 * y2_3))], .int .i64 (rmE (y2_0 * y2_3 - y2_2 * y2_1) (y2_1 * y2_3))]), (51, .agg #[.int .i64 (rmN (y2_0 * y2_3 - y2_2 * y2_1) (y2_1 * y2_3)), .int .i64 (rmD (y2_0 * y2_3 - y2_2 * y2_1) (y2_1 * y2_3))]), (52, .int .i64 (rmE (y2_0 * y2_3 - y2_2 * y2_1) (y2_1 * y2_3)))] hF (by kernel_rfl) fun a hF => ?_
          refine wl (eN 11 6 (t := 23) (fun b => .pointer (some ⟨b, 0, none⟩)) #[.int .i64 0, .int .i64 0] hF hM (by kernel_rfl) (fun _ => by kernel_rfl) fun bb6 a w hF hM => ?_)
          refine wl (sStore (i := 6) (off := 0) (cs' := #[.int .i64 (rmN (y2_0 * y2_3 - y2_2 * y2_1) (y2_1 * y2_3)), .int .i64 (rmD (y2_0 * y2_3 - y2_2 * y2_1) (y2_1 * y2_3))]) hF hM (by kernel_rfl) rfl rfl (by kernel_rfl) (by kernel_rfl) rfl (by kernel_rfl) fun w hM => ?_)
          refine sB 1 [(12, .int .i64 (rmE (y2_0 * y2_3 - y2_2 * y2_1) (y2_1 * y2_3)))] hF (by kernel_rfl) fun a hF => ?_
          refine wpList_nil ?_
          refine hK11 _ _ ?_
          refine wp_seq_k fun K12 hK12 => ?_
          refine wp_region_lit ?_
          refine sB 1 [(54, .pointer (some ⟨bb3, 0, none⟩))] hF (by kernel_rfl) fun a hF => ?_
          refine wl (eL 55 3 0 (v := .agg #[.int .i64 y2_0, .int .i64 y2_1]) hF hM (by kernel_rfl) rfl rfl (by kernel_rfl) (by kernel_rfl) fun a w hF hM => ?_)
          refine sB 1 [(56, .pointer (some ⟨bb3, 2, none⟩))] hF (by kernel_rfl) fun a hF => ?_
          refine wl (eL 57 3 2 (v := .agg #[.int .i64 y2_2, .int .i64 y2_3]) hF hM (by kernel_rfl) rfl rfl (by kernel_rfl) (by kernel_rfl) fun a w hF hM => ?_)
          refine wl (eM 58 (v := .tuple #[.agg #[.int .i64 (rmN (y2_0 * y2_3 - y2_2 * y2_1) (y2_1 * y2_3)), .int .i64 (rmD (y2_0 * y2_3 - y2_2 * y2_1) (y2_1 * y2_3))], .int .i64 (rmE (y2_0 * y2_3 - y2_2 * y2_1) (y2_1 * y2_3))]) hF hM (by kernel_rfl) (yld_call (f := 19) (args := #[.agg #[.int .i64 y2_0, .int .i64 y2_1], .agg #[.int .i64 y2_2, .int .i64 y2_3]]) hF (by kernel_rfl) (fun _ => by kernel_rfl) (fun w hM => rbSub_ok y2_0 y2_1 y2_2 y2_3 w hz3 hz5)) fun a w hF hM => ?_)
          refine sB 3 [(53, .tuple #[.agg #[.int .i64 (rmN (y2_0 * y2_3 - y2_2 * y2_1) (y2_1 * y2_3)), .int .i64 (rmD (y2_0 * y2_3 - y2_2 * y2_1) (y2_1 * y2_3))], .int .i64 (rmE (y2_0 * y2_3 - y2_2 * y2_1) (y2_1 * y2_3))]), (59, .agg #[.int .i64 (rmN (y2_0 * y2_3 - y2_2 * y2_1) (y2_1 * y2_3)), .int .i64 (rmD (y2_0 * y2_3 - y2_2 * y2_1) (y2_1 * y2_3))]), (60, .int .i64 (rmE (y2_0 * y2_3 - y2_2 * y2_1) (y2_1 * y2_3)))] hF (by kernel_rfl) fun a hF => ?_
          refine wl (eN 13 7 (t := 23) (fun b => .pointer (some ⟨b, 0, none⟩)) #[.int .i64 0, .int .i64 0] hF hM (by kernel_rfl) (fun _ => by kernel_rfl) fun bb7 a w hF hM => ?_)
          refine wl (sStore (i := 7) (off := 0) (cs' := #[.int .i64 (rmN (y2_0 * y2_3 - y2_2 * y2_1) (y2_1 * y2_3)), .int .i64 (rmD (y2_0 * y2_3 - y2_2 * y2_1) (y2_1 * y2_3))]) hF hM (by kernel_rfl) rfl rfl (by kernel_rfl) (by kernel_rfl) rfl (by kernel_rfl) fun w hM => ?_)
          refine sB 1 [(14, .int .i64 (rmE (y2_0 * y2_3 - y2_2 * y2_1) (y2_1 * y2_3)))] hF (by kernel_rfl) fun a hF => ?_
          refine wpList_nil ?_
          refine hK12 _ _ ?_
          refine wp_seq_k fun K13 hK13 => ?_
          refine wp_region_lit ?_
          refine sB 1 [(62, .pointer (some ⟨bb3, 0, none⟩))] hF (by kernel_rfl) fun a hF => ?_
          refine wl (eL 63 3 0 (v := .agg #[.int .i64 y2_0, .int .i64 y2_1]) hF hM (by kernel_rfl) rfl rfl (by kernel_rfl) (by kernel_rfl) fun a w hF hM => ?_)
          refine sB 1 [(64, .pointer (some ⟨bb3, 2, none⟩))] hF (by kernel_rfl) fun a hF => ?_
          refine wl (eL 65 3 2 (v := .agg #[.int .i64 y2_2, .int .i64 y2_3]) hF hM (by kernel_rfl) rfl rfl (by kernel_rfl) (by kernel_rfl) fun a w hF hM => ?_)
          refine wl (eM 66 (v := .tuple #[.agg #[.int .i64 (rmN (y2_0 * y2_2) (y2_1 * y2_3)), .int .i64 (rmD (y2_0 * y2_2) (y2_1 * y2_3))], .int .i64 (rmE (y2_0 * y2_2) (y2_1 * y2_3))]) hF hM (by kernel_rfl) (yld_call (f := 20) (args := #[.agg #[.int .i64 y2_0, .int .i64 y2_1], .agg #[.int .i64 y2_2, .int .i64 y2_3]]) hF (by kernel_rfl) (fun _ => by kernel_rfl) (fun w hM => raMul_ok y2_0 y2_1 y2_2 y2_3 w (hT.below (Nat.le_refl _) hM.bel) hz3 hz5)) fun a w hF hM => ?_)
          refine sB 3 [(61, .tuple #[.agg #[.int .i64 (rmN (y2_0 * y2_2) (y2_1 * y2_3)), .int .i64 (rmD (y2_0 * y2_2) (y2_1 * y2_3))], .int .i64 (rmE (y2_0 * y2_2) (y2_1 * y2_3))]), (67, .agg #[.int .i64 (rmN (y2_0 * y2_2) (y2_1 * y2_3)), .int .i64 (rmD (y2_0 * y2_2) (y2_1 * y2_3))]), (68, .int .i64 (rmE (y2_0 * y2_2) (y2_1 * y2_3)))] hF (by kernel_rfl) fun a hF => ?_
          refine wl (eN 15 8 (t := 23) (fun b => .pointer (some ⟨b, 0, none⟩)) #[.int .i64 0, .int .i64 0] hF hM (by kernel_rfl) (fun _ => by kernel_rfl) fun bb8 a w hF hM => ?_)
          refine wl (sStore (i := 8) (off := 0) (cs' := #[.int .i64 (rmN (y2_0 * y2_2) (y2_1 * y2_3)), .int .i64 (rmD (y2_0 * y2_2) (y2_1 * y2_3))]) hF hM (by kernel_rfl) rfl rfl (by kernel_rfl) (by kernel_rfl) rfl (by kernel_rfl) fun w hM => ?_)
          refine sB 1 [(16, .int .i64 (rmE (y2_0 * y2_2) (y2_1 * y2_3)))] hF (by kernel_rfl) fun a hF => ?_
          refine wpList_nil ?_
          refine hK13 _ _ ?_
          refine wp_seq_k fun K14 hK14 => ?_
          refine wp_region_lit ?_
          refine sB 1 [(70, .pointer (some ⟨bb3, 0, none⟩))] hF (by kernel_rfl) fun a hF => ?_
          refine wl (eL 71 3 0 (v := .agg #[.int .i64 y2_0, .int .i64 y2_1]) hF hM (by kernel_rfl) rfl rfl (by kernel_rfl) (by kernel_rfl) fun a w hF hM => ?_)
          refine sB 1 [(72, .pointer (some ⟨bb3, 2, none⟩))] hF (by kernel_rfl) fun a hF => ?_
          refine wl (eL 73 3 2 (v := .agg #[.int .i64 y2_2, .int .i64 y2_3]) hF hM (by kernel_rfl) rfl rfl (by kernel_rfl) (by kernel_rfl) fun a w hF hM => ?_)
          refine wl (eM 74 (v := .tuple #[.agg #[.int .i64 (rmN (y2_0 * y2_2) (y2_1 * y2_3)), .int .i64 (rmD (y2_0 * y2_2) (y2_1 * y2_3))], .int .i64 (rmE (y2_0 * y2_2) (y2_1 * y2_3))]) hF hM (by kernel_rfl) (yld_call (f := 21) (args := #[.agg #[.int .i64 y2_0, .int .i64 y2_1], .agg #[.int .i64 y2_2, .int .i64 y2_3]]) hF (by kernel_rfl) (fun _ => by kernel_rfl) (fun w hM => rbMul_ok y2_0 y2_1 y2_2 y2_3 w hz3 hz5)) fun a w hF hM => ?_)
          refine sB 3 [(69, .tuple #[.agg #[.int .i64 (rmN (y2_0 * y2_2) (y2_1 * y2_3)), .int .i64 (rmD (y2_0 * y2_2) (y2_1 * y2_3))], .int .i64 (rmE (y2_0 * y2_2) (y2_1 * y2_3))]), (75, .agg #[.int .i64 (rmN (y2_0 * y2_2) (y2_1 * y2_3)), .int .i64 (rmD (y2_0 * y2_2) (y2_1 * y2_3))]), (76, .int .i64 (rmE (y2_0 * y2_2) (y2_1 * y2_3)))] hF (by kernel_rfl) fun a hF => ?_
          refine wl (eN 17 9 (t := 23) (fun b => .pointer (some ⟨b, 0, none⟩)) #[.int .i64 0, .int .i64 0] hF hM (by kernel_rfl) (fun _ => by kernel_rfl) fun bb9 a w hF hM => ?_)
          refine wl (sStore (i := 9) (off := 0) (cs' := #[.int .i64 (rmN (y2_0 * y2_2) (y2_1 * y2_3)), .int .i64 (rmD (y2_0 * y2_2) (y2_1 * y2_3))]) hF hM (by kernel_rfl) rfl rfl (by kernel_rfl) (by kernel_rfl) rfl (by kernel_rfl) fun w hM => ?_)
          refine sB 1 [(18, .int .i64 (rmE (y2_0 * y2_2) (y2_1 * y2_3)))] hF (by kernel_rfl) fun a hF => ?_
          refine wpList_nil ?_
          refine hK14 _ _ ?_
          refine wp_seq_k fun K15 hK15 => ?_
          refine wp_region_lit ?_
          refine sB 1 [(78, .pointer (some ⟨bb3, 0, none⟩))] hF (by kernel_rfl) fun a hF => ?_
          refine wl (eL 79 3 0 (v := .agg #[.int .i64 y2_0, .int .i64 y2_1]) hF hM (by kernel_rfl) rfl rfl (by kernel_rfl) (by kernel_rfl) fun a w hF hM => ?_)
          refine sB 1 [(80, .pointer (some ⟨bb3, 2, none⟩))] hF (by kernel_rfl) fun a hF => ?_
          refine wl (eL 81 3 2 (v := .agg #[.int .i64 y2_2, .int .i64 y2_3]) hF hM (by kernel_rfl) rfl rfl (by kernel_rfl) (by kernel_rfl) fun a w hF hM => ?_)
          refine wl (eM 82 (v := .tuple #[.agg #[.int .i64 (rmN (y2_0 * y2_3) (y2_1 * y2_2)), .int .i64 (rmD (y2_0 * y2_3) (y2_1 * y2_2))], .int .i64 (rmE (y2_0 * y2_3) (y2_1 * y2_2))]) hF hM (by kernel_rfl) (yld_call (f := 22) (args := #[.agg #[.int .i64 y2_0, .int .i64 y2_1], .agg #[.int .i64 y2_2, .int .i64 y2_3]]) hF (by kernel_rfl) (fun _ => by kernel_rfl) (fun w hM => raDiv_ok y2_0 y2_1 y2_2 y2_3 w (hT.below (Nat.le_refl _) hM.bel) hz3 hz5)) fun a w hF hM => ?_)
          refine sB 3 [(77, .tuple #[.agg #[.int .i64 (rmN (y2_0 * y2_3) (y2_1 * y2_2)), .int .i64 (rmD (y2_0 * y2_3) (y2_1 * y2_2))], .int .i64 (rmE (y2_0 * y2_3) (y2_1 * y2_2))]), (83, .agg #[.int .i64 (rmN (y2_0 * y2_3) (y2_1 * y2_2)), .int .i64 (rmD (y2_0 * y2_3) (y2_1 * y2_2))]), (84, .int .i64 (rmE (y2_0 * y2_3) (y2_1 * y2_2)))] hF (by kernel_rfl) fun a hF => ?_
          refine wl (eN 19 10 (t := 23) (fun b => .pointer (some ⟨b, 0, none⟩)) #[.int .i64 0, .int .i64 0] hF hM (by kernel_rfl) (fun _ => by kernel_rfl) fun bb10 a w hF hM => ?_)
          refine wl (sStore (i := 10) (off := 0) (cs' := #[.int .i64 (rmN (y2_0 * y2_3) (y2_1 * y2_2)), .int .i64 (rmD (y2_0 * y2_3) (y2_1 * y2_2))]) hF hM (by kernel_rfl) rfl rfl (by kernel_rfl) (by kernel_rfl) rfl (by kernel_rfl) fun w hM => ?_)
          refine sB 1 [(20, .int .i64 (rmE (y2_0 * y2_3) (y2_1 * y2_2)))] hF (by kernel_rfl) fun a hF => ?_
          refine wpList_nil ?_
          refine hK15 _ _ ?_
          refine wp_seq_k fun K16 hK16 => ?_
          refine wp_region_lit ?_
          refine sB 1 [(86, .pointer (some ⟨bb3, 0, none⟩))] hF (by kernel_rfl) fun a hF => ?_
          refine wl (eL 87 3 0 (v := .agg #[.int .i64 y2_0, .int .i64 y2_1]) hF hM (by kernel_rfl) rfl rfl (by kernel_rfl) (by kernel_rfl) fun a w hF hM => ?_)
          refine sB 1 [(88, .pointer (some ⟨bb3, 2, none⟩))] hF (by kernel_rfl) fun a hF => ?_
          refine wl (eL 89 3 2 (v := .agg #[.int .i64 y2_2, .int .i64 y2_3]) hF hM (by kernel_rfl) rfl rfl (by kernel_rfl) (by kernel_rfl) fun a w hF hM => ?_)
          refine wl (eM 90 (v := .tuple #[.agg #[.int .i64 (rmN (y2_0 * y2_3) (y2_1 * y2_2)), .int .i64 (rmD (y2_0 * y2_3) (y2_1 * y2_2))], .int .i64 (rmE (y2_0 * y2_3) (y2_1 * y2_2))]) hF hM (by kernel_rfl) (yld_call (f := 23) (args := #[.agg #[.int .i64 y2_0, .int .i64 y2_1], .agg #[.int .i64 y2_2, .int .i64 y2_3]]) hF (by kernel_rfl) (fun _ => by kernel_rfl) (fun w hM => rbDiv_ok y2_0 y2_1 y2_2 y2_3 w hz3 hz5)) fun a w hF hM => ?_)
          refine sB 3 [(85, .tuple #[.agg #[.int .i64 (rmN (y2_0 * y2_3) (y2_1 * y2_2)), .int .i64 (rmD (y2_0 * y2_3) (y2_1 * y2_2))], .int .i64 (rmE (y2_0 * y2_3) (y2_1 * y2_2))]), (91, .agg #[.int .i64 (rmN (y2_0 * y2_3) (y2_1 * y2_2)), .int .i64 (rmD (y2_0 * y2_3) (y2_1 * y2_2))]), (92, .int .i64 (rmE (y2_0 * y2_3) (y2_1 * y2_2)))] hF (by kernel_rfl) fun a hF => ?_
          refine wl (eN 21 11 (t := 23) (fun b => .pointer (some ⟨b, 0, none⟩)) #[.int .i64 0, .int .i64 0] hF hM (by kernel_rfl) (fun _ => by kernel_rfl) fun bb11 a w hF hM => ?_)
          refine wl (sStore (i := 11) (off := 0) (cs' := #[.int .i64 (rmN (y2_0 * y2_3) (y2_1 * y2_2)), .int .i64 (rmD (y2_0 * y2_3) (y2_1 * y2_2))]) hF hM (by kernel_rfl) rfl rfl (by kernel_rfl) (by kernel_rfl) rfl (by kernel_rfl) fun w hM => ?_)
          refine sB 1 [(22, .int .i64 (rmE (y2_0 * y2_3) (y2_1 * y2_2)))] hF (by kernel_rfl) fun a hF => ?_
          refine wpList_nil ?_
          refine hK16 _ _ ?_
          refine wp_seq_k fun K17 hK17 => ?_
          refine wp_region_lit ?_
          refine wl (eL 93 4 0 (v := .agg #[.int .i64 (rmN (y2_0 * y2_3 + y2_2 * y2_1) (y2_1 * y2_3)), .int .i64 (rmD (y2_0 * y2_3 + y2_2 * y2_1) (y2_1 * y2_3))]) hF hM (by kernel_rfl) rfl rfl (by kernel_rfl) (by kernel_rfl) fun a w hF hM => ?_)
          refine wl (eL 94 5 0 (v := .agg #[.int .i64 (rmN (y2_0 * y2_3 + y2_2 * y2_1) (y2_1 * y2_3)), .int .i64 (rmD (y2_0 * y2_3 + y2_2 * y2_1) (y2_1 * y2_3))]) hF hM (by kernel_rfl) rfl rfl (by kernel_rfl) (by kernel_rfl) fun a w hF hM => ?_)
          refine wl (eM 95 (v := .bool false) hF hM (by kernel_rfl) ((yld_neq (C := Mem _ _ _) [rmN (y2_0 * y2_3 + y2_2 * y2_1) (y2_1 * y2_3), rmD (y2_0 * y2_3 + y2_2 * y2_1) (y2_1 * y2_3)] [rmN (y2_0 * y2_3 + y2_2 * y2_1) (y2_1 * y2_3), rmD (y2_0 * y2_3 + y2_2 * y2_1) (y2_1 * y2_3)] hF rfl (by kernel_rfl) (by kernel_rfl) (by kernel_rfl) rfl (by kernel_rfl) (by kernel_rfl) (by kernel_rfl) rfl rfl).to (nT rfl)) fun a w hF hM => ?_)
          refine sB 3 [(96, .bool false), (97, .int .i64 (rmE (y2_0 * y2_3 + y2_2 * y2_1) (y2_1 * y2_3))), (98, .int .i64 (rmE (y2_0 * y2_3 + y2_2 * y2_1) (y2_1 * y2_3)))] hF (by kernel_rfl) fun a hF => ?_
          refine wl (eP 99 (v0 := .bool (!decide (rmE (y2_0 * y2_3 + y2_2 * y2_1) (y2_1 * y2_3) = rmE (y2_0 * y2_3 + y2_2 * y2_1) (y2_1 * y2_3)))) (v := .bool false) hF (by kernel_rfl) (fun _ => by kernel_rfl) (nT (by omega)) fun a hF => ?_)
          refine sB 2 [(100, .bool false), (101, .bool false)] hF (by kernel_rfl) fun a hF => ?_
          refine wl (eL 102 6 0 (v := .agg #[.int .i64 (rmN (y2_0 * y2_3 - y2_2 * y2_1) (y2_1 * y2_3)), .int .i64 (rmD (y2_0 * y2_3 - y2_2 * y2_1) (y2_1 * y2_3))]) hF hM (by kernel_rfl) rfl rfl (by kernel_rfl) (by kernel_rfl) fun a w hF hM => ?_)
          refine wl (eL 103 7 0 (v := .agg #[.int .i64 (rmN (y2_0 * y2_3 - y2_2 * y2_1) (y2_1 * y2_3)), .int .i64 (rmD (y2_0 * y2_3 - y2_2 * y2_1) (y2_1 * y2_3))]) hF hM (by kernel_rfl) rfl rfl (by kernel_rfl) (by kernel_rfl) fun a w hF hM => ?_)
          refine wl (eM 104 (v := .bool false) hF hM (by kernel_rfl) ((yld_neq (C := Mem _ _ _) [rmN (y2_0 * y2_3 - y2_2 * y2_1) (y2_1 * y2_3), rmD (y2_0 * y2_3 - y2_2 * y2_1) (y2_1 * y2_3)] [rmN (y2_0 * y2_3 - y2_2 * y2_1) (y2_1 * y2_3), rmD (y2_0 * y2_3 - y2_2 * y2_1) (y2_1 * y2_3)] hF rfl (by kernel_rfl) (by kernel_rfl) (by kernel_rfl) rfl (by kernel_rfl) (by kernel_rfl) (by kernel_rfl) rfl rfl).to (nT rfl)) fun a w hF hM => ?_)
          refine sB 4 [(105, .bool false), (106, .bool false), (107, .int .i64 (rmE (y2_0 * y2_3 - y2_2 * y2_1) (y2_1 * y2_3))), (108, .int .i64 (rmE (y2_0 * y2_3 - y2_2 * y2_1) (y2_1 * y2_3)))] hF (by kernel_rfl) fun a hF => ?_
          refine wl (eP 109 (v0 := .bool (!decide (rmE (y2_0 * y2_3 - y2_2 * y2_1) (y2_1 * y2_3) = rmE (y2_0 * y2_3 - y2_2 * y2_1) (y2_1 * y2_3)))) (v := .bool false) hF (by kernel_rfl) (fun _ => by kernel_rfl) (nT (by omega)) fun a hF => ?_)
          refine sB 2 [(110, .bool false), (111, .bool false)] hF (by kernel_rfl) fun a hF => ?_
          refine wl (eL 112 8 0 (v := .agg #[.int .i64 (rmN (y2_0 * y2_2) (y2_1 * y2_3)), .int .i64 (rmD (y2_0 * y2_2) (y2_1 * y2_3))]) hF hM (by kernel_rfl) rfl rfl (by kernel_rfl) (by kernel_rfl) fun a w hF hM => ?_)
          refine wl (eL 113 9 0 (v := .agg #[.int .i64 (rmN (y2_0 * y2_2) (y2_1 * y2_3)), .int .i64 (rmD (y2_0 * y2_2) (y2_1 * y2_3))]) hF hM (by kernel_rfl) rfl rfl (by kernel_rfl) (by kernel_rfl) fun a w hF hM => ?_)
          refine wl (eM 114 (v := .bool false) hF hM (by kernel_rfl) ((yld_neq (C := Mem _ _ _) [rmN (y2_0 * y2_2) (y2_1 * y2_3), rmD (y2_0 * y2_2) (y2_1 * y2_3)] [rmN (y2_0 * y2_2) (y2_1 * y2_3), rmD (y2_0 * y2_2) (y2_1 * y2_3)] hF rfl (by kernel_rfl) (by kernel_rfl) (by kernel_rfl) rfl (by kernel_rfl) (by kernel_rfl) (by kernel_rfl) rfl rfl).to (nT rfl)) fun a w hF hM => ?_)
          refine sB 4 [(115, .bool false), (116, .bool false), (117, .int .i64 (rmE (y2_0 * y2_2) (y2_1 * y2_3))), (118, .int .i64 (rmE (y2_0 * y2_2) (y2_1 * y2_3)))] hF (by kernel_rfl) fun a hF => ?_
          refine wl (eP 119 (v0 := .bool (!decide (rmE (y2_0 * y2_2) (y2_1 * y2_3) = rmE (y2_0 * y2_2) (y2_1 * y2_3)))) (v := .bool false) hF (by kernel_rfl) (fun _ => by kernel_rfl) (nT (by omega)) fun a hF => ?_)
          refine sB 2 [(120, .bool false), (121, .bool false)] hF (by kernel_rfl) fun a hF => ?_
          refine wl (eL 122 10 0 (v := .agg #[.int .i64 (rmN (y2_0 * y2_3) (y2_1 * y2_2)), .int .i64 (rmD (y2_0 * y2_3) (y2_1 * y2_2))]) hF hM (by kernel_rfl) rfl rfl (by kernel_rfl) (by kernel_rfl) fun a w hF hM => ?_)
          refine wl (eL 123 11 0 (v := .agg #[.int .i64 (rmN (y2_0 * y2_3) (y2_1 * y2_2)), .int .i64 (rmD (y2_0 * y2_3) (y2_1 * y2_2))]) hF hM (by kernel_rfl) rfl rfl (by kernel_rfl) (by kernel_rfl) fun a w hF hM => ?_)
          refine wl (eM 124 (v := .bool false) hF hM (by kernel_rfl) ((yld_neq (C := Mem _ _ _) [rmN (y2_0 * y2_3) (y2_1 * y2_2), rmD (y2_0 * y2_3) (y2_1 * y2_2)] [rmN (y2_0 * y2_3) (y2_1 * y2_2), rmD (y2_0 * y2_3) (y2_1 * y2_2)] hF rfl (by kernel_rfl) (by kernel_rfl) (by kernel_rfl) rfl (by kernel_rfl) (by kernel_rfl) (by kernel_rfl) rfl rfl).to (nT rfl)) fun a w hF hM => ?_)
          refine sB 4 [(125, .bool false), (126, .bool false), (127, .int .i64 (rmE (y2_0 * y2_3) (y2_1 * y2_2))), (128, .int .i64 (rmE (y2_0 * y2_3) (y2_1 * y2_2)))] hF (by kernel_rfl) fun a hF => ?_
          refine wl (eP 129 (v0 := .bool (!decide (rmE (y2_0 * y2_3) (y2_1 * y2_2) = rmE (y2_0 * y2_3) (y2_1 * y2_2)))) (v := .bool false) hF (by kernel_rfl) (fun _ => by kernel_rfl) (nT (by omega)) fun a hF => ?_)
          refine sB 1 [(130, .bool false)] hF (by kernel_rfl) fun a hF => ?_
          refine wpList_nil ?_
          refine hK17 _ _ ?_
          refine cF hF (by kernel_rfl) (by kernel_rfl) ?_
          refine wp_skip ?_
          refine hK7 _ _ ?_
          refine wp_region_lit ?_
          refine wl (eP 131 (v0 := .int .i64 (IntKind.i64.wrap ((k26 : Int) + 1))) (v := .int .i64 ((k26 : Int) + 1)) hF (by kernel_rfl) (fun _ => by kernel_rfl) (wi (by omega)) fun a hF => ?_)
          refine sB 1 [(26, .int .i64 ((k26 : Int) + 1))] hF (by kernel_rfl) fun a hF => ?_
          refine wpList_nil ?_
          refine hK4 _ _ ⟨(k26 + 1), ⟨(((Fr.nil hF).c hF (i := 25) rfl rfl).c hF (i := 26) rfl (vi (show ((k26 : Int) + 1 : Int) = ((k26 + 1) : Int) from by omega))), (hM.sub Sub.nil), (show ((k26 + 1) : Int) ≤ 4 from by omega)⟩, (show 4 - (k26 + 1) < 4 - k26 from by omega)⟩
        · skip
          refine wp_region_lit ?_
          refine sB 1 [(30, .pointer (some ⟨bb3, 0, none⟩))] hF (by kernel_rfl) fun a hF => ?_
          refine wl (eL 31 3 0 (v := .agg #[.int .i64 y2_0, .int .i64 y2_1]) hF hM (by kernel_rfl) rfl rfl (by kernel_rfl) (by kernel_rfl) fun a w hF hM => ?_)
          refine sB 1 [(32, .pointer (some ⟨bb3, 2, none⟩))] hF (by kernel_rfl) fun a hF => ?_
          refine wl (eL 33 3 2 (v := .agg #[.int .i64 y2_2, .int .i64 y2_3]) hF hM (by kernel_rfl) rfl rfl (by kernel_rfl) (by kernel_rfl) fun a w hF hM => ?_)
          refine wl (eM 34 (v := .tuple #[.agg #[.int .i64 0, .int .i64 0], .int .i64 120]) hF hM (by kernel_rfl) (yld_call (f := 16) (args := #[.agg #[.int .i64 y2_0, .int .i64 y2_1], .agg #[.int .i64 y2_2, .int .i64 y2_3]]) hF (by kernel_rfl) (fun _ => by kernel_rfl) (fun w hM => raAdd_no y2_0 y2_1 y2_2 y2_3 w (hT.below (Nat.le_refl _) hM.bel) (fun q => hz5 q.2))) fun a w hF hM => ?_)
          refine sB 3 [(29, .tuple #[.agg #[.int .i64 0, .int .i64 0], .int .i64 120]), (35, .agg #[.int .i64 0, .int .i64 0]), (36, .int .i64 120)] hF (by kernel_rfl) fun a hF => ?_
          refine wl (eN 7 12 (t := 23) (fun b => .pointer (some ⟨b, 0, none⟩)) #[.int .i64 0, .int .i64 0] hF hM (by kernel_rfl) (fun _ => by kernel_rfl) fun bb12 a w hF hM => ?_)
          refine wl (sStore (i := 12) (off := 0) (cs' := #[.int .i64 0, .int .i64 0]) hF hM (by kernel_rfl) rfl rfl (by kernel_rfl) (by kernel_rfl) rfl (by kernel_rfl) fun w hM => ?_)
          refine sB 1 [(8, .int .i64 120)] hF (by kernel_rfl) fun a hF => ?_
          refine wpList_nil ?_
          refine hK9 _ _ ?_
          refine wp_seq_k fun K18 hK18 => ?_
          refine wp_region_lit ?_
          refine sB 1 [(38, .pointer (some ⟨bb3, 0, none⟩))] hF (by kernel_rfl) fun a hF => ?_
          refine wl (eL 39 3 0 (v := .agg #[.int .i64 y2_0, .int .i64 y2_1]) hF hM (by kernel_rfl) rfl rfl (by kernel_rfl) (by kernel_rfl) fun a w hF hM => ?_)
          refine sB 1 [(40, .pointer (some ⟨bb3, 2, none⟩))] hF (by kernel_rfl) fun a hF => ?_
          refine wl (eL 41 3 2 (v := .agg #[.int .i64 y2_2, .int .i64 y2_3]) hF hM (by kernel_rfl) rfl rfl (by kernel_rfl) (by kernel_rfl) fun a w hF hM => ?_)
          refine wl (eM 42 (v := .tuple #[.agg #[.int .i64 0, .int .i64 0], .int .i64 120]) hF hM (by kernel_rfl) (yld_call (f := 17) (args := #[.agg #[.int .i64 y2_0, .int .i64 y2_1], .agg #[.int .i64 y2_2, .int .i64 y2_3]]) hF (by kernel_rfl) (fun _ => by kernel_rfl) (fun w hM => rbAdd_no y2_0 y2_1 y2_2 y2_3 w (fun q => hz5 q.2))) fun a w hF hM => ?_)
          refine sB 3 [(37, .tuple #[.agg #[.int .i64 0, .int .i64 0], .int .i64 120]), (43, .agg #[.int .i64 0, .int .i64 0]), (44, .int .i64 120)] hF (by kernel_rfl) fun a hF => ?_
          refine wl (eN 9 13 (t := 23) (fun b => .pointer (some ⟨b, 0, none⟩)) #[.int .i64 0, .int .i64 0] hF hM (by kernel_rfl) (fun _ => by kernel_rfl) fun bb13 a w hF hM => ?_)
          refine wl (sStore (i := 13) (off := 0) (cs' := #[.int .i64 0, .int .i64 0]) hF hM (by kernel_rfl) rfl rfl (by kernel_rfl) (by kernel_rfl) rfl (by kernel_rfl) fun w hM => ?_)
          refine sB 1 [(10, .int .i64 120)] hF (by kernel_rfl) fun a hF => ?_
          refine wpList_nil ?_
          refine hK18 _ _ ?_
          refine wp_seq_k fun K19 hK19 => ?_
          refine wp_region_lit ?_
          refine sB 1 [(46, .pointer (some ⟨bb3, 0, none⟩))] hF (by kernel_rfl) fun a hF => ?_
          refine wl (eL 47 3 0 (v := .agg #[.int .i64 y2_0, .int .i64 y2_1]) hF hM (by kernel_rfl) rfl rfl (by kernel_rfl) (by kernel_rfl) fun a w hF hM => ?_)
          refine sB 1 [(48, .pointer (some ⟨bb3, 2, none⟩))] hF (by kernel_rfl) fun a hF => ?_
          refine wl (eL 49 3 2 (v := .agg #[.int .i64 y2_2, .int .i64 y2_3]) hF hM (by kernel_rfl) rfl rfl (by kernel_rfl) (by kernel_rfl) fun a w hF hM => ?_)
          refine wl (eM 50 (v := .tuple #[.agg #[.int .i64 0, .int .i64 0], .int .i64 120]) hF hM (by kernel_rfl) (yld_call (f := 18) (args := #[.agg #[.int .i64 y2_0, .int .i64 y2_1], .agg #[.int .i64 y2_2, .int .i64 y2_3]]) hF (by kernel_rfl) (fun _ => by kernel_rfl) (fun w hM => raSub_no y2_0 y2_1 y2_2 y2_3 w (hT.below (Nat.le_refl _) hM.bel) (fun q => hz5 q.2))) fun a w hF hM => ?_)
          refine sB 3 [(45, .tuple #[.agg #[.int .i64 0, .int .i64 0], .int .i64 120]), (51, .agg #[.int .i64 0, .int .i64 0]), (52, .int .i64 120)] hF (by kernel_rfl) fun a hF => ?_
          refine wl (eN 11 14 (t := 23) (fun b => .pointer (some ⟨b, 0, none⟩)) #[.int .i64 0, .int .i64 0] hF hM (by kernel_rfl) (fun _ => by kernel_rfl) fun bb14 a w hF hM => ?_)
          refine wl (sStore (i := 14) (off := 0) (cs' := #[.int .i64 0, .int .i64 0]) hF hM (by kernel_rfl) rfl rfl (by kernel_rfl) (by kernel_rfl) rfl (by kernel_rfl) fun w hM => ?_)
          refine sB 1 [(12, .int .i64 120)] hF (by kernel_rfl) fun a hF => ?_
          refine wpList_nil ?_
          refine hK19 _ _ ?_
          refine wp_seq_k fun K20 hK20 => ?_
          refine wp_region_lit ?_
          refine sB 1 [(54, .pointer (some ⟨bb3, 0, none⟩))] hF (by kernel_rfl) fun a hF => ?_
          refine wl (eL 55 3 0 (v := .agg #[.int .i64 y2_0, .int .i64 y2_1]) hF hM (by kernel_rfl) rfl rfl (by kernel_rfl) (by kernel_rfl) fun a w hF hM => ?_)
          refine sB 1 [(56, .pointer (some ⟨bb3, 2, none⟩))] hF (by kernel_rfl) fun a hF => ?_
          refine wl (eL 57 3 2 (v := .agg #[.int .i64 y2_2, .int .i64 y2_3]) hF hM (by kernel_rfl) rfl rfl (by kernel_rfl) (by kernel_rfl) fun a w hF hM => ?_)
          refine wl (eM 58 (v := .tuple #[.agg #[.int .i64 0, .int .i64 0], .int .i64 120]) hF hM (by kernel_rfl) (yld_call (f := 19) (args := #[.agg #[.int .i64 y2_0, .int .i64 y2_1], .agg #[.int .i64 y2_2, .int .i64 y2_3]]) hF (by kernel_rfl) (fun _ => by kernel_rfl) (fun w hM => rbSub_no y2_0 y2_1 y2_2 y2_3 w (fun q => hz5 q.2))) fun a w hF hM => ?_)
          refine sB 3 [(53, .tuple #[.agg #[.int .i64 0, .int .i64 0], .int .i64 120]), (59, .agg #[.int .i64 0, .int .i64 0]), (60, .int .i64 120)] hF (by kernel_rfl) fun a hF => ?_
          refine wl (eN 13 15 (t := 23) (fun b => .pointer (some ⟨b, 0, none⟩)) #[.int .i64 0, .int .i64 0] hF hM (by kernel_rfl) (fun _ => by kernel_rfl) fun bb15 a w hF hM => ?_)
          refine wl (sStore (i := 15) (off := 0) (cs' := #[.int .i64 0, .int .i64 0]) hF hM (by kernel_rfl) rfl rfl (by kernel_rfl) (by kernel_rfl) rfl (by kernel_rfl) fun w hM => ?_)
          refine sB 1 [(14, .int .i64 120)] hF (by kernel_rfl) fun a hF => ?_
          refine wpList_nil ?_
          refine hK20 _ _ ?_
          refine wp_seq_k fun K21 hK21 => ?_
          refine wp_region_lit ?_
          refine sB 1 [(62, .pointer (some ⟨bb3, 0, none⟩))] hF (by kernel_rfl) fun a hF => ?_
          refine wl (eL 63 3 0 (v := .agg #[.int .i64 y2_0, .int .i64 y2_1]) hF hM (by kernel_rfl) rfl rfl (by kernel_rfl) (by kernel_rfl) fun a w hF hM => ?_)
          refine sB 1 [(64, .pointer (some ⟨bb3, 2, none⟩))] hF (by kernel_rfl) fun a hF => ?_
          refine wl (eL 65 3 2 (v := .agg #[.int .i64 y2_2, .int .i64 y2_3]) hF hM (by kernel_rfl) rfl rfl (by kernel_rfl) (by kernel_rfl) fun a w hF hM => ?_)
          refine wl (eM 66 (v := .tuple #[.agg #[.int .i64 0, .int .i64 0], .int .i64 120]) hF hM (by kernel_rfl) (yld_call (f := 20) (args := #[.agg #[.int .i64 y2_0, .int .i64 y2_1], .agg #[.int .i64 y2_2, .int .i64 y2_3]]) hF (by kernel_rfl) (fun _ => by kernel_rfl) (fun w hM => raMul_no y2_0 y2_1 y2_2 y2_3 w (hT.below (Nat.le_refl _) hM.bel) (fun q => hz5 q.2))) fun a w hF hM => ?_)
          refine sB 3 [(61, .tuple #[.agg #[.int .i64 0, .int .i64 0], .int .i64 120]), (67, .agg #[.int .i64 0, .int .i64 0]), (68, .int .i64 120)] hF (by kernel_rfl) fun a hF => ?_
          refine wl (eN 15 16 (t := 23) (fun b => .pointer (some ⟨b, 0, none⟩)) #[.int .i64 0, .int .i64 0] hF hM (by kernel_rfl) (fun _ => by kernel_rfl) fun bb16 a w hF hM => ?_)
          refine wl (sStore (i := 16) (off := 0) (cs' := #[.int .i64 0, .int .i64 0]) hF hM (by kernel_rfl) rfl rfl (by kernel_rfl) (by kernel_rfl) rfl (by kernel_rfl) fun w hM => ?_)
          refine sB 1 [(16, .int .i64 120)] hF (by kernel_rfl) fun a hF => ?_
          refine wpList_nil ?_
          refine hK21 _ _ ?_
          refine wp_seq_k fun K22 hK22 => ?_
          refine wp_region_lit ?_
          refine sB 1 [(70, .pointer (some ⟨bb3, 0, none⟩))] hF (by kernel_rfl) fun a hF => ?_
          refine wl (eL 71 3 0 (v := .agg #[.int .i64 y2_0, .int .i64 y2_1]) hF hM (by kernel_rfl) rfl rfl (by kernel_rfl) (by kernel_rfl) fun a w hF hM => ?_)
          refine sB 1 [(72, .pointer (some ⟨bb3, 2, none⟩))] hF (by kernel_rfl) fun a hF => ?_
          refine wl (eL 73 3 2 (v := .agg #[.int .i64 y2_2, .int .i64 y2_3]) hF hM (by kernel_rfl) rfl rfl (by kernel_rfl) (by kernel_rfl) fun a w hF hM => ?_)
          refine wl (eM 74 (v := .tuple #[.agg #[.int .i64 0, .int .i64 0], .int .i64 120]) hF hM (by kernel_rfl) (yld_call (f := 21) (args := #[.agg #[.int .i64 y2_0, .int .i64 y2_1], .agg #[.int .i64 y2_2, .int .i64 y2_3]]) hF (by kernel_rfl) (fun _ => by kernel_rfl) (fun w hM => rbMul_no y2_0 y2_1 y2_2 y2_3 w (fun q => hz5 q.2))) fun a w hF hM => ?_)
          refine sB 3 [(69, .tuple #[.agg #[.int .i64 0, .int .i64 0], .int .i64 120]), (75, .agg #[.int .i64 0, .int .i64 0]), (76, .int .i64 120)] hF (by kernel_rfl) fun a hF => ?_
          refine wl (eN 17 17 (t := 23) (fun b => .pointer (some ⟨b, 0, none⟩)) #[.int .i64 0, .int .i64 0] hF hM (by kernel_rfl) (fun _ => by kernel_rfl) fun bb17 a w hF hM => ?_)
          refine wl (sStore (i := 17) (off := 0) (cs' := #[.int .i64 0, .int .i64 0]) hF hM (by kernel_rfl) rfl rfl (by kernel_rfl) (by kernel_rfl) rfl (by kernel_rfl) fun w hM => ?_)
          refine sB 1 [(18, .int .i64 120)] hF (by kernel_rfl) fun a hF => ?_
          refine wpList_nil ?_
          refine hK22 _ _ ?_
          refine wp_seq_k fun K23 hK23 => ?_
          refine wp_region_lit ?_
          refine sB 1 [(78, .pointer (some ⟨bb3, 0, none⟩))] hF (by kernel_rfl) fun a hF => ?_
          refine wl (eL 79 3 0 (v := .agg #[.int .i64 y2_0, .int .i64 y2_1]) hF hM (by kernel_rfl) rfl rfl (by kernel_rfl) (by kernel_rfl) fun a w hF hM => ?_)
          refine sB 1 [(80, .pointer (some ⟨bb3, 2, none⟩))] hF (by kernel_rfl) fun a hF => ?_
          refine wl (eL 81 3 2 (v := .agg #[.int .i64 y2_2, .int .i64 y2_3]) hF hM (by kernel_rfl) rfl rfl (by kernel_rfl) (by kernel_rfl) fun a w hF hM => ?_)
          refine wl (eM 82 (v := .tuple #[.agg #[.int .i64 0, .int .i64 0], .int .i64 120]) hF hM (by kernel_rfl) (yld_call (f := 22) (args := #[.agg #[.int .i64 y2_0, .int .i64 y2_1], .agg #[.int .i64 y2_2, .int .i64 y2_3]]) hF (by kernel_rfl) (fun _ => by kernel_rfl) (fun w hM => raDiv_no y2_0 y2_1 y2_2 y2_3 w (hT.below (Nat.le_refl _) hM.bel) (fun q => hz5 q.2))) fun a w hF hM => ?_)
          refine sB 3 [(77, .tuple #[.agg #[.int .i64 0, .int .i64 0], .int .i64 120]), (83, .agg #[.int .i64 0, .int .i64 0]), (84, .int .i64 120)] hF (by kernel_rfl) fun a hF => ?_
          refine wl (eN 19 18 (t := 23) (fun b => .pointer (some ⟨b, 0, none⟩)) #[.int .i64 0, .int .i64 0] hF hM (by kernel_rfl) (fun _ => by kernel_rfl) fun bb18 a w hF hM => ?_)
          refine wl (sStore (i := 18) (off := 0) (cs' := #[.int .i64 0, .int .i64 0]) hF hM (by kernel_rfl) rfl rfl (by kernel_rfl) (by kernel_rfl) rfl (by kernel_rfl) fun w hM => ?_)
          refine sB 1 [(20, .int .i64 120)] hF (by kernel_rfl) fun a hF => ?_
          refine wpList_nil ?_
          refine hK23 _ _ ?_
          refine wp_seq_k fun K24 hK24 => ?_
          refine wp_region_lit ?_
          refine sB 1 [(86, .pointer (some ⟨bb3, 0, none⟩))] hF (by kernel_rfl) fun a hF => ?_
          refine wl (eL 87 3 0 (v := .agg #[.int .i64 y2_0, .int .i64 y2_1]) hF hM (by kernel_rfl) rfl rfl (by kernel_rfl) (by kernel_rfl) fun a w hF hM => ?_)
          refine sB 1 [(88, .pointer (some ⟨bb3, 2, none⟩))] hF (by kernel_rfl) fun a hF => ?_
          refine wl (eL 89 3 2 (v := .agg #[.int .i64 y2_2, .int .i64 y2_3]) hF hM (by kernel_rfl) rfl rfl (by kernel_rfl) (by kernel_rfl) fun a w hF hM => ?_)
          refine wl (eM 90 (v := .tuple #[.agg #[.int .i64 0, .int .i64 0], .int .i64 120]) hF hM (by kernel_rfl) (yld_call (f := 23) (args := #[.agg #[.int .i64 y2_0, .int .i64 y2_1], .agg #[.int .i64 y2_2, .int .i64 y2_3]]) hF (by kernel_rfl) (fun _ => by kernel_rfl) (fun w hM => rbDiv_no y2_0 y2_1 y2_2 y2_3 w (fun q => hz5 q.2))) fun a w hF hM => ?_)
          refine sB 3 [(85, .tuple #[.agg #[.int .i64 0, .int .i64 0], .int .i64 120]), (91, .agg #[.int .i64 0, .int .i64 0]), (92, .int .i64 120)] hF (by kernel_rfl) fun a hF => ?_
          refine wl (eN 21 19 (t := 23) (fun b => .pointer (some ⟨b, 0, none⟩)) #[.int .i64 0, .int .i64 0] hF hM (by kernel_rfl) (fun _ => by kernel_rfl) fun bb19 a w hF hM => ?_)
          refine wl (sStore (i := 19) (off := 0) (cs' := #[.int .i64 0, .int .i64 0]) hF hM (by kernel_rfl) rfl rfl (by kernel_rfl) (by kernel_rfl) rfl (by kernel_rfl) fun w hM => ?_)
          refine sB 1 [(22, .int .i64 120)] hF (by kernel_rfl) fun a hF => ?_
          refine wpList_nil ?_
          refine hK24 _ _ ?_
          refine wp_seq_k fun K25 hK25 => ?_
          refine wp_region_lit ?_
          refine wl (eL 93 12 0 (v := .agg #[.int .i64 0, .int .i64 0]) hF hM (by kernel_rfl) rfl rfl (by kernel_rfl) (by kernel_rfl) fun a w hF hM => ?_)
          refine wl (eL 94 13 0 (v := .agg #[.int .i64 0, .int .i64 0]) hF hM (by kernel_rfl) rfl rfl (by kernel_rfl) (by kernel_rfl) fun a w hF hM => ?_)
          refine wl (eM 95 (v := .bool false) hF hM (by kernel_rfl) ((yld_neq (C := Mem _ _ _) [0, 0] [0, 0] hF rfl (by kernel_rfl) (by kernel_rfl) (by kernel_rfl) rfl (by kernel_rfl) (by kernel_rfl) (by kernel_rfl) rfl rfl).to (nT (by decide))) fun a w hF hM => ?_)
          refine sB 3 [(96, .bool false), (97, .int .i64 120), (98, .int .i64 120)] hF (by kernel_rfl) fun a hF => ?_
          refine wl (eP 99 (v0 := .bool (!decide (120 = 120))) (v := .bool false) hF (by kernel_rfl) (fun _ => by kernel_rfl) (nT (by omega)) fun a hF => ?_)
          refine sB 2 [(100, .bool false), (101, .bool false)] hF (by kernel_rfl) fun a hF => ?_
          refine wl (eL 102 14 0 (v := .agg #[.int .i64 0, .int .i64 0]) hF hM (by kernel_rfl) rfl rfl (by kernel_rfl) (by kernel_rfl) fun a w hF hM => ?_)
          refine wl (eL 103 15 0 (v := .agg #[.int .i64 0, .int .i64 0]) hF hM (by kernel_rfl) rfl rfl (by kernel_rfl) (by kernel_rfl) fun a w hF hM => ?_)
          refine wl (eM 104 (v := .bool false) hF hM (by kernel_rfl) ((yld_neq (C := Mem _ _ _) [0, 0] [0, 0] hF rfl (by kernel_rfl) (by kernel_rfl) (by kernel_rfl) rfl (by kernel_rfl) (by kernel_rfl) (by kernel_rfl) rfl rfl).to (nT (by decide))) fun a w hF hM => ?_)
          refine sB 4 [(105, .bool false), (106, .bool false), (107, .int .i64 120), (108, .int .i64 120)] hF (by kernel_rfl) fun a hF => ?_
          refine wl (eP 109 (v0 := .bool (!decide (120 = 120))) (v := .bool false) hF (by kernel_rfl) (fun _ => by kernel_rfl) (nT (by omega)) fun a hF => ?_)
          refine sB 2 [(110, .bool false), (111, .bool false)] hF (by kernel_rfl) fun a hF => ?_
          refine wl (eL 112 16 0 (v := .agg #[.int .i64 0, .int .i64 0]) hF hM (by kernel_rfl) rfl rfl (by kernel_rfl) (by kernel_rfl) fun a w hF hM => ?_)
          refine wl (eL 113 17 0 (v := .agg #[.int .i64 0, .int .i64 0]) hF hM (by kernel_rfl) rfl rfl (by kernel_rfl) (by kernel_rfl) fun a w hF hM => ?_)
          refine wl (eM 114 (v := .bool false) hF hM (by kernel_rfl) ((yld_neq (C := Mem _ _ _) [0, 0] [0, 0] hF rfl (by kernel_rfl) (by kernel_rfl) (by kernel_rfl) rfl (by kernel_rfl) (by kernel_rfl) (by kernel_rfl) rfl rfl).to (nT (by decide))) fun a w hF hM => ?_)
          refine sB 4 [(115, .bool false), (116, .bool false), (117, .int .i64 120), (118, .int .i64 120)] hF (by kernel_rfl) fun a hF => ?_
          refine wl (eP 119 (v0 := .bool (!decide (120 = 120))) (v := .bool false) hF (by kernel_rfl) (fun _ => by kernel_rfl) (nT (by omega)) fun a hF => ?_)
          refine sB 2 [(120, .bool false), (121, .bool false)] hF (by kernel_rfl) fun a hF => ?_
          refine wl (eL 122 18 0 (v := .agg #[.int .i64 0, .int .i64 0]) hF hM (by kernel_rfl) rfl rfl (by kernel_rfl) (by kernel_rfl) fun a w hF hM => ?_)
          refine wl (eL 123 19 0 (v := .agg #[.int .i64 0, .int .i64 0]) hF hM (by kernel_rfl) rfl rfl (by kernel_rfl) (by kernel_rfl) fun a w hF hM => ?_)
          refine wl (eM 124 (v := .bool false) hF hM (by kernel_rfl) ((yld_neq (C := Mem _ _ _) [0, 0] [0, 0] hF rfl (by kernel_rfl) (by kernel_rfl) (by kernel_rfl) rfl (by kernel_rfl) (by kernel_rfl) (by kernel_rfl) rfl rfl).to (nT (by decide))) fun a w hF hM => ?_)
          refine sB 4 [(125, .bool false), (126, .bool false), (127, .int .i64 120), (128, .int .i64 120)] hF (by kernel_rfl) fun a hF => ?_
          refine wl (eP 129 (v0 := .bool (!decide (120 = 120))) (v := .bool false) hF (by kernel_rfl) (fun _ => by kernel_rfl) (nT (by omega)) fun a hF => ?_)
          refine sB 1 [(130, .bool false)] hF (by kernel_rfl) fun a hF => ?_
          refine wpList_nil ?_
          refine hK25 _ _ ?_
          refine cF hF (by kernel_rfl) (by kernel_rfl) ?_
          refine wp_skip ?_
          refine hK7 _ _ ?_
          refine wp_region_lit ?_
          refine wl (eP 131 (v0 := .int .i64 (IntKind.i64.wrap ((k26 : Int) + 1))) (v := .int .i64 ((k26 : Int) + 1)) hF (by kernel_rfl) (fun _ => by kernel_rfl) (wi (by omega)) fun a hF => ?_)
          refine sB 1 [(26, .int .i64 ((k26 : Int) + 1))] hF (by kernel_rfl) fun a hF => ?_
          refine wpList_nil ?_
          refine hK4 _ _ ⟨(k26 + 1), ⟨(((Fr.nil hF).c hF (i := 25) rfl rfl).c hF (i := 26) rfl (vi (show ((k26 : Int) + 1 : Int) = ((k26 + 1) : Int) from by omega))), (hM.sub Sub.nil), (show ((k26 + 1) : Int) ≤ 4 from by omega)⟩, (show 4 - (k26 + 1) < 4 - k26 from by omega)⟩
      · skip
        refine wp_region_lit ?_
        refine sB 1 [(30, .pointer (some ⟨bb3, 0, none⟩))] hF (by kernel_rfl) fun a hF => ?_
        refine wl (eL 31 3 0 (v := .agg #[.int .i64 y2_0, .int .i64 y2_1]) hF hM (by kernel_rfl) rfl rfl (by kernel_rfl) (by kernel_rfl) fun a w hF hM => ?_)
        refine sB 1 [(32, .pointer (some ⟨bb3, 2, none⟩))] hF (by kernel_rfl) fun a hF => ?_
        refine wl (eL 33 3 2 (v := .agg #[.int .i64 y2_2, .int .i64 y2_3]) hF hM (by kernel_rfl) rfl rfl (by kernel_rfl) (by kernel_rfl) fun a w hF hM => ?_)
        refine wl (eM 34 (v := .tuple #[.agg #[.int .i64 0, .int .i64 0], .int .i64 120]) hF hM (by kernel_rfl) (yld_call (f := 16) (args := #[.agg #[.int .i64 y2_0, .int .i64 y2_1], .agg #[.int .i64 y2_2, .int .i64 y2_3]]) hF (by kernel_rfl) (fun _ => by kernel_rfl) (fun w hM => raAdd_no y2_0 y2_1 y2_2 y2_3 w (hT.below (Nat.le_refl _) hM.bel) (fun q => hz3 q.1))) fun a w hF hM => ?_)
        refine sB 3 [(29, .tuple #[.agg #[.int .i64 0, .int .i64 0], .int .i64 120]), (35, .agg #[.int .i64 0, .int .i64 0]), (36, .int .i64 120)] hF (by kernel_rfl) fun a hF => ?_
        refine wl (eN 7 20 (t := 23) (fun b => .pointer (some ⟨b, 0, none⟩)) #[.int .i64 0, .int .i64 0] hF hM (by kernel_rfl) (fun _ => by kernel_rfl) fun bb20 a w hF hM => ?_)
        refine wl (sStore (i := 20) (off := 0) (cs' := #[.int .i64 0, .int .i64 0]) hF hM (by kernel_rfl) rfl rfl (by kernel_rfl) (by kernel_rfl) rfl (by kernel_rfl) fun w hM => ?_)
        refine sB 1 [(8, .int .i64 120)] hF (by kernel_rfl) fun a hF => ?_
        refine wpList_nil ?_
        refine hK9 _ _ ?_
        refine wp_seq_k fun K26 hK26 => ?_
        refine wp_region_lit ?_
        refine sB 1 [(38, .pointer (some ⟨bb3, 0, none⟩))] hF (by kernel_rfl) fun a hF => ?_
        refine wl (eL 39 3 0 (v := .agg #[.int .i64 y2_0, .int .i64 y2_1]) hF hM (by kernel_rfl) rfl rfl (by kernel_rfl) (by kernel_rfl) fun a w hF hM => ?_)
        refine sB 1 [(40, .pointer (some ⟨bb3, 2, none⟩))] hF (by kernel_rfl) fun a hF => ?_
        refine wl (eL 41 3 2 (v := .agg #[.int .i64 y2_2, .int .i64 y2_3]) hF hM (by kernel_rfl) rfl rfl (by kernel_rfl) (by kernel_rfl) fun a w hF hM => ?_)
        refine wl (eM 42 (v := .tuple #[.agg #[.int .i64 0, .int .i64 0], .int .i64 120]) hF hM (by kernel_rfl) (yld_call (f := 17) (args := #[.agg #[.int .i64 y2_0, .int .i64 y2_1], .agg #[.int .i64 y2_2, .int .i64 y2_3]]) hF (by kernel_rfl) (fun _ => by kernel_rfl) (fun w hM => rbAdd_no y2_0 y2_1 y2_2 y2_3 w (fun q => hz3 q.1))) fun a w hF hM => ?_)
        refine sB 3 [(37, .tuple #[.agg #[.int .i64 0, .int .i64 0], .int .i64 120]), (43, .agg #[.int .i64 0, .int .i64 0]), (44, .int .i64 120)] hF (by kernel_rfl) fun a hF => ?_
        refine wl (eN 9 21 (t := 23) (fun b => .pointer (some ⟨b, 0, none⟩)) #[.int .i64 0, .int .i64 0] hF hM (by kernel_rfl) (fun _ => by kernel_rfl) fun bb21 a w hF hM => ?_)
        refine wl (sStore (i := 21) (off := 0) (cs' := #[.int .i64 0, .int .i64 0]) hF hM (by kernel_rfl) rfl rfl (by kernel_rfl) (by kernel_rfl) rfl (by kernel_rfl) fun w hM => ?_)
        refine sB 1 [(10, .int .i64 120)] hF (by kernel_rfl) fun a hF => ?_
        refine wpList_nil ?_
        refine hK26 _ _ ?_
        refine wp_seq_k fun K27 hK27 => ?_
        refine wp_region_lit ?_
        refine sB 1 [(46, .pointer (some ⟨bb3, 0, none⟩))] hF (by kernel_rfl) fun a hF => ?_
        refine wl (eL 47 3 0 (v := .agg #[.int .i64 y2_0, .int .i64 y2_1]) hF hM (by kernel_rfl) rfl rfl (by kernel_rfl) (by kernel_rfl) fun a w hF hM => ?_)
        refine sB 1 [(48, .pointer (some ⟨bb3, 2, none⟩))] hF (by kernel_rfl) fun a hF => ?_
        refine wl (eL 49 3 2 (v := .agg #[.int .i64 y2_2, .int .i64 y2_3]) hF hM (by kernel_rfl) rfl rfl (by kernel_rfl) (by kernel_rfl) fun a w hF hM => ?_)
        refine wl (eM 50 (v := .tuple #[.agg #[.int .i64 0, .int .i64 0], .int .i64 120]) hF hM (by kernel_rfl) (yld_call (f := 18) (args := #[.agg #[.int .i64 y2_0, .int .i64 y2_1], .agg #[.int .i64 y2_2, .int .i64 y2_3]]) hF (by kernel_rfl) (fun _ => by kernel_rfl) (fun w hM => raSub_no y2_0 y2_1 y2_2 y2_3 w (hT.below (Nat.le_refl _) hM.bel) (fun q => hz3 q.1))) fun a w hF hM => ?_)
        refine sB 3 [(45, .tuple #[.agg #[.int .i64 0, .int .i64 0], .int .i64 120]), (51, .agg #[.int .i64 0, .int .i64 0]), (52, .int .i64 120)] hF (by kernel_rfl) fun a hF => ?_
        refine wl (eN 11 22 (t := 23) (fun b => .pointer (some ⟨b, 0, none⟩)) #[.int .i64 0, .int .i64 0] hF hM (by kernel_rfl) (fun _ => by kernel_rfl) fun bb22 a w hF hM => ?_)
        refine wl (sStore (i := 22) (off := 0) (cs' := #[.int .i64 0, .int .i64 0]) hF hM (by kernel_rfl) rfl rfl (by kernel_rfl) (by kernel_rfl) rfl (by kernel_rfl) fun w hM => ?_)
        refine sB 1 [(12, .int .i64 120)] hF (by kernel_rfl) fun a hF => ?_
        refine wpList_nil ?_
        refine hK27 _ _ ?_
        refine wp_seq_k fun K28 hK28 => ?_
        refine wp_region_lit ?_
        refine sB 1 [(54, .pointer (some ⟨bb3, 0, none⟩))] hF (by kernel_rfl) fun a hF => ?_
        refine wl (eL 55 3 0 (v := .agg #[.int .i64 y2_0, .int .i64 y2_1]) hF hM (by kernel_rfl) rfl rfl (by kernel_rfl) (by kernel_rfl) fun a w hF hM => ?_)
        refine sB 1 [(56, .pointer (some ⟨bb3, 2, none⟩))] hF (by kernel_rfl) fun a hF => ?_
        refine wl (eL 57 3 2 (v := .agg #[.int .i64 y2_2, .int .i64 y2_3]) hF hM (by kernel_rfl) rfl rfl (by kernel_rfl) (by kernel_rfl) fun a w hF hM => ?_)
        refine wl (eM 58 (v := .tuple #[.agg #[.int .i64 0, .int .i64 0], .int .i64 120]) hF hM (by kernel_rfl) (yld_call (f := 19) (args := #[.agg #[.int .i64 y2_0, .int .i64 y2_1], .agg #[.int .i64 y2_2, .int .i64 y2_3]]) hF (by kernel_rfl) (fun _ => by kernel_rfl) (fun w hM => rbSub_no y2_0 y2_1 y2_2 y2_3 w (fun q => hz3 q.1))) fun a w hF hM => ?_)
        refine sB 3 [(53, .tuple #[.agg #[.int .i64 0, .int .i64 0], .int .i64 120]), (59, .agg #[.int .i64 0, .int .i64 0]), (60, .int .i64 120)] hF (by kernel_rfl) fun a hF => ?_
        refine wl (eN 13 23 (t := 23) (fun b => .pointer (some ⟨b, 0, none⟩)) #[.int .i64 0, .int .i64 0] hF hM (by kernel_rfl) (fun _ => by kernel_rfl) fun bb23 a w hF hM => ?_)
        refine wl (sStore (i := 23) (off := 0) (cs' := #[.int .i64 0, .int .i64 0]) hF hM (by kernel_rfl) rfl rfl (by kernel_rfl) (by kernel_rfl) rfl (by kernel_rfl) fun w hM => ?_)
        refine sB 1 [(14, .int .i64 120)] hF (by kernel_rfl) fun a hF => ?_
        refine wpList_nil ?_
        refine hK28 _ _ ?_
        refine wp_seq_k fun K29 hK29 => ?_
        refine wp_region_lit ?_
        refine sB 1 [(62, .pointer (some ⟨bb3, 0, none⟩))] hF (by kernel_rfl) fun a hF => ?_
        refine wl (eL 63 3 0 (v := .agg #[.int .i64 y2_0, .int .i64 y2_1]) hF hM (by kernel_rfl) rfl rfl (by kernel_rfl) (by kernel_rfl) fun a w hF hM => ?_)
        refine sB 1 [(64, .pointer (some ⟨bb3, 2, none⟩))] hF (by kernel_rfl) fun a hF => ?_
        refine wl (eL 65 3 2 (v := .agg #[.int .i64 y2_2, .int .i64 y2_3]) hF hM (by kernel_rfl) rfl rfl (by kernel_rfl) (by kernel_rfl) fun a w hF hM => ?_)
        refine wl (eM 66 (v := .tuple #[.agg #[.int .i64 0, .int .i64 0], .int .i64 120]) hF hM (by kernel_rfl) (yld_call (f := 20) (args := #[.agg #[.int .i64 y2_0, .int .i64 y2_1], .agg #[.int .i64 y2_2, .int .i64 y2_3]]) hF (by kernel_rfl) (fun _ => by kernel_rfl) (fun w hM => raMul_no y2_0 y2_1 y2_2 y2_3 w (hT.below (Nat.le_refl _) hM.bel) (fun q => hz3 q.1))) fun a w hF hM => ?_)
        refine sB 3 [(61, .tuple #[.agg #[.int .i64 0, .int .i64 0], .int .i64 120]), (67, .agg #[.int .i64 0, .int .i64 0]), (68, .int .i64 120)] hF (by kernel_rfl) fun a hF => ?_
        refine wl (eN 15 24 (t := 23) (fun b => .pointer (some ⟨b, 0, none⟩)) #[.int .i64 0, .int .i64 0] hF hM (by kernel_rfl) (fun _ => by kernel_rfl) fun bb24 a w hF hM => ?_)
        refine wl (sStore (i := 24) (off := 0) (cs' := #[.int .i64 0, .int .i64 0]) hF hM (by kernel_rfl) rfl rfl (by kernel_rfl) (by kernel_rfl) rfl (by kernel_rfl) fun w hM => ?_)
        refine sB 1 [(16, .int .i64 120)] hF (by kernel_rfl) fun a hF => ?_
        refine wpList_nil ?_
        refine hK29 _ _ ?_
        refine wp_seq_k fun K30 hK30 => ?_
        refine wp_region_lit ?_
        refine sB 1 [(70, .pointer (some ⟨bb3, 0, none⟩))] hF (by kernel_rfl) fun a hF => ?_
        refine wl (eL 71 3 0 (v := .agg #[.int .i64 y2_0, .int .i64 y2_1]) hF hM (by kernel_rfl) rfl rfl (by kernel_rfl) (by kernel_rfl) fun a w hF hM => ?_)
        refine sB 1 [(72, .pointer (some ⟨bb3, 2, none⟩))] hF (by kernel_rfl) fun a hF => ?_
        refine wl (eL 73 3 2 (v := .agg #[.int .i64 y2_2, .int .i64 y2_3]) hF hM (by kernel_rfl) rfl rfl (by kernel_rfl) (by kernel_rfl) fun a w hF hM => ?_)
        refine wl (eM 74 (v := .tuple #[.agg #[.int .i64 0, .int .i64 0], .int .i64 120]) hF hM (by kernel_rfl) (yld_call (f := 21) (args := #[.agg #[.int .i64 y2_0, .int .i64 y2_1], .agg #[.int .i64 y2_2, .int .i64 y2_3]]) hF (by kernel_rfl) (fun _ => by kernel_rfl) (fun w hM => rbMul_no y2_0 y2_1 y2_2 y2_3 w (fun q => hz3 q.1))) fun a w hF hM => ?_)
        refine sB 3 [(69, .tuple #[.agg #[.int .i64 0, .int .i64 0], .int .i64 120]), (75, .agg #[.int .i64 0, .int .i64 0]), (76, .int .i64 120)] hF (by kernel_rfl) fun a hF => ?_
        refine wl (eN 17 25 (t := 23) (fun b => .pointer (some ⟨b, 0, none⟩)) #[.int .i64 0, .int .i64 0] hF hM (by kernel_rfl) (fun _ => by kernel_rfl) fun bb25 a w hF hM => ?_)
        refine wl (sStore (i := 25) (off := 0) (cs' := #[.int .i64 0, .int .i64 0]) hF hM (by kernel_rfl) rfl rfl (by kernel_rfl) (by kernel_rfl) rfl (by kernel_rfl) fun w hM => ?_)
        refine sB 1 [(18, .int .i64 120)] hF (by kernel_rfl) fun a hF => ?_
        refine wpList_nil ?_
        refine hK30 _ _ ?_
        refine wp_seq_k fun K31 hK31 => ?_
        refine wp_region_lit ?_
        refine sB 1 [(78, .pointer (some ⟨bb3, 0, none⟩))] hF (by kernel_rfl) fun a hF => ?_
        refine wl (eL 79 3 0 (v := .agg #[.int .i64 y2_0, .int .i64 y2_1]) hF hM (by kernel_rfl) rfl rfl (by kernel_rfl) (by kernel_rfl) fun a w hF hM => ?_)
        refine sB 1 [(80, .pointer (some ⟨bb3, 2, none⟩))] hF (by kernel_rfl) fun a hF => ?_
        refine wl (eL 81 3 2 (v := .agg #[.int .i64 y2_2, .int .i64 y2_3]) hF hM (by kernel_rfl) rfl rfl (by kernel_rfl) (by kernel_rfl) fun a w hF hM => ?_)
        refine wl (eM 82 (v := .tuple #[.agg #[.int .i64 0, .int .i64 0], .int .i64 120]) hF hM (by kernel_rfl) (yld_call (f := 22) (args := #[.agg #[.int .i64 y2_0, .int .i64 y2_1], .agg #[.int .i64 y2_2, .int .i64 y2_3]]) hF (by kernel_rfl) (fun _ => by kernel_rfl) (fun w hM => raDiv_no y2_0 y2_1 y2_2 y2_3 w (hT.below (Nat.le_refl _) hM.bel) (fun q => hz3 q.1))) fun a w hF hM => ?_)
        refine sB 3 [(77, .tuple #[.agg #[.int .i64 0, .int .i64 0], .int .i64 120]), (83, .agg #[.int .i64 0, .int .i64 0]), (84, .int .i64 120)] hF (by kernel_rfl) fun a hF => ?_
        refine wl (eN 19 26 (t := 23) (fun b => .pointer (some ⟨b, 0, none⟩)) #[.int .i64 0, .int .i64 0] hF hM (by kernel_rfl) (fun _ => by kernel_rfl) fun bb26 a w hF hM => ?_)
        refine wl (sStore (i := 26) (off := 0) (cs' := #[.int .i64 0, .int .i64 0]) hF hM (by kernel_rfl) rfl rfl (by kernel_rfl) (by kernel_rfl) rfl (by kernel_rfl) fun w hM => ?_)
        refine sB 1 [(20, .int .i64 120)] hF (by kernel_rfl) fun a hF => ?_
        refine wpList_nil ?_
        refine hK31 _ _ ?_
        refine wp_seq_k fun K32 hK32 => ?_
        refine wp_region_lit ?_
        refine sB 1 [(86, .pointer (some ⟨bb3, 0, none⟩))] hF (by kernel_rfl) fun a hF => ?_
        refine wl (eL 87 3 0 (v := .agg #[.int .i64 y2_0, .int .i64 y2_1]) hF hM (by kernel_rfl) rfl rfl (by kernel_rfl) (by kernel_rfl) fun a w hF hM => ?_)
        refine sB 1 [(88, .pointer (some ⟨bb3, 2, none⟩))] hF (by kernel_rfl) fun a hF => ?_
        refine wl (eL 89 3 2 (v := .agg #[.int .i64 y2_2, .int .i64 y2_3]) hF hM (by kernel_rfl) rfl rfl (by kernel_rfl) (by kernel_rfl) fun a w hF hM => ?_)
        refine wl (eM 90 (v := .tuple #[.agg #[.int .i64 0, .int .i64 0], .int .i64 120]) hF hM (by kernel_rfl) (yld_call (f := 23) (args := #[.agg #[.int .i64 y2_0, .int .i64 y2_1], .agg #[.int .i64 y2_2, .int .i64 y2_3]]) hF (by kernel_rfl) (fun _ => by kernel_rfl) (fun w hM => rbDiv_no y2_0 y2_1 y2_2 y2_3 w (fun q => hz3 q.1))) fun a w hF hM => ?_)
        refine sB 3 [(85, .tuple #[.agg #[.int .i64 0, .int .i64 0], .int .i64 120]), (91, .agg #[.int .i64 0, .int .i64 0]), (92, .int .i64 120)] hF (by kernel_rfl) fun a hF => ?_
        refine wl (eN 21 27 (t := 23) (fun b => .pointer (some ⟨b, 0, none⟩)) #[.int .i64 0, .int .i64 0] hF hM (by kernel_rfl) (fun _ => by kernel_rfl) fun bb27 a w hF hM => ?_)
        refine wl (sStore (i := 27) (off := 0) (cs' := #[.int .i64 0, .int .i64 0]) hF hM (by kernel_rfl) rfl rfl (by kernel_rfl) (by kernel_rfl) rfl (by kernel_rfl) fun w hM => ?_)
        refine sB 1 [(22, .int .i64 120)] hF (by kernel_rfl) fun a hF => ?_
        refine wpList_nil ?_
        refine hK32 _ _ ?_
        refine wp_seq_k fun K33 hK33 => ?_
        refine wp_region_lit ?_
        refine wl (eL 93 20 0 (v := .agg #[.int .i64 0, .int .i64 0]) hF hM (by kernel_rfl) rfl rfl (by kernel_rfl) (by kernel_rfl) fun a w hF hM => ?_)
        refine wl (eL 94 21 0 (v := .agg #[.int .i64 0, .int .i64 0]) hF hM (by kernel_rfl) rfl rfl (by kernel_rfl) (by kernel_rfl) fun a w hF hM => ?_)
        refine wl (eM 95 (v := .bool false) hF hM (by kernel_rfl) ((yld_neq (C := Mem _ _ _) [0, 0] [0, 0] hF rfl (by kernel_rfl) (by kernel_rfl) (by kernel_rfl) rfl (by kernel_rfl) (by kernel_rfl) (by kernel_rfl) rfl rfl).to (nT (by decide))) fun a w hF hM => ?_)
        refine sB 3 [(96, .bool false), (97, .int .i64 120), (98, .int .i64 120)] hF (by kernel_rfl) fun a hF => ?_
        refine wl (eP 99 (v0 := .bool (!decide (120 = 120))) (v := .bool false) hF (by kernel_rfl) (fun _ => by kernel_rfl) (nT (by omega)) fun a hF => ?_)
        refine sB 2 [(100, .bool false), (101, .bool false)] hF (by kernel_rfl) fun a hF => ?_
        refine wl (eL 102 22 0 (v := .agg #[.int .i64 0, .int .i64 0]) hF hM (by kernel_rfl) rfl rfl (by kernel_rfl) (by kernel_rfl) fun a w hF hM => ?_)
        refine wl (eL 103 23 0 (v := .agg #[.int .i64 0, .int .i64 0]) hF hM (by kernel_rfl) rfl rfl (by kernel_rfl) (by kernel_rfl) fun a w hF hM => ?_)
        refine wl (eM 104 (v := .bool false) hF hM (by kernel_rfl) ((yld_neq (C := Mem _ _ _) [0, 0] [0, 0] hF rfl (by kernel_rfl) (by kernel_rfl) (by kernel_rfl) rfl (by kernel_rfl) (by kernel_rfl) (by kernel_rfl) rfl rfl).to (nT (by decide))) fun a w hF hM => ?_)
        refine sB 4 [(105, .bool false), (106, .bool false), (107, .int .i64 120), (108, .int .i64 120)] hF (by kernel_rfl) fun a hF => ?_
        refine wl (eP 109 (v0 := .bool (!decide (120 = 120))) (v := .bool false) hF (by kernel_rfl) (fun _ => by kernel_rfl) (nT (by omega)) fun a hF => ?_)
        refine sB 2 [(110, .bool false), (111, .bool false)] hF (by kernel_rfl) fun a hF => ?_
        refine wl (eL 112 24 0 (v := .agg #[.int .i64 0, .int .i64 0]) hF hM (by kernel_rfl) rfl rfl (by kernel_rfl) (by kernel_rfl) fun a w hF hM => ?_)
        refine wl (eL 113 25 0 (v := .agg #[.int .i64 0, .int .i64 0]) hF hM (by kernel_rfl) rfl rfl (by kernel_rfl) (by kernel_rfl) fun a w hF hM => ?_)
        refine wl (eM 114 (v := .bool false) hF hM (by kernel_rfl) ((yld_neq (C := Mem _ _ _) [0, 0] [0, 0] hF rfl (by kernel_rfl) (by kernel_rfl) (by kernel_rfl) rfl (by kernel_rfl) (by kernel_rfl) (by kernel_rfl) rfl rfl).to (nT (by decide))) fun a w hF hM => ?_)
        refine sB 4 [(115, .bool false), (116, .bool false), (117, .int .i64 120), (118, .int .i64 120)] hF (by kernel_rfl) fun a hF => ?_
        refine wl (eP 119 (v0 := .bool (!decide (120 = 120))) (v := .bool false) hF (by kernel_rfl) (fun _ => by kernel_rfl) (nT (by omega)) fun a hF => ?_)
        refine sB 2 [(120, .bool false), (121, .bool false)] hF (by kernel_rfl) fun a hF => ?_
        refine wl (eL 122 26 0 (v := .agg #[.int .i64 0, .int .i64 0]) hF hM (by kernel_rfl) rfl rfl (by kernel_rfl) (by kernel_rfl) fun a w hF hM => ?_)
        refine wl (eL 123 27 0 (v := .agg #[.int .i64 0, .int .i64 0]) hF hM (by kernel_rfl) rfl rfl (by kernel_rfl) (by kernel_rfl) fun a w hF hM => ?_)
        refine wl (eM 124 (v := .bool false) hF hM (by kernel_rfl) ((yld_neq (C := Mem _ _ _) [0, 0] [0, 0] hF rfl (by kernel_rfl) (by kernel_rfl) (by kernel_rfl) rfl (by kernel_rfl) (by kernel_rfl) (by kernel_rfl) rfl rfl).to (nT (by decide))) fun a w hF hM => ?_)
        refine sB 4 [(125, .bool false), (126, .bool false), (127, .int .i64 120), (128, .int .i64 120)] hF (by kernel_rfl) fun a hF => ?_
        refine wl (eP 129 (v0 := .bool (!decide (120 = 120))) (v := .bool false) hF (by kernel_rfl) (fun _ => by kernel_rfl) (nT (by omega)) fun a hF => ?_)
        refine sB 1 [(130, .bool false)] hF (by kernel_rfl) fun a hF => ?_
        refine wpList_nil ?_
        refine hK33 _ _ ?_
        refine cF hF (by kernel_rfl) (by kernel_rfl) ?_
        refine wp_skip ?_
        refine hK7 _ _ ?_
        refine wp_region_lit ?_
        refine wl (eP 131 (v0 := .int .i64 (IntKind.i64.wrap ((k26 : Int) + 1))) (v := .int .i64 ((k26 : Int) + 1)) hF (by kernel_rfl) (fun _ => by kernel_rfl) (wi (by omega)) fun a hF => ?_)
        refine sB 1 [(26, .int .i64 ((k26 : Int) + 1))] hF (by kernel_rfl) fun a hF => ?_
        refine wpList_nil ?_
        refine hK4 _ _ ⟨(k26 + 1), ⟨(((Fr.nil hF).c hF (i := 25) rfl rfl).c hF (i := 26) rfl (vi (show ((k26 : Int) + 1 : Int) = ((k26 + 1) : Int) from by omega))), (hM.sub Sub.nil), (show ((k26 + 1) : Int) ≤ 4 from by omega)⟩, (show 4 - (k26 + 1) < 4 - k26 from by omega)⟩
    · skip
      replace hF := hF.c hF (i := 27) (v := .bool false) rfl (bF hz2)
      refine cF hF (by kernel_rfl) (by kernel_rfl) ?_
      refine wp_exit ?_
      refine hK2 _ _ ?_
      refine wp_seq_k fun K34 hK34 => ?_
      refine wp_region_lit ?_
      refine wl (eM 132 (v := .bool true) hF hM (by kernel_rfl) (yld_call (f := 14) (args := #[]) hF (by kernel_rfl) (fun _ => by kernel_rfl) (fun w hM => works_w w (hT.below (Nat.le_refl _) hM.bel))) fun a w hF hM => ?_)
      refine sB 1 [(4, .bool true)] hF (by kernel_rfl) fun a hF => ?_
      refine wpList_nil ?_
      refine hK34 _ _ ?_
      refine wp_ret ?_
      refine hR0 _ _ ?_
      refine ret_of hF hM (.tmp rfl (.nil)) ?_
      exact ⟨rfl, hM.bel⟩

end Go.Proofs.YtboodcekjooehaaDoor
