/-
  The examples of package rat.
-/
import Derived.Test.YtboodcekjooehaaDoorRatX
namespace Go.Proofs.YtboodcekjooehaaDoor
open Go.RowKit
set_option linter.unusedVariables false
set_option linter.unusedSimpArgs false

theorem of_w (n d : Int) (w0 : World) :
    Calls Tryd.prog 28 #[.int .i64 n, .int .i64 d] w0 (Ret w0 (.agg #[.int .i64 n, .int .i64 d])) := by
  refine enterK 8 Tryd.func28 rfl rfl rfl ?_
  intro a hF Q0 hR0 hN0
  have hM := Mem.start w0
  refine wp_seq_k fun K1 hK1 => ?_
  refine wp_region_lit ?_
  refine wl (eN 4 1 (t := 23) (fun b => .pointer (some ⟨b, 0, none⟩)) #[.int .i64 0, .int .i64 0] hF hM (by kernel_rfl) (fun _ => by kernel_rfl) fun bb1 a w hF hM => ?_)
  refine wpList_nil ?_
  refine hK1 _ _ ?_
  refine wp_seq_k fun K2 hK2 => ?_
  refine wp_region_lit ?_
  refine sB 3 [(5, .int .i64 n), (6, .int .i64 d), (7, .agg #[.int .i64 n, .int .i64 d])] hF (by kernel_rfl) fun a hF => ?_
  refine wl (sStore (i := 1) (off := 0) (cs' := #[.int .i64 n, .int .i64 d]) hF hM (by kernel_rfl) rfl rfl (by kernel_rfl) (by kernel_rfl) rfl (by kernel_rfl) fun w hM => ?_)
  refine wpList_nil ?_
  refine hK2 _ _ ?_
  refine wp_ret ?_
  refine hR0 _ _ ?_
  refine ret_of hF hM (.cell (i := 1) rfl rfl (v := .agg #[.int .i64 n, .int .i64 d]) (by kernel_rfl) (.nil)) ?_
  exact ⟨rfl, hM.bel⟩

def isB (x y e n d : Int) : Bool := decide (e = 0 ∧ x = n ∧ y = d)
theorem is_w (x y e n d : Int) (w0 : World) :
    Calls Tryd.prog 30 #[.agg #[.int .i64 x, .int .i64 y], .int .i64 e, .int .i64 n, .int .i64 d] w0 (Ret w0 (.bool (isB x y e n d))) := by
  refine enterK 18 Tryd.func30 rfl rfl rfl ?_
  intro a hF Q0 hR0 hN0
  have hM := Mem.start w0
  refine wp_seq_k fun K1 hK1 => ?_
  refine wp_region_lit ?_
  refine wl (eN 4 1 (t := 23) (fun b => .pointer (some ⟨b, 0, none⟩)) #[.int .i64 x, .int .i64 y] hF hM (by kernel_rfl) (fun _ => by kernel_rfl) fun bb1 a w hF hM => ?_)
  refine sB 1 [(8, .bool false)] hF (by kernel_rfl) fun a hF => ?_
  refine wpList_nil ?_
  refine hK1 _ _ ?_
  refine wp_seq_k fun K2 hK2 => ?_
  by_cases hz1 : e = 0
  · skip
    refine rQ hM (by kernel_rfl) (by kernel_rfl) ?_
    refine eQ 9 (v0 := .int .i64 e) (v := .int .i64 e) hF (by kernel_rfl) (fun _ => by kernel_rfl) rfl fun a hF => ?_
    refine eQ 10 (v0 := .bool (decide (e = 0))) (v := .bool true) hF (by kernel_rfl) (fun _ => by kernel_rfl) (bT hz1) fun a hF => ?_
    refine eQ 11 (v0 := .bool true) (v := .bool true) hF (by kernel_rfl) (fun _ => by kernel_rfl) rfl fun a hF => ?_
    refine eQL 12 1 0 (v := .agg #[.int .i64 x, .int .i64 y]) hF (by kernel_rfl) rfl rfl (by kernel_rfl) (by kernel_rfl) fun a hF => ?_
    refine eQ 13 (v0 := .int .i64 n) (v := .int .i64 n) hF (by kernel_rfl) (fun _ => by kernel_rfl) rfl fun a hF => ?_
    refine eQ 14 (v0 := .int .i64 d) (v := .int .i64 d) hF (by kernel_rfl) (fun _ => by kernel_rfl) rfl fun a hF => ?_
    refine eQ2 15 (v := .agg #[.int .i64 n, .int .i64 d]) hF (by kernel_rfl) (yld_call (f := 28) (args := #[.int .i64 n, .int .i64 d]) hF (by kernel_rfl) (fun _ => by kernel_rfl) (fun w hM => of_w n d w)) fun a hF => ?_
    refine eQ2 16 (v := .bool (decide ([x, y] = [n, d]))) hF (by kernel_rfl) (yld_eql (C := Mem _ _ _) [x, y] [n, d] hF rfl (by kernel_rfl) (by kernel_rfl) (by kernel_rfl) rfl (by kernel_rfl) (by kernel_rfl) (by kernel_rfl) rfl rfl) fun a hF => ?_
    refine eQ 17 (v0 := .bool (decide ([x, y] = [n, d]))) (v := .bool (decide ([x, y] = [n, d]))) hF (by kernel_rfl) (fun _ => by kernel_rfl) rfl fun a hF => ?_
    refine eQ 8 (v0 := .bool (decide ([x, y] = [n, d]))) (v := .bool (decide ([x, y] = [n, d]))) hF (by kernel_rfl) (fun _ => by kernel_rfl) rfl fun a hF => ?_
    refine wpQuiet_nil ?_
    intro w hM
    refine hK2 _ _ ?_
    refine wp_ret ?_
    refine hR0 _ _ ?_
    refine ret_of hF hM (.tmp rfl (.nil)) ?_
    exact ⟨ret_bool (by unfold isB; simp_all), hM.bel⟩
  · skip
    refine rQ hM (by kernel_rfl) (by kernel_rfl) ?_
    refine eQ 9 (v0 := .int .i64 e) (v := .int .i64 e) hF (by kernel_rfl) (fun _ => by kernel_rfl) rfl fun a hF => ?_
    refine eQ 10 (v0 := .bool (decide (e = 0))) (v := .bool false) hF (by kernel_rfl) (fun _ => by kernel_rfl) (bF hz1) fun a hF => ?_
    refine eQ 11 (v0 := .bool false) (v := .bool false) hF (by kernel_rfl) (fun _ => by kernel_rfl) rfl fun a hF => ?_
    refine qSkip hF (by kernel_rfl) rfl (by decide) fun a hF => ?_
    refine qSkip hF (by kernel_rfl) rfl (by decide) fun a hF => ?_
    refine qSkip hF (by kernel_rfl) rfl (by decide) fun a hF => ?_
    refine qSkip hF (by kernel_rfl) rfl (by decide) fun a hF => ?_
    refine qSkip hF (by kernel_rfl) rfl (by decide) fun a hF => ?_
    refine eQ 17 (v0 := .bool false) (v := .bool false) hF (by kernel_rfl) (fun _ => by kernel_rfl) rfl fun a hF => ?_
    refine eQ 8 (v0 := .bool false) (v := .bool false) hF (by kernel_rfl) (fun _ => by kernel_rfl) rfl fun a hF => ?_
    refine wpQuiet_nil ?_
    intro w hM
    refine hK2 _ _ ?_
    refine wp_ret ?_
    refine hR0 _ _ ?_
    refine ret_of hF hM (.tmp rfl (.nil)) ?_
    exact ⟨ret_bool (by unfold isB; simp_all), hM.bel⟩

set_option maxRecDepth 100000 in
set_option maxHeartbeats 8000000 in
theorem works_w (w0 : World) (hT : Tab w0) :
    Calls Tryd.prog 14 #[] w0 (Ret w0 (.bool true)) := by
  refine enterK 207 Tryd.func14 rfl rfl rfl ?_
  intro a hF Q0 hR0 hN0
  have hM := Mem.start w0
  refine wp_seq_k fun K1 hK1 => ?_
  refine wp_region_lit ?_
  refine sB 1 [(0, .bool false)] hF (by kernel_rfl) fun a hF => ?_
  refine wpList_nil ?_
  refine hK1 _ _ ?_
  refine wp_seq_k fun K2 hK2 => ?_
  refine wp_region_lit ?_
  refine wl (eM 36 (v := .tuple #[.agg #[.int .i64 (-3), .int .i64 2], .int .i64 0]) hF hM (by kernel_rfl) (Yld.to (yld_call (f := 10) (args := #[.int .i64 6, .int .i64 (-4)]) hF (by kernel_rfl) (fun _ => by kernel_rfl) (fun w hM => raMake_w 6 (-4) w (hT.below (Nat.le_refl _) hM.bel))) (by kernel_rfl)) fun a w hF hM => ?_)
  refine sB 3 [(35, .tuple #[.agg #[.int .i64 (-3), .int .i64 2], .int .i64 0]), (37, .agg #[.int .i64 (-3), .int .i64 2]), (38, .int .i64 0)] hF (by kernel_rfl) fun a hF => ?_
  refine wl (eN 1 1 (t := 23) (fun b => .pointer (some ⟨b, 0, none⟩)) #[.int .i64 0, .int .i64 0] hF hM (by kernel_rfl) (fun _ => by kernel_rfl) fun bb1 a w hF hM => ?_)
  refine wl (sStore (i := 1) (off := 0) (cs' := #[.int .i64 (-3), .int .i64 2]) hF hM (by kernel_rfl) rfl rfl (by kernel_rfl) (by kernel_rfl) rfl (by kernel_rfl) fun w hM => ?_)
  refine sB 1 [(2, .int .i64 0)] hF (by kernel_rfl) fun a hF => ?_
  refine wpList_nil ?_
  refine hK2 _ _ ?_
  refine wp_seq_k fun K3 hK3 => ?_
  refine wp_region_lit ?_
  refine wl (eM 40 (v := .tuple #[.agg #[.int .i64 0, .int .i64 1], .int .i64 0]) hF hM (by kernel_rfl) (Yld.to (yld_call (f := 10) (args := #[.int .i64 0, .int .i64 (-7)]) hF (by kernel_rfl) (fun _ => by kernel_rfl) (fun w hM => raMake_w 0 (-7) w (hT.below (Nat.le_refl _) hM.bel))) (by kernel_rfl)) fun a w hF hM => ?_)
  refine sB 3 [(39, .tuple #[.agg #[.int .i64 0, .int .i64 1], .int .i64 0]), (41, .agg #[.int .i64 0, .int .i64 1]), (42, .int .i64 0)] hF (by kernel_rfl) fun a hF => ?_
  refine wl (eN 3 2 (t := 23) (fun b => .pointer (some ⟨b, 0, none⟩)) #[.int .i64 0, .int .i64 0] hF hM (by kernel_rfl) (fun _ => by kernel_rfl) fun bb2 a w hF hM => ?_)
  refine wl (sStore (i := 2) (off := 0) (cs' := #[.int .i64 0, .int .i64 1]) hF hM (by kernel_rfl) rfl rfl (by kernel_rfl) (by kernel_rfl) rfl (by kernel_rfl) fun w hM => ?_)
  refine sB 1 [(4, .int .i64 0)] hF (by kernel_rfl) fun a hF => ?_
  refine wpList_nil ?_
  refine hK3 _ _ ?_
  refine wp_seq_k fun K4 hK4 => ?_
  refine wp_region_lit ?_
  refine wl (eM 44 (v := .tuple #[.agg #[.int .i64 0, .int .i64 0], .int .i64 2]) hF hM (by kernel_rfl) (Yld.to (yld_call (f := 10) (args := #[.int .i64 1, .int .i64 0]) hF (by kernel_rfl) (fun _ => by kernel_rfl) (fun w hM => raMake_w 1 0 w (hT.below (Nat.le_refl _) hM.bel))) (by kernel_rfl)) fun a w hF hM => ?_)
  refine sB 3 [(43, .tuple #[.agg #[.int .i64 0, .int .i64 0], .int .i64 2]), (45, .agg #[.int .i64 0, .int .i64 0]), (46, .int .i64 2)] hF (by kernel_rfl) fun a hF => ?_
  refine wl (eN 5 3 (t := 23) (fun b => .pointer (some ⟨b, 0, none⟩)) #[.int .i64 0, .int .i64 0] hF hM (by kernel_rfl) (fun _ => by kernel_rfl) fun bb3 a w hF hM => ?_)
  refine wl (sStore (i := 3) (off := 0) (cs' := #[.int .i64 0, .int .i64 0]) hF hM (by kernel_rfl) rfl rfl (by kernel_rfl) (by kernel_rfl) rfl (by kernel_rfl) fun w hM => ?_)
  refine sB 1 [(6, .int .i64 2)] hF (by kernel_rfl) fun a hF => ?_
  refine wpList_nil ?_
  refine hK4 _ _ ?_
  refine wp_seq_k fun K5 hK5 => ?_
  refine wp_region_lit ?_
  refine wl (eM 48 (v := .tuple #[.agg #[.int .i64 1073741824, .int .i64 1], .int .i64 0]) hF hM (by kernel_rfl) (Yld.to (yld_call (f := 10) (args := #[.int .i64 2147483648, .int .i64 2]) hF (by kernel_rfl) (fun _ => by kernel_rfl) (fun w hM => raMake_w 2147483648 2 w (hT.below (Nat.le_refl _) hM.bel))) (by kernel_rfl)) fun a w hF hM => ?_)
  refine sB 3 [(47, .tuple #[.agg #[.int .i64 1073741824, .int .i64 1], .int .i64 0]), (49, .agg #[.int .i64 1073741824, .int .i64 1]), (50, .int .i64 0)] hF (by kernel_rfl) fun a hF => ?_
  refine wl (eN 7 4 (t := 23) (fun b => .pointer (some ⟨b, 0, none⟩)) #[.int .i64 0, .int .i64 0] hF hM (by kernel_rfl) (fun _ => by kernel_rfl) fun bb4 a w hF hM => ?_)
  refine wl (sStore (i := 4) (off := 0) (cs' := #[.int .i64 1073741824, .int .i64 1]) hF hM (by kernel_rfl) rfl rfl (by kernel_rfl) (by kernel_rfl) rfl (by kernel_rfl) fun w hM => ?_)
  refine sB 1 [(8, .int .i64 0)] hF (by kernel_rfl) fun a hF => ?_
  refine wpList_nil ?_
  refine hK5 _ _ ?_
  refine wp_seq_k fun K6 hK6 => ?_
  refine wp_region_lit ?_
  refine wl (eM 52 (v := .tuple #[.agg #[.int .i64 0, .int .i64 0], .int .i64 6]) hF hM (by kernel_rfl) (Yld.to (yld_call (f := 10) (args := #[.int .i64 1073741825, .int .i64 1]) hF (by kernel_rfl) (fun _ => by kernel_rfl) (fun w hM => raMake_w 1073741825 1 w (hT.below (Nat.le_refl _) hM.bel))) (by kernel_rfl)) fun a w hF hM => ?_)
  refine sB 3 [(51, .tuple #[.agg #[.int .i64 0, .int .i64 0], .int .i64 6]), (53, .agg #[.int .i64 0, .int .i64 0]), (54, .int .i64 6)] hF (by kernel_rfl) fun a hF => ?_
  refine wl (eN 9 5 (t := 23) (fun b => .pointer (some ⟨b, 0, none⟩)) #[.int .i64 0, .int .i64 0] hF hM (by kernel_rfl) (fun _ => by kernel_rfl) fun bb5 a w hF hM => ?_)
  refine wl (sStore (i := 5) (off := 0) (cs' := #[.int .i64 0, .int .i64 0]) hF hM (by kernel_rfl) rfl rfl (by kernel_rfl) (by kernel_rfl) rfl (by kernel_rfl) fun w hM => ?_)
  refine sB 1 [(10, .int .i64 6)] hF (by kernel_rfl) fun a hF => ?_
  refine wpList_nil ?_
  refine hK6 _ _ ?_
  refine wp_seq_k fun K7 hK7 => ?_
  refine wp_region_lit ?_
  refine wl (eM 56 (v := .tuple #[.agg #[.int .i64 1, .int .i64 1], .int .i64 0]) hF hM (by kernel_rfl) (Yld.to (yld_call (f := 10) (args := #[.int .i64 4611686018427387904, .int .i64 4611686018427387904]) hF (by kernel_rfl) (fun _ => by kernel_rfl) (fun w hM => raMake_w 4611686018427387904 4611686018427387904 w (hT.below (Nat.le_refl _) hM.bel))) (by kernel_rfl)) fun a w hF hM => ?_)
  refine sB 3 [(55, .tuple #[.agg #[.int .i64 1, .int .i64 1], .int .i64 0]), (57, .agg #[.int .i64 1, .int .i64 1]), (58, .int .i64 0)] hF (by kernel_rfl) fun a hF => ?_
  refine wl (eN 11 6 (t := 23) (fun b => .pointer (some ⟨b, 0, none⟩)) #[.int .i64 0, .int .i64 0] hF hM (by kernel_rfl) (fun _ => by kernel_rfl) fun bb6 a w hF hM => ?_)
  refine wl (sStore (i := 6) (off := 0) (cs' := #[.int .i64 1, .int .i64 1]) hF hM (by kernel_rfl) rfl rfl (by kernel_rfl) (by kernel_rfl) rfl (by kernel_rfl) fun w hM => ?_)
  refine sB 1 [(12, .int .i64 0)] hF (by kernel_rfl) fun a hF => ?_
  refine wpList_nil ?_
  refine hK7 _ _ ?_
  refine wp_seq_k fun K8 hK8 => ?_
  refine wp_region_lit ?_
  refine wl (eL 59 1 0 (v := .agg #[.int .i64 (-3), .int .i64 2]) hF hM (by kernel_rfl) rfl rfl (by kernel_rfl) (by kernel_rfl) fun a w hF hM => ?_)
  refine sB 1 [(60, .int .i64 0)] hF (by kernel_rfl) fun a hF => ?_
  refine wl (eM 61 (v := .bool true) hF hM (by kernel_rfl) (Yld.to (yld_call (f := 30) (args := #[.agg #[.int .i64 (-3), .int .i64 2], .int .i64 0, .int .i64 (-3), .int .i64 2]) hF (by kernel_rfl) (fun _ => by kernel_rfl) (fun w hM => is_w (-3) 2 0 (-3) 2 w)) (by kernel_rfl)) fun a w hF hM => ?_)
  refine sB 1 [(62, .bool true)] hF (by kernel_rfl) fun a hF => ?_
  refine wl (eL 63 2 0 (v := .agg #[.int .i64 0, .int .i64 1]) hF hM (by kernel_rfl) rfl rfl (by kernel_rfl) (by kernel_rfl) fun a w hF hM => ?_)
  refine sB 1 [(64, .int .i64 0)] hF (by kernel_rfl) fun a hF => ?_
  refine wl (eM 65 (v := .bool true) hF hM (by kernel_rfl) (Yld.to (yld_call (f := 30) (args := #[.agg #[.int .i64 0, .int .i64 1], .int .i64 0, .int .i64 0, .int .i64 1]) hF (by kernel_rfl) (fun _ => by kernel_rfl) (fun w hM => is_w 0 1 0 0 1 w)) (by kernel_rfl)) fun a w hF hM => ?_)
  refine sB 3 [(66, .bool true), (67, .bool true), (68, .int .i64 2)] hF (by kernel_rfl) fun a hF => ?_
  refine wl (eP 69 (v0 := .bool (decide (2 = 2))) (v := .bool true) hF (by kernel_rfl) (fun _ => by kernel_rfl) (bT (by omega)) fun a hF => ?_)
  refine sB 2 [(70, .bool true), (71, .bool true)] hF (by kernel_rfl) fun a hF => ?_
  refine wl (eL 72 4 0 (v := .agg #[.int .i64 1073741824, .int .i64 1]) hF hM (by kernel_rfl) rfl rfl (by kernel_rfl) (by kernel_rfl) fun a w hF hM => ?_)
  refine sB 1 [(73, .int .i64 0)] hF (by kernel_rfl) fun a hF => ?_
  refine wl (eM 74 (v := .bool true) hF hM (by kernel_rfl) (Yld.to (yld_call (f := 30) (args := #[.agg #[.int .i64 1073741824, .int .i64 1], .int .i64 0, .int .i64 1073741824, .int .i64 1]) hF (by kernel_rfl) (fun _ => by kernel_rfl) (fun w hM => is_w 1073741824 1 0 1073741824 1 w)) (by kernel_rfl)) fun a w hF hM => ?_)
  refine sB 3 [(75, .bool true), (76, .bool true), (77, .int .i64 6)] hF (by kernel_rfl) fun a hF => ?_
  refine wl (eP 78 (v0 := .bool (decide (6 = 6))) (v := .bool true) hF (by kernel_rfl) (fun _ => by kernel_rfl) (bT (by omega)) fun a hF => ?_)
  refine sB 2 [(79, .bool true), (80, .bool true)] hF (by kernel_rfl) fun a hF => ?_
  refine wl (eL 81 6 0 (v := .agg #[.int .i64 1, .int .i64 1]) hF hM (by kernel_rfl) rfl rfl (by kernel_rfl) (by kernel_rfl) fun a w hF hM => ?_)
  refine sB 1 [(82, .int .i64 0)] hF (by kernel_rfl) fun a hF => ?_
  refine wl (eM 83 (v := .bool true) hF hM (by kernel_rfl) (Yld.to (yld_call (f := 30) (args := #[.agg #[.int .i64 1, .int .i64 1], .int .i64 0, .int .i64 1, .int .i64 1]) hF (by kernel_rfl) (fun _ => by kernel_rfl) (fun w hM => is_w 1 1 0 1 1 w)) (by kernel_rfl)) fun a w hF hM => ?_)
  refine sB 2 [(84, .bool true), (85, .bool true)] hF (by kernel_rfl) fun a hF => ?_
  refine wl (eM 86 (v := .agg #[.int .i64 2, .int .i64 4]) hF hM (by kernel_rfl) (yld_call (f := 28) (args := #[.int .i64 2, .int .i64 4]) hF (by kernel_rfl) (fun _ => by kernel_rfl) (fun w hM => of_w 2 4 w)) fun a w hF hM => ?_)
  refine wl (eM 87 (v := .int .i64 120) hF hM (by kernel_rfl) (Yld.to (yld_call (f := 12) (args := #[.agg #[.int .i64 2, .int .i64 4]]) hF (by kernel_rfl) (fun _ => by kernel_rfl) (fun w hM => raCheck_w 2 4 w (hT.below (Nat.le_refl _) hM.bel))) (by kernel_rfl)) fun a w hF hM => ?_)
  refine wl (eP 88 (v0 := .bool (decide (120 = 120))) (v := .bool true) hF (by kernel_rfl) (fun _ => by kernel_rfl) (bT (by omega)) fun a hF => ?_)
  refine sB 2 [(89, .bool true), (13, .bool true)] hF (by kernel_rfl) fun a hF => ?_
  refine wpList_nil ?_
  refine hK8 _ _ ?_
  refine wp_seq_k fun K9 hK9 => ?_
  refine wp_region_lit ?_
  refine wl (eM 91 (v := .agg #[.int .i64 1, .int .i64 2]) hF hM (by kernel_rfl) (yld_call (f := 28) (args := #[.int .i64 1, .int .i64 2]) hF (by kernel_rfl) (fun _ => by kernel_rfl) (fun w hM => of_w 1 2 w)) fun a w hF hM => ?_)
  refine wl (eM 92 (v := .agg #[.int .i64 1, .int .i64 3]) hF hM (by kernel_rfl) (yld_call (f := 28) (args := #[.int .i64 1, .int .i64 3]) hF (by kernel_rfl) (fun _ => by kernel_rfl) (fun w hM => of_w 1 3 w)) fun a w hF hM => ?_)
  refine wl (eM 93 (v := .tuple #[.agg #[.int .i64 5, .int .i64 6], .int .i64 0]) hF hM (by kernel_rfl) (Yld.to (yld_call (f := 16) (args := #[.agg #[.int .i64 1, .int .i64 2], .agg #[.int .i64 1, .int .i64 3]]) hF (by kernel_rfl) (fun _ => by kernel_rfl) (fun w hM => raAdd_ok 1 2 1 3 w (hT.below (Nat.le_refl _) hM.bel) (by decide) (by decide))) (by kernel_rfl)) fun a w hF hM => ?_)
  refine sB 3 [(90, .tuple #[.agg #[.int .i64 5, .int .i64 6], .int .i64 0]), (94, .agg #[.int .i64 5, .int .i64 6]), (95, .int .i64 0)] hF (by kernel_rfl) fun a hF => ?_
  refine wl (eN 14 7 (t := 23) (fun b => .pointer (some ⟨b, 0, none⟩)) #[.int .i64 0, .int .i64 0] hF hM (by kernel_rfl) (fun _ => by kernel_rfl) fun bb7 a w hF hM => ?_)
  refine wl (sStore (i := 7) (off := 0) (cs' := #[.int .i64 5, .int .i64 6]) hF hM (by kernel_rfl) rfl rfl (by kernel_rfl) (by kernel_rfl) rfl (by kernel_rfl) fun w hM => ?_)
  refine sB 1 [(15, .int .i64 0)] hF (by kernel_rfl) fun a hF => ?_
  refine wpList_nil ?_
  refine hK9 _ _ ?_
  refine wp_seq_k fun K10 hK10 => ?_
  refine wp_region_lit ?_
  refine wl (eM 97 (v := .agg #[.int .i64 1, .int .i64 2]) hF hM (by kernel_rfl) (yld_call (f := 28) (args := #[.int .i64 1, .int .i64 2]) hF (by kernel_rfl) (fun _ => by kernel_rfl) (fun w hM => of_w 1 2 w)) fun a w hF hM => ?_)
  refine wl (eM 98 (v := .agg #[.int .i64 1, .int .i64 2]) hF hM (by kernel_rfl) (yld_call (f := 28) (args := #[.int .i64 1, .int .i64 2]) hF (by kernel_rfl) (fun _ => by kernel_rfl) (fun w hM => of_w 1 2 w)) fun a w hF hM => ?_)
  refine wl (eM 99 (v := .tuple #[.agg #[.int .i64 0, .int .i64 1], .int .i64 0]) hF hM (by kernel_rfl) (Yld.to (yld_call (f := 18) (args := #[.agg #[.int .i64 1, .int .i64 2], .agg #[.int .i64 1, .int .i64 2]]) hF (by kernel_rfl) (fun _ => by kernel_rfl) (fun w hM => raSub_ok 1 2 1 2 w (hT.below (Nat.le_refl _) hM.bel) (by decide) (by decide))) (by kernel_rfl)) fun a w hF hM => ?_)
  refine sB 3 [(96, .tuple #[.agg #[.int .i64 0, .int .i64 1], .int .i64 0]), (100, .agg #[.int .i64 0, .int .i64 1]), (101, .int .i64 0)] hF (by kernel_rfl) fun a hF => ?_
  refine wl (eN 16 8 (t := 23) (fun b => .pointer (some ⟨b, 0, none⟩)) #[.int .i64 0, .int .i64 0] hF hM (by kernel_rfl) (fun _ => by kernel_rfl) fun bb8 a w hF hM => ?_)
  refine wl (sStore (i := 8) (off := 0) (cs' := #[.int .i64 0, .int .i64 1]) hF hM (by kernel_rfl) rfl rfl (by kernel_rfl) (by kernel_rfl) rfl (by kernel_rfl) fun w hM => ?_)
  refine sB 1 [(17, .int .i64 0)] hF (by kernel_rfl) fun a hF => ?_
  refine wpList_nil ?_
  refine hK10 _ _ ?_
  refine wp_seq_k fun K11 hK11 => ?_
  refine wp_region_lit ?_
  refine wl (eM 103 (v := .agg #[.int .i64 2, .int .i64 3]) hF hM (by kernel_rfl) (yld_call (f := 28) (args := #[.int .i64 2, .int .i64 3]) hF (by kernel_rfl) (fun _ => by kernel_rfl) (fun w hM => of_w 2 3 w)) fun a w hF hM => ?_)
  refine wl (eM 104 (v := .agg #[.int .i64 3, .int .i64 4]) hF hM (by kernel_rfl) (yld_call (f := 28) (args := #[.int .i64 3, .int .i64 4]) hF (by kernel_rfl) (fun _ => by kernel_rfl) (fun w hM => of_w 3 4 w)) fun a w hF hM => ?_)
  refine wl (eM 105 (v := .tuple #[.agg #[.int .i64 1, .int .i64 2], .int .i64 0]) hF hM (by kernel_rfl) (Yld.to (yld_call (f := 20) (args := #[.agg #[.int .i64 2, .int .i64 3], .agg #[.int .i64 3, .int .i64 4]]) hF (by kernel_rfl) (fun _ => by kernel_rfl) (fun w hM => raMul_ok 2 3 3 4 w (hT.below (Nat.le_refl _) hM.bel) (by decide) (by decide))) (by kernel_rfl)) fun a w hF hM => ?_)
  refine sB 3 [(102, .tuple #[.agg #[.int .i64 1, .int .i64 2], .int .i64 0]), (106, .agg #[.int .i64 1, .int .i64 2]), (107, .int .i64 0)] hF (by kernel_rfl) fun a hF => ?_
  refine wl (eN 18 9 (t := 23) (fun b => .pointer (some ⟨b, 0, none⟩)) #[.int .i64 0, .int .i64 0] hF hM (by kernel_rfl) (fun _ => by kernel_rfl) fun bb9 a w hF hM => ?_)
  refine wl (sStore (i := 9) (off := 0) (cs' := #[.int .i64 1, .int .i64 2]) hF hM (by kernel_rfl) rfl rfl (by kernel_rfl) (by kernel_rfl) rfl (by kernel_rfl) fun w hM => ?_)
  refine sB 1 [(19, .int .i64 0)] hF (by kernel_rfl) fun a hF => ?_
  refine wpList_nil ?_
  refine hK11 _ _ ?_
  refine wp_seq_k fun K12 hK12 => ?_
  refine wp_region_lit ?_
  refine wl (eM 109 (v := .agg #[.int .i64 1, .int .i64 2]) hF hM (by kernel_rfl) (yld_call (f := 28) (args := #[.int .i64 1, .int .i64 2]) hF (by kernel_rfl) (fun _ => by kernel_rfl) (fun w hM => of_w 1 2 w)) fun a w hF hM => ?_)
  refine wl (eM 110 (v := .agg #[.int .i64 (-3), .int .i64 4]) hF hM (by kernel_rfl) (yld_call (f := 28) (args := #[.int .i64 (-3), .int .i64 4]) hF (by kernel_rfl) (fun _ => by kernel_rfl) (fun w hM => of_w (-3) 4 w)) fun a w hF hM => ?_)
  refine wl (eM 111 (v := .tuple #[.agg #[.int .i64 (-2), .int .i64 3], .int .i64 0]) hF hM (by kernel_rfl) (Yld.to (yld_call (f := 22) (args := #[.agg #[.int .i64 1, .int .i64 2], .agg #[.int .i64 (-3), .int .i64 4]]) hF (by kernel_rfl) (fun _ => by kernel_rfl) (fun w hM => raDiv_ok 1 2 (-3) 4 w (hT.below (Nat.le_refl _) hM.bel) (by decide) (by decide))) (by kernel_rfl)) fun a w hF hM => ?_)
  refine sB 3 [(108, .tuple #[.agg #[.int .i64 (-2), .int .i64 3], .int .i64 0]), (112, .agg #[.int .i64 (-2), .int .i64 3]), (113, .int .i64 0)] hF (by kernel_rfl) fun a hF => ?_
  refine wl (eN 20 10 (t := 23) (fun b => .pointer (some ⟨b, 0, none⟩)) #[.int .i64 0, .int .i64 0] hF hM (by kernel_rfl) (fun _ => by kernel_rfl) fun bb10 a w hF hM => ?_)
  refine wl (sStore (i := 10) (off := 0) (cs' := #[.int .i64 (-2), .int .i64 3]) hF hM (by kernel_rfl) rfl rfl (by kernel_rfl) (by kernel_rfl) rfl (by kernel_rfl) fun w hM => ?_)
  refine sB 1 [(21, .int .i64 0)] hF (by kernel_rfl) fun a hF => ?_
  refine wpList_nil ?_
  refine hK12 _ _ ?_
  refine wp_seq_k fun K13 hK13 => ?_
  refine wp_region_lit ?_
  refine wl (eM 115 (v := .agg #[.int .i64 1, .int .i64 2]) hF hM (by kernel_rfl) (yld_call (f := 28) (args := #[.int .i64 1, .int .i64 2]) hF (by kernel_rfl) (fun _ => by kernel_rfl) (fun w hM => of_w 1 2 w)) fun a w hF hM => ?_)
  refine wl (eM 116 (v := .agg #[.int .i64 0, .int .i64 1]) hF hM (by kernel_rfl) (yld_call (f := 28) (args := #[.int .i64 0, .int .i64 1]) hF (by kernel_rfl) (fun _ => by kernel_rfl) (fun w hM => of_w 0 1 w)) fun a w hF hM => ?_)
  refine wl (eM 117 (v := .tuple #[.agg #[.int .i64 0, .int .i64 0], .int .i64 2]) hF hM (by kernel_rfl) (Yld.to (yld_call (f := 22) (args := #[.agg #[.int .i64 1, .int .i64 2], .agg #[.int .i64 0, .int .i64 1]]) hF (by kernel_rfl) (fun _ => by kernel_rfl) (fun w hM => raDiv_ok 1 2 0 1 w (hT.below (Nat.le_refl _) hM.bel) (by decide) (by decide))) (by kernel_rfl)) fun a w hF hM => ?_)
  refine sB 3 [(114, .tuple #[.agg #[.int .i64 0, .int .i64 0], .int .i64 2]), (118, .agg #[.int .i64 0, .int .i64 0]), (119, .int .i64 2)] hF (by kernel_rfl) fun a hF => ?_
  refine wl (eN 22 11 (t := 23) (fun b => .pointer (some ⟨b, 0, none⟩)) #[.int .i64 0, .int .i64 0] hF hM (by kernel_rfl) (fun _ => by kernel_rfl) fun bb11 a w hF hM => ?_)
  refine wl (sStore (i := 11) (off := 0) (cs' := #[.int .i64 0, .int .i64 0]) hF hM (by kernel_rfl) rfl rfl (by kernel_rfl) (by kernel_rfl) rfl (by kernel_rfl) fun w hM => ?_)
  refine sB 1 [(23, .int .i64 2)] hF (by kernel_rfl) fun a hF => ?_
  refine wpList_nil ?_
  refine hK13 _ _ ?_
  refine wp_seq_k fun K14 hK14 => ?_
  refine wp_region_lit ?_
  refine wl (eM 121 (v := .agg #[.int .i64 1048576, .int .i64 1]) hF hM (by kernel_rfl) (yld_call (f := 28) (args := #[.int .i64 1048576, .int .i64 1]) hF (by kernel_rfl) (fun _ => by kernel_rfl) (fun w hM => of_w 1048576 1 w)) fun a w hF hM => ?_)
  refine wl (eM 122 (v := .agg #[.int .i64 1048576, .int .i64 1]) hF hM (by kernel_rfl) (yld_call (f := 28) (args := #[.int .i64 1048576, .int .i64 1]) hF (by kernel_rfl) (fun _ => by kernel_rfl) (fun w hM => of_w 1048576 1 w)) fun a w hF hM => ?_)
  refine wl (eM 123 (v := .tuple #[.agg #[.int .i64 0, .int .i64 0], .int .i64 6]) hF hM (by kernel_rfl) (Yld.to (yld_call (f := 20) (args := #[.agg #[.int .i64 1048576, .int .i64 1], .agg #[.int .i64 1048576, .int .i64 1]]) hF (by kernel_rfl) (fun _ => by kernel_rfl) (fun w hM => raMul_ok 1048576 1 1048576 1 w (hT.below (Nat.le_refl _) hM.bel) (by decide) (by decide))) (by kernel_rfl)) fun a w hF hM => ?_)
  refine sB 3 [(120, .tuple #[.agg #[.int .i64 0, .int .i64 0], .int .i64 6]), (124, .agg #[.int .i64 0, .int .i64 0]), (125, .int .i64 6)] hF (by kernel_rfl) fun a hF => ?_
  refine wl (eN 24 12 (t := 23) (fun b => .pointer (some ⟨b, 0, none⟩)) #[.int .i64 0, .int .i64 0] hF hM (by kernel_rfl) (fun _ => by kernel_rfl) fun bb12 a w hF hM => ?_)
  refine wl (sStore (i := 12) (off := 0) (cs' := #[.int .i64 0, .int .i64 0]) hF hM (by kernel_rfl) rfl rfl (by kernel_rfl) (by kernel_rfl) rfl (by kernel_rfl) fun w hM => ?_)
  refine sB 1 [(25, .int .i64 6)] hF (by kernel_rfl) fun a hF => ?_
  refine wpList_nil ?_
  refine hK14 _ _ ?_
  refine wp_seq_k fun K15 hK15 => ?_
  refine wp_region_lit ?_
  refine wl (eL 126 7 0 (v := .agg #[.int .i64 5, .int .i64 6]) hF hM (by kernel_rfl) rfl rfl (by kernel_rfl) (by kernel_rfl) fun a w hF hM => ?_)
  refine sB 1 [(127, .int .i64 0)] hF (by kernel_rfl) fun a hF => ?_
  refine wl (eM 128 (v := .bool true) hF hM (by kernel_rfl) (Yld.to (yld_call (f := 30) (args := #[.agg #[.int .i64 5, .int .i64 6], .int .i64 0, .int .i64 5, .int .i64 6]) hF (by kernel_rfl) (fun _ => by kernel_rfl) (fun w hM => is_w 5 6 0 5 6 w)) (by kernel_rfl)) fun a w hF hM => ?_)
  refine sB 1 [(129, .bool true)] hF (by kernel_rfl) fun a hF => ?_
  refine wl (eL 130 8 0 (v := .agg #[.int .i64 0, .int .i64 1]) hF hM (by kernel_rfl) rfl rfl (by kernel_rfl) (by kernel_rfl) fun a w hF hM => ?_)
  refine sB 1 [(131, .int .i64 0)] hF (by kernel_rfl) fun a hF => ?_
  refine wl (eM 132 (v := .bool true) hF hM (by kernel_rfl) (Yld.to (yld_call (f := 30) (args := #[.agg #[.int .i64 0, .int .i64 1], .int .i64 0, .int .i64 0, .int .i64 1]) hF (by kernel_rfl) (fun _ => by kernel_rfl) (fun w hM => is_w 0 1 0 0 1 w)) (by kernel_rfl)) fun a w hF hM => ?_)
  refine sB 2 [(133, .bool true), (134, .bool true)] hF (by kernel_rfl) fun a hF => ?_
  refine wl (eL 135 9 0 (v := .agg #[.int .i64 1, .int .i64 2]) hF hM (by kernel_rfl) rfl rfl (by kernel_rfl) (by kernel_rfl) fun a w hF hM => ?_)
  refine sB 1 [(136, .int .i64 0)] hF (by kernel_rfl) fun a hF => ?_
  refine wl (eM 137 (v := .bool true) hF hM (by kernel_rfl) (Yld.to (yld_call (f := 30) (args := #[.agg #[.int .i64 1, .int .i64 2], .int .i64 0, .int .i64 1, .int .i64 2]) hF (by kernel_rfl) (fun _ => by kernel_rfl) (fun w hM => is_w 1 2 0 1 2 w)) (by kernel_rfl)) fun a w hF hM => ?_)
  refine sB 2 [(138, .bool true), (139, .bool true)] hF (by kernel_rfl) fun a hF => ?_
  refine wl (eL 140 10 0 (v := .agg #[.int .i64 (-2), .int .i64 3]) hF hM (by kernel_rfl) rfl rfl (by kernel_rfl) (by kernel_rfl) fun a w hF hM => ?_)
  refine sB 1 [(141, .int .i64 0)] hF (by kernel_rfl) fun a hF => ?_
  refine wl (eM 142 (v := .bool true) hF hM (by kernel_rfl) (Yld.to (yld_call (f := 30) (args := #[.agg #[.int .i64 (-2), .int .i64 3], .int .i64 0, .int .i64 (-2), .int .i64 3]) hF (by kernel_rfl) (fun _ => by kernel_rfl) (fun w hM => is_w (-2) 3 0 (-2) 3 w)) (by kernel_rfl)) fun a w hF hM => ?_)
  refine sB 3 [(143, .bool true), (144, .bool true), (145, .int .i64 2)] hF (by kernel_rfl) fun a hF => ?_
  refine wl (eP 146 (v0 := .bool (decide (2 = 2))) (v := .bool true) hF (by kernel_rfl) (fun _ => by kernel_rfl) (bT (by omega)) fun a hF => ?_)
  refine sB 3 [(147, .bool true), (148, .bool true), (149, .int .i64 6)] hF (by kernel_rfl) fun a hF => ?_
  refine wl (eP 150 (v0 := .bool (decide (6 = 6))) (v := .bool true) hF (by kernel_rfl) (fun _ => by kernel_rfl) (bT (by omega)) fun a hF => ?_)
  refine sB 2 [(151, .bool true), (26, .bool true)] hF (by kernel_rfl) fun a hF => ?_
  refine wpList_nil ?_
  refine hK15 _ _ ?_
  refine wp_seq_k fun K16 hK16 => ?_
  refine wp_region_lit ?_
  refine wl (eM 153 (v := .agg #[.int .i64 1, .int .i64 3]) hF hM (by kernel_rfl) (yld_call (f := 28) (args := #[.int .i64 1, .int .i64 3]) hF (by kernel_rfl) (fun _ => by kernel_rfl) (fun w hM => of_w 1 3 w)) fun a w hF hM => ?_)
  refine wl (eM 154 (v := .agg #[.int .i64 2, .int .i64 5]) hF hM (by kernel_rfl) (yld_call (f := 28) (args := #[.int .i64 2, .int .i64 5]) hF (by kernel_rfl) (fun _ => by kernel_rfl) (fun w hM => of_w 2 5 w)) fun a w hF hM => ?_)
  refine wl (eM 155 (v := .tuple #[.int .i64 (-1), .int .i64 0]) hF hM (by kernel_rfl) (Yld.to (yld_call (f := 25) (args := #[.agg #[.int .i64 1, .int .i64 3], .agg #[.int .i64 2, .int .i64 5]]) hF (by kernel_rfl) (fun _ => by kernel_rfl) (fun w hM => raCmp_ok 1 3 2 5 w (hT.below (Nat.le_refl _) hM.bel) (by decide) (by decide))) (by kernel_rfl)) fun a w hF hM => ?_)
  have := rcV_bd 1 3 2 5
  refine sB 5 [(152, .tuple #[.int .i64 (-1), .int .i64 0]), (156, .int .i64 (-1)), (157, .int .i64 0), (27, .int .i64 (-1)), (28, .int .i64 0)] hF (by kernel_rfl) fun a hF => ?_
  refine wpList_nil ?_
  refine hK16 _ _ ?_
  refine wp_seq_k fun K17 hK17 => ?_
  refine wp_region_lit ?_
  refine wl (eM 159 (v := .agg #[.int .i64 (-3), .int .i64 2]) hF hM (by kernel_rfl) (yld_call (f := 28) (args := #[.int .i64 (-3), .int .i64 2]) hF (by kernel_rfl) (fun _ => by kernel_rfl) (fun w hM => of_w (-3) 2 w)) fun a w hF hM => ?_)
  refine wl (eM 160 (v := .tuple #[.int .i64 (-2), .int .i64 0]) hF hM (by kernel_rfl) (Yld.to (yld_call (f := 26) (args := #[.agg #[.int .i64 (-3), .int .i64 2]]) hF (by kernel_rfl) (fun _ => by kernel_rfl) (fun w hM => raFloor_ok (-3) 2 w (hT.below (Nat.le_refl _) hM.bel) (by decide))) (by kernel_rfl)) fun a w hF hM => ?_)
  refine sB 5 [(158, .tuple #[.int .i64 (-2), .int .i64 0]), (161, .int .i64 (-2)), (162, .int .i64 0), (29, .int .i64 (-2)), (30, .int .i64 0)] hF (by kernel_rfl) fun a hF => ?_
  refine wpList_nil ?_
  refine hK17 _ _ ?_
  refine wp_seq_k fun K18 hK18 => ?_
  refine wp_region_lit ?_
  refine wl (eM 164 (v := .agg #[.int .i64 (-3), .int .i64 2]) hF hM (by kernel_rfl) (yld_call (f := 28) (args := #[.int .i64 (-3), .int .i64 2]) hF (by kernel_rfl) (fun _ => by kernel_rfl) (fun w hM => of_w (-3) 2 w)) fun a w hF hM => ?_)
  refine wl (eM 165 (v := .tuple #[.int .i64 (-1), .int .i64 0]) hF hM (by kernel_rfl) (Yld.to (yld_call (f := 27) (args := #[.agg #[.int .i64 (-3), .int .i64 2]]) hF (by kernel_rfl) (fun _ => by kernel_rfl) (fun w hM => raCeil_ok (-3) 2 w (hT.below (Nat.le_refl _) hM.bel) (by decide))) (by kernel_rfl)) fun a w hF hM => ?_)
  refine sB 5 [(163, .tuple #[.int .i64 (-1), .int .i64 0]), (166, .int .i64 (-1)), (167, .int .i64 0), (31, .int .i64 (-1)), (32, .int .i64 0)] hF (by kernel_rfl) fun a hF => ?_
  refine wpList_nil ?_
  refine hK18 _ _ ?_
  refine wp_seq_k fun K19 hK19 => ?_
  refine wp_region_lit ?_
  refine wl (eM 169 (v := .agg #[.int .i64 1, .int .i64 3]) hF hM (by kernel_rfl) (yld_call (f := 28) (args := #[.int .i64 1, .int .i64 3]) hF (by kernel_rfl) (fun _ => by kernel_rfl) (fun w hM => of_w 1 3 w)) fun a w hF hM => ?_)
  refine wl (eM 170 (v := .agg #[.int .i64 2, .int .i64 5]) hF hM (by kernel_rfl) (yld_call (f := 28) (args := #[.int .i64 2, .int .i64 5]) hF (by kernel_rfl) (fun _ => by kernel_rfl) (fun w hM => of_w 2 5 w)) fun a w hF hM => ?_)
  refine wl (eM 171 (v := .tuple #[.agg #[.int .i64 2, .int .i64 5], .int .i64 0]) hF hM (by kernel_rfl) (yld_call (f := 29) (args := #[.agg #[.int .i64 1, .int .i64 3], .agg #[.int .i64 2, .int .i64 5]]) hF (by kernel_rfl) (fun _ => by kernel_rfl) (fun w hM => raMax_snd 1 3 2 5 w (hT.below (Nat.le_refl _) hM.bel) (by decide) (by decide) (by decide))) fun a w hF hM => ?_)
  refine sB 3 [(168, .tuple #[.agg #[.int .i64 2, .int .i64 5], .int .i64 0]), (172, .agg #[.int .i64 2, .int .i64 5]), (173, .int .i64 0)] hF (by kernel_rfl) fun a hF => ?_
  refine wl (eN 33 13 (t := 23) (fun b => .pointer (some ⟨b, 0, none⟩)) #[.int .i64 0, .int .i64 0] hF hM (by kernel_rfl) (fun _ => by kernel_rfl) fun bb13 a w hF hM => ?_)
  refine wl (sStore (i := 13) (off := 0) (cs' := #[.int .i64 2, .int .i64 5]) hF hM (by kernel_rfl) rfl rfl (by kernel_rfl) (by kernel_rfl) rfl (by kernel_rfl) fun w hM => ?_)
  refine sB 1 [(34, .int .i64 0)] hF (by kernel_rfl) fun a hF => ?_
  refine wpList_nil ?_
  refine hK19 _ _ ?_
  refine wp_seq_k fun K20 hK20 => ?_
  refine wp_region_lit ?_
  refine sB 6 [(174, .bool true), (175, .bool true), (176, .bool true), (177, .bool true), (178, .bool true), (179, .int .i64 (-1))] hF (by kernel_rfl) fun a hF => ?_
  refine wl (eP 180 (v0 := .bool (decide (-1 = -1))) (v := .bool true) hF (by kernel_rfl) (fun _ => by kernel_rfl) (bT (by omega)) fun a hF => ?_)
  refine sB 3 [(181, .bool true), (182, .bool true), (183, .int .i64 0)] hF (by kernel_rfl) fun a hF => ?_
  refine wl (eP 184 (v0 := .bool (decide (0 = 0))) (v := .bool true) hF (by kernel_rfl) (fun _ => by kernel_rfl) (bT (by omega)) fun a hF => ?_)
  refine sB 3 [(185, .bool true), (186, .bool true), (187, .int .i64 (-2))] hF (by kernel_rfl) fun a hF => ?_
  refine wl (eP 188 (v0 := .bool (decide (-2 = -2))) (v := .bool true) hF (by kernel_rfl) (fun _ => by kernel_rfl) (bT (by omega)) fun a hF => ?_)
  refine sB 3 [(189, .bool true), (190, .bool true), (191, .int .i64 0)] hF (by kernel_rfl) fun a hF => ?_
  refine wl (eP 192 (v0 := .bool (decide (0 = 0))) (v := .bool true) hF (by kernel_rfl) (fun _ => by kernel_rfl) (bT (by omega)) fun a hF => ?_)
  refine sB 3 [(193, .bool true), (194, .bool true), (195, .int .i64 (-1))] hF (by kernel_rfl) fun a hF => ?_
  refine wl (eP 196 (v0 := .bool (decide (-1 = -1))) (v := .bool true) hF (by kernel_rfl) (fun _ => by kernel_rfl) (bT (by omega)) fun a hF => ?_)
  refine sB 3 [(197, .bool true), (198, .bool true), (199, .int .i64 0)] hF (by kernel_rfl) fun a hF => ?_
  refine wl (eP 200 (v0 := .bool (decide (0 = 0))) (v := .bool true) hF (by kernel_rfl) (fun _ => by kernel_rfl) (bT (by omega)) fun a hF => ?_)
  refine sB 2 [(201, .bool true), (202, .bool true)] hF (by kernel_rfl) fun a hF => ?_
  refine wl (eL 203 13 0 (v := .agg #[.int .i64 2, .int .i64 5]) hF hM (by kernel_rfl) rfl rfl (by kernel_rfl) (by kernel_rfl) fun a w hF hM => ?_)
  refine sB 1 [(204, .int .i64 0)] hF (by kernel_rfl) fun a hF => ?_
  refine wl (eM 205 (v := .bool true) hF hM (by kernel_rfl) (Yld.to (yld_call (f := 30) (args := #[.agg #[.int .i64 2, .int .i64 5], .int .i64 0, .int .i64 2, .int .i64 5]) hF (by kernel_rfl) (fun _ => by kernel_rfl) (fun w hM => is_w 2 5 0 2 5 w)) (by kernel_rfl)) fun a w hF hM => ?_)
  refine sB 2 [(206, .bool true), (0, .bool true)] hF (by kernel_rfl) fun a hF => ?_
  refine wpList_nil ?_
  refine hK20 _ _ ?_
  refine wp_ret ?_
  refine hR0 _ _ ?_
  refine ret_of hF hM (.tmp rfl (.nil)) ?_
  exact ⟨rfl, hM.bel⟩

end Go.Proofs.YtboodcekjooehaaDoor
