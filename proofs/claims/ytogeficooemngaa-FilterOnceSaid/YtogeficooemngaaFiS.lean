/-
  The item of a frame.
-/
import Derived.Test.YtogeficooemngaaFiR
import Derived.Test.YtogeficooemngaaRec3
namespace Go.Proofs.Ytogeficooemngaa
open Go.RowKit
set_option linter.unusedVariables false
set_option linter.unusedSimpArgs false

theorem item_w (x0 x1 x2 x3 x4 : Int) (w0 : World) (h : 0 ≤ x2 ∧ x2 ≤ 255 ∧ 0 ≤ x3 ∧ x3 ≤ 255 ∧ 0 ≤ x4 ∧ x4 ≤ 255) :
    Calls Try.prog 22 #[.agg #[.int .u16 x0, .int .u8 x1, .int .u8 x2, .int .u8 x3, .int .u8 x4]] w0 (Ret w0 (.agg #[.int .i64 (x2 % 4), .int .i64 0, .int .i64 (x3 % 8), .int .i64 (84 + x4 % 4), .int .i64 0])) := by
 refine enterK 17 Try.func22 rfl rfl rfl ?_
 intro a hF Q0 hR0 hN0
 have hM := Mem.start w0
 refine wp_seq_k fun K1 hK1 => ?_
 refine wp_region_lit ?_
 refine wl (eN 1 1 (t := 54) (fun b => .pointer (some ⟨b, 0, none⟩)) #[.int .u16 x0, .int .u8 x1, .int .u8 x2, .int .u8 x3, .int .u8 x4] hF hM (by kernel_rfl) (fun _ => by kernel_rfl) fun bb1 a w hF hM => ?_)
 refine wl (eN 2 2 (t := 39) (fun b => .pointer (some ⟨b, 0, none⟩)) #[.int .i64 0, .int .i64 0, .int .i64 0, .int .i64 0, .int .i64 0] hF hM (by kernel_rfl) (fun _ => by kernel_rfl) fun bb2 a w hF hM => ?_)
 refine wpList_nil ?_
 refine hK1 _ _ ?_
 refine wp_seq_k fun K2 hK2 => ?_
 refine wp_region_lit ?_
 refine sB 1 [(3, .pointer (some ⟨bb1, 2, none⟩))] hF (by kernel_rfl) fun a hF => ?_
 refine wl (eL 4 1 2 (v := .int .u8 x2) hF hM (by kernel_rfl) rfl rfl (by kernel_rfl) (by kernel_rfl) fun a w hF hM => ?_)
 refine wl (eM 5 (v := .int .u8 (x2 % 4)) hF hM (by kernel_rfl) (yld_rem x2 4 hF rfl (by kernel_rfl) (by kernel_rfl) (by kernel_rfl) (by decide) (Int.tmod_eq_emod_of_nonneg (by omega))) fun a w hF hM => ?_)
 refine wl (eP 6 (v0 := .int .i64 (IntKind.i64.wrap (x2 % 4))) (v := .int .i64 (x2 % 4)) hF (by kernel_rfl) (fun _ => by kernel_rfl) (vi (IntWalk.i64_in _ (by omega))) fun a hF => ?_)
 refine sB 1 [(7, .pointer (some ⟨bb1, 3, none⟩))] hF (by kernel_rfl) fun a hF => ?_
 refine wl (eL 8 1 3 (v := .int .u8 x3) hF hM (by kernel_rfl) rfl rfl (by kernel_rfl) (by kernel_rfl) fun a w hF hM => ?_)
 refine wl (eM 9 (v := .int .u8 (x3 % 8)) hF hM (by kernel_rfl) (yld_rem x3 8 hF rfl (by kernel_rfl) (by kernel_rfl) (by kernel_rfl) (by decide) (Int.tmod_eq_emod_of_nonneg (by omega))) fun a w hF hM => ?_)
 refine wl (eP 10 (v0 := .int .i64 (IntKind.i64.wrap (x3 % 8))) (v := .int .i64 (x3 % 8)) hF (by kernel_rfl) (fun _ => by kernel_rfl) (vi (IntWalk.i64_in _ (by omega))) fun a hF => ?_)
 refine sB 1 [(11, .pointer (some ⟨bb1, 4, none⟩))] hF (by kernel_rfl) fun a hF => ?_
 refine wl (eL 12 1 4 (v := .int .u8 x4) hF hM (by kernel_rfl) rfl rfl (by kernel_rfl) (by kernel_rfl) fun a w hF hM => ?_)
 refine wl (eM 13 (v := .int .u8 (x4 % 4)) hF hM (by kernel_rfl) (yld_rem x4 4 hF rfl (by kernel_rfl) (by kernel_rfl) (by kernel_rfl) (by decide) (Int.tmod_eq_emod_of_nonneg (by omega))) fun a w hF hM => ?_)
 refine wl (eP 14 (v0 := .int .i64 (IntKind.i64.wrap (x4 % 4))) (v := .int .i64 (x4 % 4)) hF (by kernel_rfl) (fun _ => by kernel_rfl) (vi (IntWalk.i64_in _ (by omega))) fun a hF => ?_)
 refine wl (eP 15 (v0 := .int .i64 (IntKind.i64.wrap (84 + x4 % 4))) (v := .int .i64 (84 + x4 % 4)) hF (by kernel_rfl) (fun _ => by kernel_rfl) (wi (by omega)) fun a hF => ?_)
 refine wl (eM 16 (v := .agg #[.int .i64 (x2 % 4), .int .i64 0, .int .i64 (x3 % 8), .int .i64 (84 + x4 % 4), .int .i64 0]) hF hM (by kernel_rfl) (yld_call (f := 25) (args := #[.int .i64 (x2 % 4), .int .i64 (x3 % 8), .int .i64 (84 + x4 % 4)]) hF (by kernel_rfl) (fun _ => by kernel_rfl) (fun w hM => frame_w (x2 % 4) (x3 % 8) (84 + x4 % 4) w)) fun a w hF hM => ?_)
 refine wl (sStore (i := 2) (off := 0) (cs' := #[.int .i64 (x2 % 4), .int .i64 0, .int .i64 (x3 % 8), .int .i64 (84 + x4 % 4), .int .i64 0]) hF hM (by kernel_rfl) rfl rfl (by kernel_rfl) (by kernel_rfl) rfl (by kernel_rfl) fun w hM => ?_)
 refine wpList_nil ?_
 refine hK2 _ _ ?_
 refine wp_ret ?_
 refine hR0 _ _ ?_
 refine ret_of hF hM (.cell (i := 2) rfl rfl (v := .agg #[.int .i64 (x2 % 4), .int .i64 0, .int .i64 (x3 % 8), .int .i64 (84 + x4 % 4), .int .i64 0]) (by kernel_rfl) (.nil)) ?_
 exact ⟨rfl, hM.bel⟩

end Go.Proofs.Ytogeficooemngaa
