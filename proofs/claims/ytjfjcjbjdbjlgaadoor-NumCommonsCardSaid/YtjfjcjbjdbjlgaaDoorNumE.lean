/-
  Numbers near the bounds.
-/
import Derived.Test.YtjfjcjbjdbjlgaaDoorNumD
import Derived.Test.YtjfjcjbjdbjlgaaDoorNumLaws
namespace Go.Proofs.YtjfjcjbjdbjlgaaDoor
open Go.RowKit
set_option linter.unusedVariables false
set_option linter.unusedSimpArgs false

theorem near_w (n u : Int) (w0 : World) (h : 0 ≤ u ∧ u < 256) :
    Calls Tryd.prog 11 #[.int .i64 n, .int .u8 u] w0 (Ret w0 (.int .i64 (nearV n u))) := by
  refine enterK 35 Tryd.func11 rfl rfl rfl ?_
  intro a hF Q0 hR0 hN0
  have hM := Mem.start w0
  refine wp_seq_k fun K1 hK1 => ?_
  refine wp_region_lit ?_
  refine sB 1 [(4, .int .i64 0)] hF (by kernel_rfl) fun a hF => ?_
  refine wpList_nil ?_
  refine hK1 _ _ ?_
  refine wp_seq_k fun K2 hK2 => ?_
  refine wp_region_lit ?_
  refine sB 1 [(6, .int .i64 n)] hF (by kernel_rfl) fun a hF => ?_
  refine wl (eP 7 (v0 := .int .u64 (IntKind.u64.wrap n)) (v := .int .u64 (n % 18446744073709551616)) hF (by kernel_rfl) (fun _ => by kernel_rfl) (vi (u64_wrap _)) fun a hF => ?_)
  refine wl (eM 8 (v := .int .u64 (n % 18446744073709551616 % 9)) hF hM (by kernel_rfl) (yld_rem (n % 18446744073709551616) 9 hF rfl (by kernel_rfl) (by kernel_rfl) (by kernel_rfl) (by decide) (Int.tmod_eq_emod_of_nonneg (by omega))) fun a w hF hM => ?_)
  refine wl (eP 9 (v0 := .int .i64 (IntKind.i64.wrap (n % 18446744073709551616 % 9))) (v := .int .i64 (n % 18446744073709551616 % 9)) hF (by kernel_rfl) (fun _ => by kernel_rfl) (vi (IntWalk.i64_in _ (by omega))) fun a hF => ?_)
  refine wl (eP 10 (v0 := .int .i64 (IntKind.i64.wrap (n % 18446744073709551616 % 9 - 4))) (v := .int .i64 (n % 18446744073709551616 % 9 - 4)) hF (by kernel_rfl) (fun _ => by kernel_rfl) (wi (by omega)) fun a hF => ?_)
  refine sB 1 [(5, .int .i64 (n % 18446744073709551616 % 9 - 4))] hF (by kernel_rfl) fun a hF => ?_
  refine wpList_nil ?_
  refine hK2 _ _ ?_
  refine wp_seq_k fun K3 hK3 => ?_
  refine wp_seq_k fun K4 hK4 => ?_
  refine wp_region_lit ?_
  refine sB 1 [(11, .int .u8 u)] hF (by kernel_rfl) fun a hF => ?_
  refine wl (eM 12 (v := .int .u8 (u % 6)) hF hM (by kernel_rfl) (yld_rem u 6 hF rfl (by kernel_rfl) (by kernel_rfl) (by kernel_rfl) (by decide) (Int.tmod_eq_emod_of_nonneg (by omega))) fun a w hF hM => ?_)
  refine wpList_nil ?_
  refine hK4 _ _ ?_
  refine wp_block ?_
  refine wp_seq_k fun K5 hK5 => ?_
  refine wp_region_lit ?_
  refine sB 2 [(14, .bool (decide (u % 6 = 0))), (13, .bool (decide (u % 6 = 0)))] hF (by kernel_rfl) fun a hF => ?_
  refine wpList_nil ?_
  refine hK5 _ _ ?_
  by_cases hz1 : u % 6 = 0
  · skip
    replace hF := hF.c hF (i := 13) (v := .bool true) rfl (bT hz1)
    replace hF := hF.c hF (i := 14) (v := .bool true) rfl (bT hz1)
    refine cT hF (by kernel_rfl) (by kernel_rfl) ?_
    refine wp_seq_k fun K6 hK6 => ?_
    refine wp_region_lit ?_
    refine sB 2 [(15, .int .i64 n), (4, .int .i64 n)] hF (by kernel_rfl) fun a hF => ?_
    refine wpList_nil ?_
    refine hK6 _ _ ?_
    refine wp_ret ?_
    refine hR0 _ _ ?_
    refine ret_of hF hM (.tmp rfl (.nil)) ?_
    exact ⟨ret_int (by unfold nearV; omega), hM.bel⟩
  · skip
    replace hF := hF.c hF (i := 13) (v := .bool false) rfl (bF hz1)
    replace hF := hF.c hF (i := 14) (v := .bool false) rfl (bF hz1)
    refine cF hF (by kernel_rfl) (by kernel_rfl) ?_
    refine wp_seq_k fun K7 hK7 => ?_
    refine wp_region_lit ?_
    refine sB 2 [(17, .bool (decide (u % 6 = 1))), (16, .bool (decide (u % 6 = 1)))] hF (by kernel_rfl) fun a hF => ?_
    refine wpList_nil ?_
    refine hK7 _ _ ?_
    by_cases hz2 : u % 6 = 1
    · skip
      replace hF := hF.c hF (i := 16) (v := .bool true) rfl (bT hz2)
      replace hF := hF.c hF (i := 17) (v := .bool true) rfl (bT hz2)
      refine cT hF (by kernel_rfl) (by kernel_rfl) ?_
      refine wp_seq_k fun K8 hK8 => ?_
      refine wp_region_lit ?_
      refine sB 2 [(18, .int .i64 (n % 18446744073709551616 % 9 - 4)), (4, .int .i64 (n % 18446744073709551616 % 9 - 4))] hF (by kernel_rfl) fun a hF => ?_
      refine wpList_nil ?_
      refine hK8 _ _ ?_
      refine wp_ret ?_
      refine hR0 _ _ ?_
      refine ret_of hF hM (.tmp rfl (.nil)) ?_
      exact ⟨ret_int (by unfold nearV; omega), hM.bel⟩
    · skip
      replace hF := hF.c hF (i := 16) (v := .bool false) rfl (bF hz2)
      replace hF := hF.c hF (i := 17) (v := .bool false) rfl (bF hz2)
      refine cF hF (by kernel_rfl) (by kernel_rfl) ?_
      refine wp_seq_k fun K9 hK9 => ?_
      refine wp_region_lit ?_
      refine sB 2 [(20, .bool (decide (u % 6 = 2))), (19, .bool (decide (u % 6 = 2)))] hF (by kernel_rfl) fun a hF => ?_
      refine wpList_nil ?_
      refine hK9 _ _ ?_
      by_cases hz3 : u % 6 = 2
      · skip
        replace hF := hF.c hF (i := 19) (v := .bool true) rfl (bT hz3)
        replace hF := hF.c hF (i := 20) (v := .bool true) rfl (bT hz3)
        refine cT hF (by kernel_rfl) (by kernel_rfl) ?_
        refine wp_seq_k fun K10 hK10 => ?_
        refine wp_region_lit ?_
        refine sB 1 [(21, .int .i64 (n % 18446744073709551616 % 9 - 4))] hF (by kernel_rfl) fun a hF => ?_
        refine wl (eP 22 (v0 := .int .i64 (IntKind.i64.wrap (1125899906842624 + (n % 18446744073709551616 % 9 - 4)))) (v := .int .i64 (1125899906842624 + (n % 18446744073709551616 % 9 - 4))) hF (by kernel_rfl) (fun _ => by kernel_rfl) (wi (by omega)) fun a hF => ?_)
        refine sB 1 [(4, .int .i64 (1125899906842624 + (n % 18446744073709551616 % 9 - 4)))] hF (by kernel_rfl) fun a hF => ?_
        refine wpList_nil ?_
        refine hK10 _ _ ?_
        refine wp_ret ?_
        refine hR0 _ _ ?_
        refine ret_of hF hM (.tmp rfl (.nil)) ?_
        exact ⟨ret_int (by unfold nearV; omega), hM.bel⟩
      · skip
        replace hF := hF.c hF (i := 19) (v := .bool false) rfl (bF hz3)
        replace hF := hF.c hF (i := 20) (v := .bool false) rfl (bF hz3)
        refine cF hF (by kernel_rfl) (by kernel_rfl) ?_
        refine wp_seq_k fun K11 hK11 => ?_
        refine wp_region_lit ?_
        refine sB 2 [(24, .bool (decide (u % 6 = 3))), (23, .bool (decide (u % 6 = 3)))] hF (by kernel_rfl) fun a hF => ?_
        refine wpList_nil ?_
        refine hK11 _ _ ?_
        by_cases hz4 : u % 6 = 3
        · skip
          replace hF := hF.c hF (i := 23) (v := .bool true) rfl (bT hz4)
          replace hF := hF.c hF (i := 24) (v := .bool true) rfl (bT hz4)
          refine cT hF (by kernel_rfl) (by kernel_rfl) ?_
          refine wp_seq_k fun K12 hK12 => ?_
          refine wp_region_lit ?_
          refine sB 1 [(25, .int .i64 (n % 18446744073709551616 % 9 - 4))] hF (by kernel_rfl) fun a hF => ?_
          refine wl (eP 26 (v0 := .int .i64 (IntKind.i64.wrap (-1125899906842624 + (n % 18446744073709551616 % 9 - 4)))) (v := .int .i64 (-1125899906842624 + (n % 18446744073709551616 % 9 - 4))) hF (by kernel_rfl) (fun _ => by kernel_rfl) (wi (by omega)) fun a hF => ?_)
          refine sB 1 [(4, .int .i64 (-1125899906842624 + (n % 18446744073709551616 % 9 - 4)))] hF (by kernel_rfl) fun a hF => ?_
          refine wpList_nil ?_
          refine hK12 _ _ ?_
          refine wp_ret ?_
          refine hR0 _ _ ?_
          refine ret_of hF hM (.tmp rfl (.nil)) ?_
          exact ⟨ret_int (by unfold nearV; omega), hM.bel⟩
        · skip
          replace hF := hF.c hF (i := 23) (v := .bool false) rfl (bF hz4)
          replace hF := hF.c hF (i := 24) (v := .bool false) rfl (bF hz4)
          refine cF hF (by kernel_rfl) (by kernel_rfl) ?_
          refine wp_seq_k fun K13 hK13 => ?_
          refine wp_region_lit ?_
          refine sB 2 [(28, .bool (decide (u % 6 = 4))), (27, .bool (decide (u % 6 = 4)))] hF (by kernel_rfl) fun a hF => ?_
          refine wpList_nil ?_
          refine hK13 _ _ ?_
          by_cases hz5 : u % 6 = 4
          · skip
            replace hF := hF.c hF (i := 27) (v := .bool true) rfl (bT hz5)
            replace hF := hF.c hF (i := 28) (v := .bool true) rfl (bT hz5)
            refine cT hF (by kernel_rfl) (by kernel_rfl) ?_
            refine wp_seq_k fun K14 hK14 => ?_
            refine wp_region_lit ?_
            refine sB 1 [(29, .int .i64 (n % 18446744073709551616 % 9 - 4))] hF (by kernel_rfl) fun a hF => ?_
            refine wl (eP 30 (v0 := .int .i64 (IntKind.i64.wrap (33554432 + (n % 18446744073709551616 % 9 - 4)))) (v := .int .i64 (33554432 + (n % 18446744073709551616 % 9 - 4))) hF (by kernel_rfl) (fun _ => by kernel_rfl) (wi (by omega)) fun a hF => ?_)
            refine sB 1 [(4, .int .i64 (33554432 + (n % 18446744073709551616 % 9 - 4)))] hF (by kernel_rfl) fun a hF => ?_
            refine wpList_nil ?_
            refine hK14 _ _ ?_
            refine wp_ret ?_
            refine hR0 _ _ ?_
            refine ret_of hF hM (.tmp rfl (.nil)) ?_
            exact ⟨ret_int (by unfold nearV; omega), hM.bel⟩
          · skip
            replace hF := hF.c hF (i := 27) (v := .bool false) rfl (bF hz5)
            replace hF := hF.c hF (i := 28) (v := .bool false) rfl (bF hz5)
            refine cF hF (by kernel_rfl) (by kernel_rfl) ?_
            refine wp_skip ?_
            refine hK3 _ _ ?_
            refine wp_seq_k fun K15 hK15 => ?_
            refine wp_region_lit ?_
            refine sB 1 [(31, .int .i64 n)] hF (by kernel_rfl) fun a hF => ?_
            refine wl (eP 32 (v0 := .int .u64 (IntKind.u64.wrap n)) (v := .int .u64 (n % 18446744073709551616)) hF (by kernel_rfl) (fun _ => by kernel_rfl) (vi (u64_wrap _)) fun a hF => ?_)
            refine wl (eM 33 (v := .int .u64 (n % 18446744073709551616 % 2251799813685248)) hF hM (by kernel_rfl) (yld_rem (n % 18446744073709551616) 2251799813685248 hF rfl (by kernel_rfl) (by kernel_rfl) (by kernel_rfl) (by decide) (Int.tmod_eq_emod_of_nonneg (by omega))) fun a w hF hM => ?_)
            refine wl (eP 34 (v0 := .int .i64 (IntKind.i64.wrap (n % 18446744073709551616 % 2251799813685248))) (v := .int .i64 (n % 18446744073709551616 % 2251799813685248)) hF (by kernel_rfl) (fun _ => by kernel_rfl) (vi (IntWalk.i64_in _ (by omega))) fun a hF => ?_)
            refine sB 1 [(4, .int .i64 (n % 18446744073709551616 % 2251799813685248))] hF (by kernel_rfl) fun a hF => ?_
            refine wpList_nil ?_
            refine hK15 _ _ ?_
            refine wp_ret ?_
            refine hR0 _ _ ?_
            refine ret_of hF hM (.tmp rfl (.nil)) ?_
            exact ⟨ret_int (by unfold nearV; omega), hM.bel⟩

end Go.Proofs.YtjfjcjbjdbjlgaaDoor
