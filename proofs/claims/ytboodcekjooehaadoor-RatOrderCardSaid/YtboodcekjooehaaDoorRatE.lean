/-
  Fractions for any two integers.
-/
import Derived.Test.YtboodcekjooehaaDoorRatD
namespace Go.Proofs.YtboodcekjooehaaDoor
open Go.RowKit
set_option linter.unusedVariables false
set_option linter.unusedSimpArgs false

def ofN (n d : Int) : Int := if d % 18446744073709551616 % 7 = 0 then (if rmE (n.tmod 2147483648) (1 + d % 18446744073709551616 % 1073741824) = 0 then rmN (n.tmod 2147483648) (1 + d % 18446744073709551616 % 1073741824) else 1) else (if rmE (n.tmod 4096) (1 + d % 18446744073709551616 % 64) = 0 then rmN (n.tmod 4096) (1 + d % 18446744073709551616 % 64) else 1)
def ofD (n d : Int) : Int := if d % 18446744073709551616 % 7 = 0 then (if rmE (n.tmod 2147483648) (1 + d % 18446744073709551616 % 1073741824) = 0 then rmD (n.tmod 2147483648) (1 + d % 18446744073709551616 % 1073741824) else 2) else (if rmE (n.tmod 4096) (1 + d % 18446744073709551616 % 64) = 0 then rmD (n.tmod 4096) (1 + d % 18446744073709551616 % 64) else 2)
theorem ratOf_w (n d : Int) (w0 : World) :
    Calls Tryd.prog 42 #[.int .i64 n, .int .i64 d] w0 (Ret w0 (.agg #[.int .i64 (ofN n d), .int .i64 (ofD n d)])) := by
  refine enterK 37 Tryd.func42 rfl rfl rfl ?_
  intro a hF Q0 hR0 hN0
  have hM := Mem.start w0
  refine wp_seq_k fun K1 hK1 => ?_
  refine wp_region_lit ?_
  refine wl (eN 4 1 (t := 23) (fun b => .pointer (some ⟨b, 0, none⟩)) #[.int .i64 0, .int .i64 0] hF hM (by kernel_rfl) (fun _ => by kernel_rfl) fun bb1 a w hF hM => ?_)
  refine wpList_nil ?_
  refine hK1 _ _ ?_
  refine wp_seq_k fun K2 hK2 => ?_
  refine wp_region_lit ?_
  refine sB 1 [(8, .int .i64 n)] hF (by kernel_rfl) fun a hF => ?_
  refine wl (eM 9 (v := .int .i64 (n.tmod 4096)) hF hM (by kernel_rfl) (yld_rem n 4096 hF rfl (by kernel_rfl) (by kernel_rfl) (by kernel_rfl) (by decide) rfl) fun a w hF hM => ?_)
  refine sB 1 [(10, .int .i64 d)] hF (by kernel_rfl) fun a hF => ?_
  refine wl (eP 11 (v0 := .int .u64 (IntKind.u64.wrap d)) (v := .int .u64 (d % 18446744073709551616)) hF (by kernel_rfl) (fun _ => by kernel_rfl) (vi (u64_wrap _)) fun a hF => ?_)
  refine wl (eM 12 (v := .int .u64 (d % 18446744073709551616 % 64)) hF hM (by kernel_rfl) (yld_rem (d % 18446744073709551616) 64 hF rfl (by kernel_rfl) (by kernel_rfl) (by kernel_rfl) (by decide) (Int.tmod_eq_emod_of_nonneg (by omega))) fun a w hF hM => ?_)
  refine wl (eP 13 (v0 := .int .i64 (IntKind.i64.wrap (d % 18446744073709551616 % 64))) (v := .int .i64 (d % 18446744073709551616 % 64)) hF (by kernel_rfl) (fun _ => by kernel_rfl) (vi (IntWalk.i64_in _ (by omega))) fun a hF => ?_)
  refine wl (eP 14 (v0 := .int .i64 (IntKind.i64.wrap (1 + d % 18446744073709551616 % 64))) (v := .int .i64 (1 + d % 18446744073709551616 % 64)) hF (by kernel_rfl) (fun _ => by kernel_rfl) (wi (by omega)) fun a hF => ?_)
  refine wl (eM 15 (v := .tuple #[.agg #[.int .i64 (rmN (n.tmod 4096) (1 + d % 18446744073709551616 % 64)), .int .i64 (rmD (n.tmod 4096) (1 + d % 18446744073709551616 % 64))], .int .i64 (rmE (n.tmod 4096) (1 + d % 18446744073709551616 % 64))]) hF hM (by kernel_rfl) (yld_call (f := 11) (args := #[.int .i64 (n.tmod 4096), .int .i64 (1 + d % 18446744073709551616 % 64)]) hF (by kernel_rfl) (fun _ => by kernel_rfl) (fun w hM => raMakeR_w (n.tmod 4096) (1 + d % 18446744073709551616 % 64) w)) fun a w hF hM => ?_)
  refine sB 3 [(7, .tuple #[.agg #[.int .i64 (rmN (n.tmod 4096) (1 + d % 18446744073709551616 % 64)), .int .i64 (rmD (n.tmod 4096) (1 + d % 18446744073709551616 % 64))], .int .i64 (rmE (n.tmod 4096) (1 + d % 18446744073709551616 % 64))]), (16, .agg #[.int .i64 (rmN (n.tmod 4096) (1 + d % 18446744073709551616 % 64)), .int .i64 (rmD (n.tmod 4096) (1 + d % 18446744073709551616 % 64))]), (17, .int .i64 (rmE (n.tmod 4096) (1 + d % 18446744073709551616 % 64)))] hF (by kernel_rfl) fun a hF => ?_
  refine wl (eN 5 2 (t := 23) (fun b => .pointer (some ⟨b, 0, none⟩)) #[.int .i64 0, .int .i64 0] hF hM (by kernel_rfl) (fun _ => by kernel_rfl) fun bb2 a w hF hM => ?_)
  refine wl (sStore (i := 2) (off := 0) (cs' := #[.int .i64 (rmN (n.tmod 4096) (1 + d % 18446744073709551616 % 64)), .int .i64 (rmD (n.tmod 4096) (1 + d % 18446744073709551616 % 64))]) hF hM (by kernel_rfl) rfl rfl (by kernel_rfl) (by kernel_rfl) rfl (by kernel_rfl) fun w hM => ?_)
  refine sB 1 [(6, .int .i64 (rmE (n.tmod 4096) (1 + d % 18446744073709551616 % 64)))] hF (by kernel_rfl) fun a hF => ?_
  refine wpList_nil ?_
  refine hK2 _ _ ?_
  refine wp_seq_k fun K3 hK3 => ?_
  refine wp_seq_k fun K4 hK4 => ?_
  refine wp_region_lit ?_
  refine sB 1 [(18, .int .i64 d)] hF (by kernel_rfl) fun a hF => ?_
  refine wl (eP 19 (v0 := .int .u64 (IntKind.u64.wrap d)) (v := .int .u64 (d % 18446744073709551616)) hF (by kernel_rfl) (fun _ => by kernel_rfl) (vi (u64_wrap _)) fun a hF => ?_)
  refine wl (eM 20 (v := .int .u64 (d % 18446744073709551616 % 7)) hF hM (by kernel_rfl) (yld_rem (d % 18446744073709551616) 7 hF rfl (by kernel_rfl) (by kernel_rfl) (by kernel_rfl) (by decide) (Int.tmod_eq_emod_of_nonneg (by omega))) fun a w hF hM => ?_)
  refine sB 1 [(21, .bool (decide (d % 18446744073709551616 % 7 = 0)))] hF (by kernel_rfl) fun a hF => ?_
  refine wpList_nil ?_
  refine hK4 _ _ ?_
  by_cases hz1 : d % 18446744073709551616 % 7 = 0
  · skip
    replace hF := hF.c hF (i := 21) (v := .bool true) rfl (bT hz1)
    refine cT hF (by kernel_rfl) (by kernel_rfl) ?_
    refine wp_region_lit ?_
    refine sB 1 [(23, .int .i64 n)] hF (by kernel_rfl) fun a hF => ?_
    refine wl (eM 24 (v := .int .i64 (n.tmod 2147483648)) hF hM (by kernel_rfl) (yld_rem n 2147483648 hF rfl (by kernel_rfl) (by kernel_rfl) (by kernel_rfl) (by decide) rfl) fun a w hF hM => ?_)
    refine sB 1 [(25, .int .i64 d)] hF (by kernel_rfl) fun a hF => ?_
    refine wl (eP 26 (v0 := .int .u64 (IntKind.u64.wrap d)) (v := .int .u64 (d % 18446744073709551616)) hF (by kernel_rfl) (fun _ => by kernel_rfl) (vi (u64_wrap _)) fun a hF => ?_)
    refine wl (eM 27 (v := .int .u64 (d % 18446744073709551616 % 1073741824)) hF hM (by kernel_rfl) (yld_rem (d % 18446744073709551616) 1073741824 hF rfl (by kernel_rfl) (by kernel_rfl) (by kernel_rfl) (by decide) (Int.tmod_eq_emod_of_nonneg (by omega))) fun a w hF hM => ?_)
    refine wl (eP 28 (v0 := .int .i64 (IntKind.i64.wrap (d % 18446744073709551616 % 1073741824))) (v := .int .i64 (d % 18446744073709551616 % 1073741824)) hF (by kernel_rfl) (fun _ => by kernel_rfl) (vi (IntWalk.i64_in _ (by omega))) fun a hF => ?_)
    refine wl (eP 29 (v0 := .int .i64 (IntKind.i64.wrap (1 + d % 18446744073709551616 % 1073741824))) (v := .int .i64 (1 + d % 18446744073709551616 % 1073741824)) hF (by kernel_rfl) (fun _ => by kernel_rfl) (wi (by omega)) fun a hF => ?_)
    refine wl (eM 30 (v := .tuple #[.agg #[.int .i64 (rmN (n.tmod 2147483648) (1 + d % 18446744073709551616 % 1073741824)), .int .i64 (rmD (n.tmod 2147483648) (1 + d % 18446744073709551616 % 1073741824))], .int .i64 (rmE (n.tmod 2147483648) (1 + d % 18446744073709551616 % 1073741824))]) hF hM (by kernel_rfl) (yld_call (f := 11) (args := #[.int .i64 (n.tmod 2147483648), .int .i64 (1 + d % 18446744073709551616 % 1073741824)]) hF (by kernel_rfl) (fun _ => by kernel_rfl) (fun w hM => raMakeR_w (n.tmod 2147483648) (1 + d % 18446744073709551616 % 1073741824) w)) fun a w hF hM => ?_)
    refine sB 3 [(22, .tuple #[.agg #[.int .i64 (rmN (n.tmod 2147483648) (1 + d % 18446744073709551616 % 1073741824)), .int .i64 (rmD (n.tmod 2147483648) (1 + d % 18446744073709551616 % 1073741824))], .int .i64 (rmE (n.tmod 2147483648) (1 + d % 18446744073709551616 % 1073741824))]), (31, .agg #[.int .i64 (rmN (n.tmod 2147483648) (1 + d % 18446744073709551616 % 1073741824)), .int .i64 (rmD (n.tmod 2147483648) (1 + d % 18446744073709551616 % 1073741824))]), (32, .int .i64 (rmE (n.tmod 2147483648) (1 + d % 18446744073709551616 % 1073741824)))] hF (by kernel_rfl) fun a hF => ?_
    refine wl (sStore (i := 2) (off := 0) (cs' := #[.int .i64 (rmN (n.tmod 2147483648) (1 + d % 18446744073709551616 % 1073741824)), .int .i64 (rmD (n.tmod 2147483648) (1 + d % 18446744073709551616 % 1073741824))]) hF hM (by kernel_rfl) rfl rfl (by kernel_rfl) (by kernel_rfl) rfl (by kernel_rfl) fun w hM => ?_)
    refine sB 1 [(6, .int .i64 (rmE (n.tmod 2147483648) (1 + d % 18446744073709551616 % 1073741824)))] hF (by kernel_rfl) fun a hF => ?_
    refine wpList_nil ?_
    refine hK3 _ _ ?_
    refine wp_seq_k fun K5 hK5 => ?_
    refine wp_seq_k fun K6 hK6 => ?_
    refine wp_region_lit ?_
    refine sB 2 [(33, .int .i64 (rmE (n.tmod 2147483648) (1 + d % 18446744073709551616 % 1073741824))), (34, .bool (!decide (rmE (n.tmod 2147483648) (1 + d % 18446744073709551616 % 1073741824) = 0)))] hF (by kernel_rfl) fun a hF => ?_
    refine wpList_nil ?_
    refine hK6 _ _ ?_
    by_cases hz2 : rmE (n.tmod 2147483648) (1 + d % 18446744073709551616 % 1073741824) = 0
    · skip
      replace hF := hF.c hF (i := 34) (v := .bool false) rfl (nT hz2)
      refine cF hF (by kernel_rfl) (by kernel_rfl) ?_
      refine wp_skip ?_
      refine hK5 _ _ ?_
      refine wp_seq_k fun K7 hK7 => ?_
      refine wp_region_lit ?_
      refine wl (eL 36 2 0 (v := .agg #[.int .i64 (rmN (n.tmod 2147483648) (1 + d % 18446744073709551616 % 1073741824)), .int .i64 (rmD (n.tmod 2147483648) (1 + d % 18446744073709551616 % 1073741824))]) hF hM (by kernel_rfl) rfl rfl (by kernel_rfl) (by kernel_rfl) fun a w hF hM => ?_)
      refine wl (sStore (i := 1) (off := 0) (cs' := #[.int .i64 (rmN (n.tmod 2147483648) (1 + d % 18446744073709551616 % 1073741824)), .int .i64 (rmD (n.tmod 2147483648) (1 + d % 18446744073709551616 % 1073741824))]) hF hM (by kernel_rfl) rfl rfl (by kernel_rfl) (by kernel_rfl) rfl (by kernel_rfl) fun w hM => ?_)
      refine wpList_nil ?_
      refine hK7 _ _ ?_
      refine wp_ret ?_
      refine hR0 _ _ ?_
      refine ret_of hF hM (.cell (i := 1) rfl rfl (v := .agg #[.int .i64 (rmN (n.tmod 2147483648) (1 + d % 18446744073709551616 % 1073741824)), .int .i64 (rmD (n.tmod 2147483648) (1 + d % 18446744073709551616 % 1073741824))]) (by kernel_rfl) (.nil)) ?_
      exact ⟨ret_eq (by unfold ofN ofD; rw [if_pos hz1, if_pos hz1, if_pos hz2, if_pos hz2]; rfl), hM.bel⟩
    · skip
      replace hF := hF.c hF (i := 34) (v := .bool true) rfl (nF hz2)
      refine cT hF (by kernel_rfl) (by kernel_rfl) ?_
      refine wp_seq_k fun K8 hK8 => ?_
      refine wp_region_lit ?_
      refine sB 1 [(35, .agg #[.int .i64 1, .int .i64 2])] hF (by kernel_rfl) fun a hF => ?_
      refine wl (sStore (i := 1) (off := 0) (cs' := #[.int .i64 1, .int .i64 2]) hF hM (by kernel_rfl) rfl rfl (by kernel_rfl) (by kernel_rfl) rfl (by kernel_rfl) fun w hM => ?_)
      refine wpList_nil ?_
      refine hK8 _ _ ?_
      refine wp_ret ?_
      refine hR0 _ _ ?_
      refine ret_of hF hM (.cell (i := 1) rfl rfl (v := .agg #[.int .i64 1, .int .i64 2]) (by kernel_rfl) (.nil)) ?_
      exact ⟨ret_eq (by unfold ofN ofD; rw [if_pos hz1, if_pos hz1, if_neg hz2, if_neg hz2]; rfl), hM.bel⟩
  · skip
    replace hF := hF.c hF (i := 21) (v := .bool false) rfl (bF hz1)
    refine cF hF (by kernel_rfl) (by kernel_rfl) ?_
    refine wp_skip ?_
    refine hK3 _ _ ?_
    refine wp_seq_k fun K9 hK9 => ?_
    refine wp_seq_k fun K10 hK10 => ?_
    refine wp_region_lit ?_
    refine sB 2 [(33, .int .i64 (rmE (n.tmod 4096) (1 + d % 18446744073709551616 % 64))), (34, .bool (!decide (rmE (n.tmod 4096) (1 + d % 18446744073709551616 % 64) = 0)))] hF (by kernel_rfl) fun a hF => ?_
    refine wpList_nil ?_
    refine hK10 _ _ ?_
    by_cases hz3 : rmE (n.tmod 4096) (1 + d % 18446744073709551616 % 64) = 0
    · skip
      replace hF := hF.c hF (i := 34) (v := .bool false) rfl (nT hz3)
      refine cF hF (by kernel_rfl) (by kernel_rfl) ?_
      refine wp_skip ?_
      refine hK9 _ _ ?_
      refine wp_seq_k fun K11 hK11 => ?_
      refine wp_region_lit ?_
      refine wl (eL 36 2 0 (v := .agg #[.int .i64 (rmN (n.tmod 4096) (1 + d % 18446744073709551616 % 64)), .int .i64 (rmD (n.tmod 4096) (1 + d % 18446744073709551616 % 64))]) hF hM (by kernel_rfl) rfl rfl (by kernel_rfl) (by kernel_rfl) fun a w hF hM => ?_)
      refine wl (sStore (i := 1) (off := 0) (cs' := #[.int .i64 (rmN (n.tmod 4096) (1 + d % 18446744073709551616 % 64)), .int .i64 (rmD (n.tmod 4096) (1 + d % 18446744073709551616 % 64))]) hF hM (by kernel_rfl) rfl rfl (by kernel_rfl) (by kernel_rfl) rfl (by kernel_rfl) fun w hM => ?_)
      refine wpList_nil ?_
      refine hK11 _ _ ?_
      refine wp_ret ?_
      refine hR0 _ _ ?_
      refine ret_of hF hM (.cell (i := 1) rfl rfl (v := .agg #[.int .i64 (rmN (n.tmod 4096) (1 + d % 18446744073709551616 % 64)), .int .i64 (rmD (n.tmod 4096) (1 + d % 18446744073709551616 % 64))]) (by kernel_rfl) (.nil)) ?_
      exact ⟨ret_eq (by unfold ofN ofD; rw [if_neg hz1, if_neg hz1, if_pos hz3, if_pos hz3]; rfl), hM.bel⟩
    · skip
      replace hF := hF.c hF (i := 34) (v := .bool true) rfl (nF hz3)
      refine cT hF (by kernel_rfl) (by kernel_rfl) ?_
      refine wp_seq_k fun K12 hK12 => ?_
      refine wp_region_lit ?_
      refine sB 1 [(35, .agg #[.int .i64 1, .int .i64 2])] hF (by kernel_rfl) fun a hF => ?_
      refine wl (sStore (i := 1) (off := 0) (cs' := #[.int .i64 1, .int .i64 2]) hF hM (by kernel_rfl) rfl rfl (by kernel_rfl) (by kernel_rfl) rfl (by kernel_rfl) fun w hM => ?_)
      refine wpList_nil ?_
      refine hK12 _ _ ?_
      refine wp_ret ?_
      refine hR0 _ _ ?_
      refine ret_of hF hM (.cell (i := 1) rfl rfl (v := .agg #[.int .i64 1, .int .i64 2]) (by kernel_rfl) (.nil)) ?_
      exact ⟨ret_eq (by unfold ofN ofD; rw [if_neg hz1, if_neg hz1, if_neg hz3, if_neg hz3]; rfl), hM.bel⟩

theorem pairs_w (an ad bn bd : Int) (w0 : World) :
    Calls Tryd.prog 15 #[.agg #[.int .i64 an, .int .i64 ad], .agg #[.int .i64 bn, .int .i64 bd]] w0 (Ret w0 (.agg #[.int .i64 an, .int .i64 ad, .int .i64 bn, .int .i64 bd, .int .i64 (ofN an ad), .int .i64 (ofD an ad), .int .i64 (ofN bn bd), .int .i64 (ofD bn bd), .int .i64 an, .int .i64 ad, .int .i64 (ofN bn bd), .int .i64 (ofD bn bd), .int .i64 (ofN an ad), .int .i64 (ofD an ad), .int .i64 (ofN an ad), .int .i64 (ofD an ad)])) := by
  refine enterK 30 Tryd.func15 rfl rfl rfl ?_
  intro a hF Q0 hR0 hN0
  have hM := Mem.start w0
  refine wp_seq_k fun K1 hK1 => ?_
  refine wp_region_lit ?_
  refine wl (eN 2 1 (t := 23) (fun b => .pointer (some ⟨b, 0, none⟩)) #[.int .i64 an, .int .i64 ad] hF hM (by kernel_rfl) (fun _ => by kernel_rfl) fun bb1 a w hF hM => ?_)
  refine wl (eN 3 2 (t := 23) (fun b => .pointer (some ⟨b, 0, none⟩)) #[.int .i64 bn, .int .i64 bd] hF hM (by kernel_rfl) (fun _ => by kernel_rfl) fun bb2 a w hF hM => ?_)
  refine wl (eN 4 3 (t := 34) (fun b => .pointer (some ⟨b, 0, none⟩)) #[.int .i64 0, .int .i64 0, .int .i64 0, .int .i64 0, .int .i64 0, .int .i64 0, .int .i64 0, .int .i64 0, .int .i64 0, .int .i64 0, .int .i64 0, .int .i64 0, .int .i64 0, .int .i64 0, .int .i64 0, .int .i64 0] hF hM (by kernel_rfl) (fun _ => by kernel_rfl) fun bb3 a w hF hM => ?_)
  refine wpList_nil ?_
  refine hK1 _ _ ?_
  refine wp_seq_k fun K2 hK2 => ?_
  refine rF (by kernel_rfl) (by kernel_rfl) (fun S a w => ∃ bb4 : Nat, ∃ bb5 : Nat, Fr 30 [(2, some (.pointer (some ⟨bb1, 0, none⟩))), (3, some (.pointer (some ⟨bb2, 0, none⟩))), (4, some (.pointer (some ⟨bb3, 0, none⟩))), (5, (cond (S.getD 10 false) (some (.pointer (some ⟨bb4, 0, none⟩))) none)), (6, (cond (S.getD 11 false) (some (.pointer (some ⟨bb5, 0, none⟩))) none)), (7, (cond (S.getD 0 false) (some (.pointer (some ⟨bb1, 0, none⟩))) none)), (8, (cond (S.getD 1 false) (some (.int .i64 an)) none)), (9, (cond (S.getD 2 false) (some (.pointer (some ⟨bb1, 1, none⟩))) none)), (10, (cond (S.getD 3 false) (some (.int .i64 ad)) none)), (11, (cond (S.getD 4 false) (some (.agg #[.int .i64 (ofN an ad), .int .i64 (ofD an ad)])) none)), (12, (cond (S.getD 5 false) (some (.pointer (some ⟨bb2, 0, none⟩))) none)), (13, (cond (S.getD 6 false) (some (.int .i64 bn)) none)), (14, (cond (S.getD 7 false) (some (.pointer (some ⟨bb2, 1, none⟩))) none)), (15, (cond (S.getD 8 false) (some (.int .i64 bd)) none)), (16, (cond (S.getD 9 false) (some (.agg #[.int .i64 (ofN bn bd), .int .i64 (ofD bn bd)])) none))] a ∧ Mem w0.heap.size w0 [(1, some (.row bb1 23 #[.int .i64 an, .int .i64 ad])), (2, some (.row bb2 23 #[.int .i64 bn, .int .i64 bd])), (3, some (.row bb3 34 #[.int .i64 0, .int .i64 0, .int .i64 0, .int .i64 0, .int .i64 0, .int .i64 0, .int .i64 0, .int .i64 0, .int .i64 0, .int .i64 0, .int .i64 0, .int .i64 0, .int .i64 0, .int .i64 0, .int .i64 0, .int .i64 0])), (4, (cond (S.getD 12 false) (some (.row bb4 23 #[.int .i64 (ofN an ad), .int .i64 (ofD an ad)])) (cond (S.getD 10 false) (some (.row bb4 23 #[.int .i64 0, .int .i64 0])) none))), (5, (cond (S.getD 13 false) (some (.row bb5 23 #[.int .i64 (ofN bn bd), .int .i64 (ofD bn bd)])) (cond (S.getD 11 false) (some (.row bb5 23 #[.int .i64 0, .int .i64 0])) none)))] w) ?_ ?_ ?_
  · exact ⟨0, 0, ((((((((((((((((Fr.nil hF).co hF (i := 16) (by kernel_rfl)).co hF (i := 15) (by kernel_rfl)).co hF (i := 14) (by kernel_rfl)).co hF (i := 13) (by kernel_rfl)).co hF (i := 12) (by kernel_rfl)).co hF (i := 11) (by kernel_rfl)).co hF (i := 10) (by kernel_rfl)).co hF (i := 9) (by kernel_rfl)).co hF (i := 8) (by kernel_rfl)).co hF (i := 7) (by kernel_rfl)).co hF (i := 6) (by kernel_rfl)).co hF (i := 5) (by kernel_rfl)).co hF (i := 4) (by kernel_rfl)).co hF (i := 3) (by kernel_rfl)).co hF (i := 2) (by kernel_rfl)), hM.drew.sub (((((Sub.nil.co (k := 5) (by kernel_rfl)).co (k := 4) (by kernel_rfl)).co (k := 3) (by kernel_rfl)).co (k := 2) (by kernel_rfl)).co (k := 1) (by kernel_rfl))⟩
  · refine stC ?_ (stC ?_ (stC ?_ (stC ?_ (stC ?_ (stC ?_ (stC ?_ (stC ?_ (stC ?_ (stC ?_ (stC ?_ (stC ?_ (stC ?_ (stC ?_ (trivial))))))))))))))
    · intro s0 s1 s2 s3 s4 s5 s6 s7 s8 s9 s10 s11 s12 s13 hc hi hp a w hS
      obtain rfl : s0 = false := hi
      obtain ⟨bb4, bb5, hF, hM⟩ := hS
      refine eP 7 (v0 := .pointer (some ⟨bb1, 0, none⟩)) (v := .pointer (some ⟨bb1, 0, none⟩)) hF (by kernel_rfl) (fun _ => by kernel_rfl) rfl fun a hF => ?_
      exact ⟨bb4, bb5, ((hF.repl 5 (by kernel_rfl)).cast (by kernel_rfl)), (hM.cast (by kernel_rfl))⟩
    · intro s0 s1 s2 s3 s4 s5 s6 s7 s8 s9 s10 s11 s12 s13 hc hi hp a w hS
      obtain rfl : s1 = false := hi
      obtain rfl : s0 = true := hp 0 (by kernel_rfl)
      obtain ⟨bb4, bb5, hF, hM⟩ := hS
      refine eL 8 1 0 (v := .int .i64 an) hF hM (by kernel_rfl) rfl rfl (by kernel_rfl) (by kernel_rfl) fun a w hF hM => ?_
      exact ⟨bb4, bb5, ((hF.repl 6 (by kernel_rfl)).cast (by kernel_rfl)), (hM.cast (by kernel_rfl))⟩
    · intro s0 s1 s2 s3 s4 s5 s6 s7 s8 s9 s10 s11 s12 s13 hc hi hp a w hS
      obtain rfl : s2 = false := hi
      obtain ⟨bb4, bb5, hF, hM⟩ := hS
      refine eP 9 (v0 := .pointer (some ⟨bb1, 1, none⟩)) (v := .pointer (some ⟨bb1, 1, none⟩)) hF (by kernel_rfl) (fun _ => by kernel_rfl) rfl fun a hF => ?_
      exact ⟨bb4, bb5, ((hF.repl 7 (by kernel_rfl)).cast (by kernel_rfl)), (hM.cast (by kernel_rfl))⟩
    · intro s0 s1 s2 s3 s4 s5 s6 s7 s8 s9 s10 s11 s12 s13 hc hi hp a w hS
      obtain rfl : s3 = false := hi
      obtain rfl : s2 = true := hp 2 (by kernel_rfl)
      obtain ⟨bb4, bb5, hF, hM⟩ := hS
      refine eL 10 1 1 (v := .int .i64 ad) hF hM (by kernel_rfl) rfl rfl (by kernel_rfl) (by kernel_rfl) fun a w hF hM => ?_
      exact ⟨bb4, bb5, ((hF.repl 8 (by kernel_rfl)).cast (by kernel_rfl)), (hM.cast (by kernel_rfl))⟩
    · intro s0 s1 s2 s3 s4 s5 s6 s7 s8 s9 s10 s11 s12 s13 hc hi hp a w hS
      obtain rfl : s4 = false := hi
      obtain rfl : s3 = true := hp 3 (by kernel_rfl)
      obtain rfl : s1 = true := hp 1 (by kernel_rfl)
      obtain ⟨bb4, bb5, hF, hM⟩ := hS
      refine eM 11 (v := .agg #[.int .i64 (ofN an ad), .int .i64 (ofD an ad)]) hF hM (by kernel_rfl) (yld_call (f := 42) (args := #[.int .i64 an, .int .i64 ad]) hF (by kernel_rfl) (fun _ => by kernel_rfl) (fun w hM => ratOf_w an ad w)) fun a w hF hM => ?_
      exact ⟨bb4, bb5, ((hF.repl 9 (by kernel_rfl)).cast (by kernel_rfl)), (hM.cast (by kernel_rfl))⟩
    · intro s0 s1 s2 s3 s4 s5 s6 s7 s8 s9 s10 s11 s12 s13 hc hi hp a w hS
      obtain rfl : s5 = false := hi
      obtain ⟨bb4, bb5, hF, hM⟩ := hS
      refine eP 12 (v0 := .pointer (some ⟨bb2, 0, none⟩)) (v := .pointer (some ⟨bb2, 0, none⟩)) hF (by kernel_rfl) (fun _ => by kernel_rfl) rfl fun a hF => ?_
      exact ⟨bb4, bb5, ((hF.repl 10 (by kernel_rfl)).cast (by kernel_rfl)), (hM.cast (by kernel_rfl))⟩
    · intro s0 s1 s2 s3 s4 s5 s6 s7 s8 s9 s10 s11 s12 s13 hc hi hp a w hS
      obtain rfl : s6 = false := hi
      obtain rfl : s5 = true := hp 5 (by kernel_rfl)
      obtain ⟨bb4, bb5, hF, hM⟩ := hS
      refine eL 13 2 0 (v := .int .i64 bn) hF hM (by kernel_rfl) rfl rfl (by kernel_rfl) (by kernel_rfl) fun a w hF hM => ?_
      exact ⟨bb4, bb5, ((hF.repl 11 (by kernel_rfl)).cast (by kernel_rfl)), (hM.cast (by kernel_rfl))⟩
    · intro s0 s1 s2 s3 s4 s5 s6 s7 s8 s9 s10 s11 s12 s13 hc hi hp a w hS
      obtain rfl : s7 = false := hi
      obtain ⟨bb4, bb5, hF, hM⟩ := hS
      refine eP 14 (v0 := .pointer (some ⟨bb2, 1, none⟩)) (v := .pointer (some ⟨bb2, 1, none⟩)) hF (by kernel_rfl) (fun _ => by kernel_rfl) rfl fun a hF => ?_
      exact ⟨bb4, bb5, ((hF.repl 12 (by kernel_rfl)).cast (by kernel_rfl)), (hM.cast (by kernel_rfl))⟩
    · intro s0 s1 s2 s3 s4 s5 s6 s7 s8 s9 s10 s11 s12 s13 hc hi hp a w hS
      obtain rfl : s8 = false := hi
      obtain rfl : s7 = true := hp 7 (by kernel_rfl)
      obtain ⟨bb4, bb5, hF, hM⟩ := hS
      refine eL 15 2 1 (v := .int .i64 bd) hF hM (by kernel_rfl) rfl rfl (by kernel_rfl) (by kernel_rfl) fun a w hF hM => ?_
      exact ⟨bb4, bb5, ((hF.repl 13 (by kernel_rfl)).cast (by kernel_rfl)), (hM.cast (by kernel_rfl))⟩
    · intro s0 s1 s2 s3 s4 s5 s6 s7 s8 s9 s10 s11 s12 s13 hc hi hp a w hS
      obtain rfl : s9 = false := hi
      obtain rfl : s8 = true := hp 8 (by kernel_rfl)
      obtain rfl : s6 = true := hp 6 (by kernel_rfl)
      obtain ⟨bb4, bb5, hF, hM⟩ := hS
      refine eM 16 (v := .agg #[.int .i64 (ofN bn bd), .int .i64 (ofD bn bd)]) hF hM (by kernel_rfl) (yld_call (f := 42) (args := #[.int .i64 bn, .int .i64 bd]) hF (by kernel_rfl) (fun _ => by kernel_rfl) (fun w hM => ratOf_w bn bd w)) fun a w hF hM => ?_
      exact ⟨bb4, bb5, ((hF.repl 14 (by kernel_rfl)).cast (by kernel_rfl)), (hM.cast (by kernel_rfl))⟩
    · intro s0 s1 s2 s3 s4 s5 s6 s7 s8 s9 s10 s11 s12 s13 hc hi hp a w hS
      obtain rfl : s10 = false := hi
      obtain rfl : s12 = false := hc.f 12 10 (by kernel_rfl) rfl
      obtain ⟨bb4, bb5, hF, hM⟩ := hS
      refine eN 5 4 (t := 23) (fun b => .pointer (some ⟨b, 0, none⟩)) #[.int .i64 0, .int .i64 0] hF hM (by kernel_rfl) (fun _ => by kernel_rfl) fun bb4 a w hF hM => ?_
      exact ⟨bb4, bb5, ((hF.repl 3 (by kernel_rfl)).cast (by kernel_rfl)), ((hM.repl 3 (by kernel_rfl)).cast (by kernel_rfl))⟩
    · intro s0 s1 s2 s3 s4 s5 s6 s7 s8 s9 s10 s11 s12 s13 hc hi hp a w hS
      obtain rfl : s11 = false := hi
      obtain rfl : s13 = false := hc.f 13 11 (by kernel_rfl) rfl
      obtain ⟨bb4, bb5, hF, hM⟩ := hS
      refine eN 6 5 (t := 23) (fun b => .pointer (some ⟨b, 0, none⟩)) #[.int .i64 0, .int .i64 0] hF hM (by kernel_rfl) (fun _ => by kernel_rfl) fun bb5 a w hF hM => ?_
      exact ⟨bb4, bb5, ((hF.repl 4 (by kernel_rfl)).cast (by kernel_rfl)), ((hM.repl 4 (by kernel_rfl)).cast (by kernel_rfl))⟩
    · intro s0 s1 s2 s3 s4 s5 s6 s7 s8 s9 s10 s11 s12 s13 hc hi hp a w hS
      obtain rfl : s12 = false := hi
      obtain rfl : s10 = true := hp 10 (by kernel_rfl)
      obtain rfl : s4 = true := hp 4 (by kernel_rfl)
      obtain ⟨bb4, bb5, hF, hM⟩ := hS
      refine sStore (i := 4) (off := 0) (cs' := #[.int .i64 (ofN an ad), .int .i64 (ofD an ad)]) hF hM (by kernel_rfl) rfl rfl (by kernel_rfl) (by kernel_rfl) rfl (by kernel_rfl) fun w hM => ?_
      exact ⟨bb4, bb5, (hF.cast (by kernel_rfl)), ((hM.repl 3 (by kernel_rfl)).cast (by kernel_rfl))⟩
    · intro s0 s1 s2 s3 s4 s5 s6 s7 s8 s9 s10 s11 s12 s13 hc hi hp a w hS
      obtain rfl : s13 = false := hi
      obtain rfl : s11 = true := hp 11 (by kernel_rfl)
      obtain rfl : s9 = true := hp 9 (by kernel_rfl)
      obtain ⟨bb4, bb5, hF, hM⟩ := hS
      refine sStore (i := 5) (off := 0) (cs' := #[.int .i64 (ofN bn bd), .int .i64 (ofD bn bd)]) hF hM (by kernel_rfl) rfl rfl (by kernel_rfl) (by kernel_rfl) rfl (by kernel_rfl) fun w hM => ?_
      exact ⟨bb4, bb5, (hF.cast (by kernel_rfl)), ((hM.repl 4 (by kernel_rfl)).cast (by kernel_rfl))⟩
  · intro a w hS
    obtain ⟨bb4, bb5, hF, hM⟩ := hS
    replace hF : Fr 30 [(2, some (.pointer (some ⟨bb1, 0, none⟩))), (3, some (.pointer (some ⟨bb2, 0, none⟩))), (4, some (.pointer (some ⟨bb3, 0, none⟩))), (5, some (.pointer (some ⟨bb4, 0, none⟩))), (6, some (.pointer (some ⟨bb5, 0, none⟩))), (7, some (.pointer (some ⟨bb1, 0, none⟩))), (8, some (.int .i64 an)), (9, some (.pointer (some ⟨bb1, 1, none⟩))), (10, some (.int .i64 ad)), (11, some (.agg #[.int .i64 (ofN an ad), .int .i64 (ofD an ad)])), (12, some (.pointer (some ⟨bb2, 0, none⟩))), (13, some (.int .i64 bn)), (14, some (.pointer (some ⟨bb2, 1, none⟩))), (15, some (.int .i64 bd)), (16, some (.agg #[.int .i64 (ofN bn bd), .int .i64 (ofD bn bd)]))] a := hF.cast (by kernel_rfl)
    replace hM : Mem w0.heap.size w0 [(1, some (.row bb1 23 #[.int .i64 an, .int .i64 ad])), (2, some (.row bb2 23 #[.int .i64 bn, .int .i64 bd])), (3, some (.row bb3 34 #[.int .i64 0, .int .i64 0, .int .i64 0, .int .i64 0, .int .i64 0, .int .i64 0, .int .i64 0, .int .i64 0, .int .i64 0, .int .i64 0, .int .i64 0, .int .i64 0, .int .i64 0, .int .i64 0, .int .i64 0, .int .i64 0])), (4, some (.row bb4 23 #[.int .i64 (ofN an ad), .int .i64 (ofD an ad)])), (5, some (.row bb5 23 #[.int .i64 (ofN bn bd), .int .i64 (ofD bn bd)]))] w := hM.cast (by kernel_rfl)
    refine hK2 _ _ ?_
    refine wp_seq_k fun K3 hK3 => ?_
    refine wp_region_lit ?_
    refine wl (eL 17 1 0 (v := .agg #[.int .i64 an, .int .i64 ad]) hF hM (by kernel_rfl) rfl rfl (by kernel_rfl) (by kernel_rfl) fun a w hF hM => ?_)
    refine wl (eL 18 2 0 (v := .agg #[.int .i64 bn, .int .i64 bd]) hF hM (by kernel_rfl) rfl rfl (by kernel_rfl) (by kernel_rfl) fun a w hF hM => ?_)
    refine sB 1 [(19, .agg #[.int .i64 an, .int .i64 ad, .int .i64 bn, .int .i64 bd])] hF (by kernel_rfl) fun a hF => ?_
    refine wl (eL 20 4 0 (v := .agg #[.int .i64 (ofN an ad), .int .i64 (ofD an ad)]) hF hM (by kernel_rfl) rfl rfl (by kernel_rfl) (by kernel_rfl) fun a w hF hM => ?_)
    refine wl (eL 21 5 0 (v := .agg #[.int .i64 (ofN bn bd), .int .i64 (ofD bn bd)]) hF hM (by kernel_rfl) rfl rfl (by kernel_rfl) (by kernel_rfl) fun a w hF hM => ?_)
    refine sB 1 [(22, .agg #[.int .i64 (ofN an ad), .int .i64 (ofD an ad), .int .i64 (ofN bn bd), .int .i64 (ofD bn bd)])] hF (by kernel_rfl) fun a hF => ?_
    refine wl (eL 23 1 0 (v := .agg #[.int .i64 an, .int .i64 ad]) hF hM (by kernel_rfl) rfl rfl (by kernel_rfl) (by kernel_rfl) fun a w hF hM => ?_)
    refine wl (eL 24 5 0 (v := .agg #[.int .i64 (ofN bn bd), .int .i64 (ofD bn bd)]) hF hM (by kernel_rfl) rfl rfl (by kernel_rfl) (by kernel_rfl) fun a w hF hM => ?_)
    refine sB 1 [(25, .agg #[.int .i64 an, .int .i64 ad, .int .i64 (ofN bn bd), .int .i64 (ofD bn bd)])] hF (by kernel_rfl) fun a hF => ?_
    refine wl (eL 26 4 0 (v := .agg #[.int .i64 (ofN an ad), .int .i64 (ofD an ad)]) hF hM (by kernel_rfl) rfl rfl (by kernel_rfl) (by kernel_rfl) fun a w hF hM => ?_)
    refine wl (eL 27 4 0 (v := .agg #[.int .i64 (ofN an ad), .int .i64 (ofD an ad)]) hF hM (by kernel_rfl) rfl rfl (by kernel_rfl) (by kernel_rfl) fun a w hF hM => ?_)
    refine sB 2 [(28, .agg #[.int .i64 (ofN an ad), .int .i64 (ofD an ad), .int .i64 (ofN an ad), .int .i64 (ofD an ad)]), (29, .agg #[.int .i64 an, .int .i64 ad, .int .i64 bn, .int .i64 bd, .int .i64 (ofN an ad), .int .i64 (ofD an ad), .int .i64 (ofN bn bd), .int .i64 (ofD bn bd), .int .i64 an, .int .i64 ad, .int .i64 (ofN bn bd), .int .i64 (ofD bn bd), .int .i64 (ofN an ad), .int .i64 (ofD an ad), .int .i64 (ofN an ad), .int .i64 (ofD an ad)])] hF (by kernel_rfl) fun a hF => ?_
    refine wl (sStore (i := 3) (off := 0) (cs' := #[.int .i64 an, .int .i64 ad, .int .i64 bn, .int .i64 bd, .int .i64 (ofN an ad), .int .i64 (ofD an ad), .int .i64 (ofN bn bd), .int .i64 (ofD bn bd), .int .i64 an, .int .i64 ad, .int .i64 (ofN bn bd), .int .i64 (ofD bn bd), .int .i64 (ofN an ad), .int .i64 (ofD an ad), .int .i64 (ofN an ad), .int .i64 (ofD an ad)]) hF hM (by kernel_rfl) rfl rfl (by kernel_rfl) (by kernel_rfl) rfl (by kernel_rfl) fun w hM => ?_)
    refine wpList_nil ?_
    refine hK3 _ _ ?_
    refine wp_ret ?_
    refine hR0 _ _ ?_
    refine ret_of hF hM (.cell (i := 3) rfl rfl (v := .agg #[.int .i64 an, .int .i64 ad, .int .i64 bn, .int .i64 bd, .int .i64 (ofN an ad), .int .i64 (ofD an ad), .int .i64 (ofN bn bd), .int .i64 (ofD bn bd), .int .i64 an, .int .i64 ad, .int .i64 (ofN bn bd), .int .i64 (ofD bn bd), .int .i64 (ofN an ad), .int .i64 (ofD an ad), .int .i64 (ofN an ad), .int .i64 (ofD an ad)]) (by kernel_rfl) (.nil)) ?_
    exact ⟨rfl, hM.bel⟩

end Go.Proofs.YtboodcekjooehaaDoor
