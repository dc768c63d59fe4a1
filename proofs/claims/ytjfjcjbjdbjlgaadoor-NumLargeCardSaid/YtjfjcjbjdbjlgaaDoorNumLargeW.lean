/-
  The walk of NumLarge.
-/
import Derived.Test.YtjfjcjbjdbjlgaaDoorNumE
namespace Go.Proofs.YtjfjcjbjdbjlgaaDoor
open Go.RowKit
set_option linter.unusedVariables false
set_option linter.unusedSimpArgs false

set_option maxRecDepth 100000 in
set_option maxHeartbeats 4000000 in
theorem numLarge_walk (n0 n1 n2 : Int) (w0 : World) (hT : Tab w0) :
    Calls Tryd.prog 7 #[.agg #[.int .i64 n0, .int .i64 n1, .int .i64 n2]] w0 (Ret w0 (.bool true)) := by
  obtain ⟨xc, hxc⟩ : ∃ z : Int, z = 1 + n2 % 18446744073709551616 % 1125899906842624 := ⟨_, rfl⟩
  obtain ⟨xa, hxa⟩ : ∃ z : Int, z = n0 % 18446744073709551616 % 1125899906842624 := ⟨_, rfl⟩
  obtain ⟨xb, hxb⟩ : ∃ z : Int, z = n1 % 18446744073709551616 % xc := ⟨_, rfl⟩
  obtain ⟨xl, hxl⟩ : ∃ z : Int, z = xa % 4096 := ⟨_, rfl⟩
  have b_c : 1 ≤ xc ∧ xc ≤ 1125899906842624 := by omega
  have b_b : 0 ≤ xb ∧ xb < xc := by rw [hxb]; exact emod_bd (by omega) (by omega)
  have b_a : 0 ≤ xa ∧ xa < 1125899906842624 := by omega
  have b_l : 0 ≤ xl ∧ xl ≤ xa := by omega
  have hlf := large_facts b_a b_b b_c b_l
  refine enterK 153 Tryd.func7 rfl rfl rfl ?_
  intro a hF Q0 hR0 hN0
  have hM := Mem.start w0
  refine wp_seq_k fun K1 hK1 => ?_
  refine wp_region_lit ?_
  refine wl (eN 1 1 (t := 31) (fun b => .pointer (some ⟨b, 0, none⟩)) #[.int .i64 n0, .int .i64 n1, .int .i64 n2] hF hM (by kernel_rfl) (fun _ => by kernel_rfl) fun bb1 a w hF hM => ?_)
  refine sB 1 [(2, .bool false)] hF (by kernel_rfl) fun a hF => ?_
  refine wpList_nil ?_
  refine hK1 _ _ ?_
  refine wp_seq_k fun K2 hK2 => ?_
  refine wp_seq_k fun K3 hK3 => ?_
  refine wp_region_lit ?_
  refine wl (eM 19 (v := .bool true) hF hM (by kernel_rfl) (yld_call (f := 18) (args := #[]) hF (by kernel_rfl) (fun _ => by kernel_rfl) (fun w hM => works_w w (hT.below (Nat.le_refl _) hM.bel))) fun a w hF hM => ?_)
  refine sB 1 [(20, .bool false)] hF (by kernel_rfl) fun a hF => ?_
  refine wpList_nil ?_
  refine hK3 _ _ ?_
  refine cF hF (by kernel_rfl) (by kernel_rfl) ?_
  refine wp_skip ?_
  refine hK2 _ _ ?_
  refine wp_seq_k fun K4 hK4 => ?_
  refine wp_region_lit ?_
  refine sB 1 [(21, .pointer (some ⟨bb1, 2, none⟩))] hF (by kernel_rfl) fun a hF => ?_
  refine wl (eL 22 1 2 (v := .int .i64 n2) hF hM (by kernel_rfl) rfl rfl (by kernel_rfl) (by kernel_rfl) fun a w hF hM => ?_)
  refine wl (eP 23 (v0 := .int .u64 (IntKind.u64.wrap n2)) (v := .int .u64 (n2 % 18446744073709551616)) hF (by kernel_rfl) (fun _ => by kernel_rfl) (vi (u64_wrap _)) fun a hF => ?_)
  refine wl (eM 24 (v := .int .u64 (n2 % 18446744073709551616 % 1125899906842624)) hF hM (by kernel_rfl) (yld_rem (n2 % 18446744073709551616) 1125899906842624 hF rfl (by kernel_rfl) (by kernel_rfl) (by kernel_rfl) (by decide) (Int.tmod_eq_emod_of_nonneg (by omega))) fun a w hF hM => ?_)
  refine wl (eP 25 (v0 := .int .i64 (IntKind.i64.wrap (n2 % 18446744073709551616 % 1125899906842624))) (v := .int .i64 (n2 % 18446744073709551616 % 1125899906842624)) hF (by kernel_rfl) (fun _ => by kernel_rfl) (vi (IntWalk.i64_in _ (by omega))) fun a hF => ?_)
  refine wl (eP 26 (v0 := .int .i64 (IntKind.i64.wrap (1 + n2 % 18446744073709551616 % 1125899906842624))) (v := .int .i64 xc) hF (by kernel_rfl) (fun _ => by kernel_rfl) (vi (by rw [hxc]; exact w64 (by omega))) fun a hF => ?_)
  refine sB 1 [(3, .int .i64 xc)] hF (by kernel_rfl) fun a hF => ?_
  refine wpList_nil ?_
  refine hK4 _ _ ?_
  refine wp_seq_k fun K5 hK5 => ?_
  refine rQ hM (by kernel_rfl) (by kernel_rfl) ?_
  refine eQ 27 (v0 := .pointer (some ⟨bb1, 0, none⟩)) (v := .pointer (some ⟨bb1, 0, none⟩)) hF (by kernel_rfl) (fun _ => by kernel_rfl) rfl fun a hF => ?_
  refine eQL 28 1 0 (v := .int .i64 n0) hF (by kernel_rfl) rfl rfl (by kernel_rfl) (by kernel_rfl) fun a hF => ?_
  refine eQ 29 (v0 := .int .u64 (IntKind.u64.wrap n0)) (v := .int .u64 (n0 % 18446744073709551616)) hF (by kernel_rfl) (fun _ => by kernel_rfl) (vi (u64_wrap _)) fun a hF => ?_
  refine eQ2 30 (v := .int .u64 xa) hF (by kernel_rfl) (yld_rem (n0 % 18446744073709551616) 1125899906842624 hF rfl (by kernel_rfl) (by kernel_rfl) (by kernel_rfl) (by omega) (by rw [hxa]; exact Int.tmod_eq_emod_of_nonneg (by omega))) fun a hF => ?_
  refine eQ 31 (v0 := .int .i64 (IntKind.i64.wrap xa)) (v := .int .i64 xa) hF (by kernel_rfl) (fun _ => by kernel_rfl) (vi (IntWalk.i64_in _ (by omega))) fun a hF => ?_
  refine eQ 32 (v0 := .pointer (some ⟨bb1, 1, none⟩)) (v := .pointer (some ⟨bb1, 1, none⟩)) hF (by kernel_rfl) (fun _ => by kernel_rfl) rfl fun a hF => ?_
  refine eQL 33 1 1 (v := .int .i64 n1) hF (by kernel_rfl) rfl rfl (by kernel_rfl) (by kernel_rfl) fun a hF => ?_
  refine eQ 34 (v0 := .int .u64 (IntKind.u64.wrap n1)) (v := .int .u64 (n1 % 18446744073709551616)) hF (by kernel_rfl) (fun _ => by kernel_rfl) (vi (u64_wrap _)) fun a hF => ?_
  refine eQ 35 (v0 := .int .i64 xc) (v := .int .i64 xc) hF (by kernel_rfl) (fun _ => by kernel_rfl) rfl fun a hF => ?_
  refine eQ 36 (v0 := .int .u64 (IntKind.u64.wrap xc)) (v := .int .u64 xc) hF (by kernel_rfl) (fun _ => by kernel_rfl) (vi (IntWalk.u64_in _ (by omega))) fun a hF => ?_
  refine eQ2 37 (v := .int .u64 xb) hF (by kernel_rfl) (yld_rem (n1 % 18446744073709551616) xc hF rfl (by kernel_rfl) (by kernel_rfl) (by kernel_rfl) (by omega) (by rw [hxb]; exact Int.tmod_eq_emod_of_nonneg (by omega))) fun a hF => ?_
  refine eQ 38 (v0 := .int .i64 (IntKind.i64.wrap xb)) (v := .int .i64 xb) hF (by kernel_rfl) (fun _ => by kernel_rfl) (vi (IntWalk.i64_in _ (by omega))) fun a hF => ?_
  refine eQ 4 (v0 := .int .i64 xa) (v := .int .i64 xa) hF (by kernel_rfl) (fun _ => by kernel_rfl) rfl fun a hF => ?_
  refine eQ 5 (v0 := .int .i64 xb) (v := .int .i64 xb) hF (by kernel_rfl) (fun _ => by kernel_rfl) rfl fun a hF => ?_
  refine wpQuiet_nil ?_
  intro w hM
  refine hK5 _ _ ?_
  refine wp_seq_k fun K6 hK6 => ?_
  refine wp_region_lit ?_
  refine sB 3 [(40, .int .i64 xa), (41, .int .i64 xb), (42, .int .i64 xc)] hF (by kernel_rfl) fun a hF => ?_
  refine wl (eM 43 (v := .tuple #[.int .i64 (mdV xa xb xc), .bool true]) hF hM (by kernel_rfl) (Yld.to (yld_call (f := 19) (args := #[.int .i64 xa, .int .i64 xb, .int .i64 xc]) hF (by kernel_rfl) (fun _ => by kernel_rfl) (fun w hM => mulDiv_w xa xb xc w)) (by rw [hlf.1.1])) fun a w hF hM => ?_)
  refine sB 5 [(39, .tuple #[.int .i64 (mdV xa xb xc), .bool true]), (44, .int .i64 (mdV xa xb xc)), (45, .bool true), (6, .int .i64 (mdV xa xb xc)), (7, .bool true)] hF (by kernel_rfl) fun a hF => ?_
  refine wpList_nil ?_
  refine hK6 _ _ ?_
  refine wp_seq_k fun K7 hK7 => ?_
  refine wp_region_lit ?_
  refine sB 2 [(47, .int .i64 xa), (48, .int .i64 xb)] hF (by kernel_rfl) fun a hF => ?_
  refine wl (eP 49 (v0 := .int .i64 (IntKind.i64.wrap (xb + 1))) (v := .int .i64 (xb + 1)) hF (by kernel_rfl) (fun _ => by kernel_rfl) (wi (by omega)) fun a hF => ?_)
  refine sB 1 [(50, .int .i64 xc)] hF (by kernel_rfl) fun a hF => ?_
  refine wl (eM 51 (v := .tuple #[.int .i64 (mdV xa (xb + 1) xc), .bool true]) hF hM (by kernel_rfl) (Yld.to (yld_call (f := 19) (args := #[.int .i64 xa, .int .i64 (xb + 1), .int .i64 xc]) hF (by kernel_rfl) (fun _ => by kernel_rfl) (fun w hM => mulDiv_w xa (xb + 1) xc w)) (by rw [hlf.1.2.1])) fun a w hF hM => ?_)
  refine sB 5 [(46, .tuple #[.int .i64 (mdV xa (xb + 1) xc), .bool true]), (52, .int .i64 (mdV xa (xb + 1) xc)), (53, .bool true), (8, .int .i64 (mdV xa (xb + 1) xc)), (9, .bool true)] hF (by kernel_rfl) fun a hF => ?_
  refine wpList_nil ?_
  refine hK7 _ _ ?_
  refine wp_seq_k fun K8 hK8 => ?_
  refine wp_region_lit ?_
  refine sB 3 [(55, .int .i64 xb), (56, .int .i64 xa), (57, .int .i64 xc)] hF (by kernel_rfl) fun a hF => ?_
  refine wl (eM 58 (v := .tuple #[.int .i64 (mdV xb xa xc), .bool true]) hF hM (by kernel_rfl) (Yld.to (yld_call (f := 19) (args := #[.int .i64 xb, .int .i64 xa, .int .i64 xc]) hF (by kernel_rfl) (fun _ => by kernel_rfl) (fun w hM => mulDiv_w xb xa xc w)) (by rw [hlf.1.2.2.1])) fun a w hF hM => ?_)
  refine sB 5 [(54, .tuple #[.int .i64 (mdV xb xa xc), .bool true]), (59, .int .i64 (mdV xb xa xc)), (60, .bool true), (10, .int .i64 (mdV xb xa xc)), (11, .bool true)] hF (by kernel_rfl) fun a hF => ?_
  refine wpList_nil ?_
  refine hK8 _ _ ?_
  refine wp_seq_k fun K9 hK9 => ?_
  refine wp_region_lit ?_
  refine sB 1 [(62, .int .i64 xa)] hF (by kernel_rfl) fun a hF => ?_
  refine wl (eP 63 (v0 := .int .i64 (IntKind.i64.wrap (0 - xa))) (v := .int .i64 (-xa)) hF (by kernel_rfl) (fun _ => by kernel_rfl) (vi (by rw [Int.zero_sub]; exact (w64 (by omega)))) fun a hF => ?_)
  refine sB 2 [(64, .int .i64 xb), (65, .int .i64 xc)] hF (by kernel_rfl) fun a hF => ?_
  refine wl (eM 66 (v := .tuple #[.int .i64 (mdV (-xa) xb xc), .bool true]) hF hM (by kernel_rfl) (Yld.to (yld_call (f := 19) (args := #[.int .i64 (-xa), .int .i64 xb, .int .i64 xc]) hF (by kernel_rfl) (fun _ => by kernel_rfl) (fun w hM => mulDiv_w (-xa) xb xc w)) (by rw [hlf.1.2.2.2.1])) fun a w hF hM => ?_)
  refine sB 5 [(61, .tuple #[.int .i64 (mdV (-xa) xb xc), .bool true]), (67, .int .i64 (mdV (-xa) xb xc)), (68, .bool true), (12, .int .i64 (mdV (-xa) xb xc)), (13, .bool true)] hF (by kernel_rfl) fun a hF => ?_
  refine wpList_nil ?_
  refine hK9 _ _ ?_
  refine wp_seq_k fun K10 hK10 => ?_
  refine wp_seq_k fun K11 hK11 => ?_
  refine wp_region_lit ?_
  refine sB 17 [(69, .bool true), (70, .bool false), (71, .bool false), (72, .bool true), (73, .bool false), (74, .bool false), (75, .bool false), (76, .bool true), (77, .bool false), (78, .bool false), (79, .bool false), (80, .bool true), (81, .bool false), (82, .bool false), (83, .bool false), (84, .int .i64 (mdV xa xb xc)), (85, .int .i64 xa)] hF (by kernel_rfl) fun a hF => ?_
  refine wl (eP 86 (v0 := .bool (decide (xa < mdV xa xb xc))) (v := .bool false) hF (by kernel_rfl) (fun _ => by kernel_rfl) (bF (by omega)) fun a hF => ?_)
  refine sB 4 [(87, .bool false), (88, .bool false), (89, .int .i64 (mdV xa (xb + 1) xc)), (90, .int .i64 (mdV xa xb xc))] hF (by kernel_rfl) fun a hF => ?_
  refine wl (eP 91 (v0 := .bool (decide (mdV xa (xb + 1) xc < mdV xa xb xc))) (v := .bool false) hF (by kernel_rfl) (fun _ => by kernel_rfl) (bF (by omega)) fun a hF => ?_)
  refine sB 4 [(92, .bool false), (93, .bool false), (94, .int .i64 (mdV xa (xb + 1) xc)), (95, .int .i64 xa)] hF (by kernel_rfl) fun a hF => ?_
  refine wl (eP 96 (v0 := .bool (decide (xa < mdV xa (xb + 1) xc))) (v := .bool false) hF (by kernel_rfl) (fun _ => by kernel_rfl) (bF (by omega)) fun a hF => ?_)
  refine sB 4 [(97, .bool false), (98, .bool false), (99, .int .i64 (mdV xb xa xc)), (100, .int .i64 (mdV xa xb xc))] hF (by kernel_rfl) fun a hF => ?_
  refine wl (eP 101 (v0 := .bool (!decide (mdV xb xa xc = mdV xa xb xc))) (v := .bool false) hF (by kernel_rfl) (fun _ => by kernel_rfl) (nT (by omega)) fun a hF => ?_)
  refine sB 4 [(102, .bool false), (103, .bool false), (104, .int .i64 (mdV (-xa) xb xc)), (105, .int .i64 (mdV xa xb xc))] hF (by kernel_rfl) fun a hF => ?_
  refine wl (eP 106 (v0 := .int .i64 (IntKind.i64.wrap (0 - mdV xa xb xc))) (v := .int .i64 (-mdV xa xb xc)) hF (by kernel_rfl) (fun _ => by kernel_rfl) (vi (by rw [Int.zero_sub]; exact (w64 (by omega)))) fun a hF => ?_)
  refine wl (eP 107 (v0 := .bool (decide (-mdV xa xb xc < mdV (-xa) xb xc))) (v := .bool false) hF (by kernel_rfl) (fun _ => by kernel_rfl) (bF (by omega)) fun a hF => ?_)
  refine sB 4 [(108, .bool false), (109, .bool false), (110, .int .i64 (mdV (-xa) xb xc)), (111, .int .i64 (mdV xa xb xc))] hF (by kernel_rfl) fun a hF => ?_
  refine wl (eP 112 (v0 := .int .i64 (IntKind.i64.wrap (0 - mdV xa xb xc))) (v := .int .i64 (-mdV xa xb xc)) hF (by kernel_rfl) (fun _ => by kernel_rfl) (vi (by rw [Int.zero_sub]; exact (w64 (by omega)))) fun a hF => ?_)
  refine wl (eP 113 (v0 := .int .i64 (IntKind.i64.wrap (-mdV xa xb xc - 1))) (v := .int .i64 (-mdV xa xb xc - 1)) hF (by kernel_rfl) (fun _ => by kernel_rfl) (wi (by omega)) fun a hF => ?_)
  refine wl (eP 114 (v0 := .bool (decide (mdV (-xa) xb xc < -mdV xa xb xc - 1))) (v := .bool false) hF (by kernel_rfl) (fun _ => by kernel_rfl) (bF (by omega)) fun a hF => ?_)
  refine sB 1 [(115, .bool false)] hF (by kernel_rfl) fun a hF => ?_
  refine wpList_nil ?_
  refine hK11 _ _ ?_
  refine cF hF (by kernel_rfl) (by kernel_rfl) ?_
  refine wp_skip ?_
  refine hK10 _ _ ?_
  refine wp_seq_k fun K12 hK12 => ?_
  refine wp_region_lit ?_
  refine sB 1 [(116, .int .i64 xa)] hF (by kernel_rfl) fun a hF => ?_
  refine wl (eM 117 (v := .int .i64 xl) hF hM (by kernel_rfl) (yld_rem xa 4096 hF rfl (by kernel_rfl) (by kernel_rfl) (by kernel_rfl) (by omega) (by rw [hxl]; exact Int.tmod_eq_emod_of_nonneg (by omega))) fun a w hF hM => ?_)
  refine sB 1 [(14, .int .i64 xl)] hF (by kernel_rfl) fun a hF => ?_
  refine wpList_nil ?_
  refine hK12 _ _ ?_
  refine wp_seq_k fun K13 hK13 => ?_
  refine wp_region_lit ?_
  refine sB 3 [(119, .int .i64 xl), (120, .int .i64 xb), (121, .int .i64 xc)] hF (by kernel_rfl) fun a hF => ?_
  refine wl (eM 122 (v := .tuple #[.int .i64 (mdV xl xb xc), .bool true]) hF hM (by kernel_rfl) (Yld.to (yld_call (f := 19) (args := #[.int .i64 xl, .int .i64 xb, .int .i64 xc]) hF (by kernel_rfl) (fun _ => by kernel_rfl) (fun w hM => mulDiv_w xl xb xc w)) (by rw [hlf.1.2.2.2.2.1])) fun a w hF hM => ?_)
  refine sB 5 [(118, .tuple #[.int .i64 (mdV xl xb xc), .bool true]), (123, .int .i64 (mdV xl xb xc)), (124, .bool true), (15, .int .i64 (mdV xl xb xc)), (16, .bool true)] hF (by kernel_rfl) fun a hF => ?_
  refine wpList_nil ?_
  refine hK13 _ _ ?_
  refine wp_seq_k fun K14 hK14 => ?_
  refine wp_region_lit ?_
  refine sB 2 [(126, .int .i64 xa), (127, .int .i64 xl)] hF (by kernel_rfl) fun a hF => ?_
  refine wl (eP 128 (v0 := .int .i64 (IntKind.i64.wrap (xa - xl))) (v := .int .i64 (xa - xl)) hF (by kernel_rfl) (fun _ => by kernel_rfl) (wi (by omega)) fun a hF => ?_)
  refine sB 2 [(129, .int .i64 xb), (130, .int .i64 xc)] hF (by kernel_rfl) fun a hF => ?_
  refine wl (eM 131 (v := .tuple #[.int .i64 (mdV (xa - xl) xb xc), .bool true]) hF hM (by kernel_rfl) (Yld.to (yld_call (f := 19) (args := #[.int .i64 (xa - xl), .int .i64 xb, .int .i64 xc]) hF (by kernel_rfl) (fun _ => by kernel_rfl) (fun w hM => mulDiv_w (xa - xl) xb xc w)) (by rw [hlf.1.2.2.2.2.2])) fun a w hF hM => ?_)
  refine sB 5 [(125, .tuple #[.int .i64 (mdV (xa - xl) xb xc), .bool true]), (132, .int .i64 (mdV (xa - xl) xb xc)), (133, .bool true), (17, .int .i64 (mdV (xa - xl) xb xc)), (18, .bool true)] hF (by kernel_rfl) fun a hF => ?_
  refine wpList_nil ?_
  refine hK14 _ _ ?_
  refine wp_seq_k fun K15 hK15 => ?_
  refine wp_region_lit ?_
  refine sB 8 [(134, .bool true), (135, .bool true), (136, .bool true), (137, .bool true), (138, .bool true), (139, .int .i64 (mdV xa xb xc)), (140, .int .i64 (mdV (xa - xl) xb xc)), (141, .int .i64 (mdV xl xb xc))] hF (by kernel_rfl) fun a hF => ?_
  refine wl (eP 142 (v0 := .int .i64 (IntKind.i64.wrap (mdV (xa - xl) xb xc + mdV xl xb xc))) (v := .int .i64 (mdV (xa - xl) xb xc + mdV xl xb xc)) hF (by kernel_rfl) (fun _ => by kernel_rfl) (wi (by omega)) fun a hF => ?_)
  refine wl (eP 143 (v0 := .bool (decide (mdV (xa - xl) xb xc + mdV xl xb xc ≤ mdV xa xb xc))) (v := .bool true) hF (by kernel_rfl) (fun _ => by kernel_rfl) (bT (by omega)) fun a hF => ?_)
  refine sB 5 [(144, .bool true), (145, .bool true), (146, .int .i64 (mdV xa xb xc)), (147, .int .i64 (mdV (xa - xl) xb xc)), (148, .int .i64 (mdV xl xb xc))] hF (by kernel_rfl) fun a hF => ?_
  refine wl (eP 149 (v0 := .int .i64 (IntKind.i64.wrap (mdV (xa - xl) xb xc + mdV xl xb xc))) (v := .int .i64 (mdV (xa - xl) xb xc + mdV xl xb xc)) hF (by kernel_rfl) (fun _ => by kernel_rfl) (wi (by omega)) fun a hF => ?_)
  refine wl (eP 150 (v0 := .int .i64 (IntKind.i64.wrap (mdV (xa - xl) xb xc + mdV xl xb xc + 1))) (v := .int .i64 (mdV (xa - xl) xb xc + mdV xl xb xc + 1)) hF (by kernel_rfl) (fun _ => by kernel_rfl) (wi (by omega)) fun a hF => ?_)
  refine wl (eP 151 (v0 := .bool (decide (mdV xa xb xc ≤ mdV (xa - xl) xb xc + mdV xl xb xc + 1))) (v := .bool true) hF (by kernel_rfl) (fun _ => by kernel_rfl) (bT (by omega)) fun a hF => ?_)
  refine sB 2 [(152, .bool true), (2, .bool true)] hF (by kernel_rfl) fun a hF => ?_
  refine wpList_nil ?_
  refine hK15 _ _ ?_
  refine wp_ret ?_
  refine hR0 _ _ ?_
  refine ret_of hF hM (.tmp rfl (.nil)) ?_
  exact ⟨rfl, hM.bel⟩

end Go.Proofs.YtjfjcjbjdbjlgaaDoor
