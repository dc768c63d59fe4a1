/-
  The walk of NumExact.
-/
import Derived.Test.YtjfjcjbjdbjlgaaDoorNumE
namespace Go.Proofs.YtjfjcjbjdbjlgaaDoor
open Go.RowKit
set_option linter.unusedVariables false
set_option linter.unusedSimpArgs false

set_option maxRecDepth 100000 in
set_option maxHeartbeats 4000000 in
theorem numExact_walk (n0 n1 n2 : Int) (w0 : World) (hT : Tab w0) (hn : -9223372036854775808 ≤ n0 ∧ n0 ≤ 9223372036854775807 ∧ -9223372036854775808 ≤ n1 ∧ n1 ≤ 9223372036854775807 ∧ -9223372036854775808 ≤ n2 ∧ n2 ≤ 9223372036854775807) :
    Calls Tryd.prog 6 #[.agg #[.int .i64 n0, .int .i64 n1, .int .i64 n2]] w0 (Ret w0 (.bool true)) := by
  obtain ⟨xa, hxa⟩ : ∃ z : Int, z = n0.tmod 1125899906842624 := ⟨_, rfl⟩
  have b_xa := tmod_bd n0 (m := 1125899906842624) (by decide)
  rw [← hxa] at b_xa
  obtain ⟨xb, hxb⟩ : ∃ z : Int, z = 1 + n1 % 18446744073709551616 % 1125899906842624 := ⟨_, rfl⟩
  have b_xb : 1 ≤ xb ∧ xb ≤ 1125899906842624 := by omega
  obtain ⟨xc, hxc⟩ : ∃ z : Int, z = n2.tmod 16777216 := ⟨_, rfl⟩
  have b_xc := tmod_bd n2 (m := 16777216) (by decide)
  rw [← hxc] at b_xc
  obtain ⟨xs, hxs⟩ : ∃ z : Int, z = xa.tmod 16777216 := ⟨_, rfl⟩
  have b_xs := tmod_bd xa (m := 16777216) (by decide)
  rw [← hxs] at b_xs
  obtain ⟨xd, hxd⟩ : ∃ z : Int, z = 1 + xb % 1048576 := ⟨_, rfl⟩
  have b_xd : 1 ≤ xd ∧ xd ≤ 1048576 := by omega
  have hf1 := fd_true (a := xa) (b := xb) (by omega) (by omega)
  have hf2 := fd_true (a := -xa) (b := xb) (by omega) (by omega)
  have hs1 := fd_split hf1
  have hs2 := fd_split hf2
  have hmo := (fd_mod hf1).2
  have hcn := cd_neg hf1
  have hcf := cd_fd hf1
  have hex := md_exact (a := xa) (b := xb) (by omega) (by omega)
  have hpr : -281474976710656 ≤ xs * xc ∧ xs * xc ≤ 281474976710656 := mul_bd (-16777216) 16777216 (-16777216) 16777216 (by omega) (by omega) (by omega) (by omega) (by decide)
  have hsm := md_same (a := xs) (b := xc) (c := xd) (by omega) (by omega) (by omega) hpr
  have hs3 := fd_split hsm.2.1
  refine enterK 149 Tryd.func6 rfl rfl rfl ?_
  intro a hF Q0 hR0 hN0
  have hM := Mem.start w0
  refine wp_seq_k fun K1 hK1 => ?_
  refine wp_region_lit ?_
  refine wl (eN 1 1 (t := 31) (fun b => .pointer (some ⟨b, 0, none⟩)) #[.int .i64 n0, .int .i64 n1, .int .i64 n2] hF hM (by kernel_rfl) (fun _ => by kernel_rfl) fun bb1 a w hF hM => ?_)
  refine sB 1 [(2, .bool false)] hF (by kernel_rfl) fun a hF => ?_
  refine wpList_nil ?_
  refine hK1 _ _ ?_
  refine wp_seq_k fun K2 hK2 => ?_
  refine wp_seq_k fun K3 hK3 => ?_
  refine wp_region_lit ?_
  refine wl (eM 22 (v := .bool true) hF hM (by kernel_rfl) (yld_call (f := 18) (args := #[]) hF (by kernel_rfl) (fun _ => by kernel_rfl) (fun w hM => works_w w (hT.below (Nat.le_refl _) hM.bel))) fun a w hF hM => ?_)
  refine sB 1 [(23, .bool false)] hF (by kernel_rfl) fun a hF => ?_
  refine wpList_nil ?_
  refine hK3 _ _ ?_
  refine cF hF (by kernel_rfl) (by kernel_rfl) ?_
  refine wp_skip ?_
  refine hK2 _ _ ?_
  refine wp_seq_k fun K4 hK4 => ?_
  refine rQ hM (by kernel_rfl) (by kernel_rfl) ?_
  refine eQ 24 (v0 := .pointer (some ⟨bb1, 0, none⟩)) (v := .pointer (some ⟨bb1, 0, none⟩)) hF (by kernel_rfl) (fun _ => by kernel_rfl) rfl fun a hF => ?_
  refine eQL 25 1 0 (v := .int .i64 n0) hF (by kernel_rfl) rfl rfl (by kernel_rfl) (by kernel_rfl) fun a hF => ?_
  refine eQ2 26 (v := .int .i64 xa) hF (by kernel_rfl) (yld_rem n0 1125899906842624 hF rfl (by kernel_rfl) (by kernel_rfl) (by kernel_rfl) (by omega) (hxa.symm)) fun a hF => ?_
  refine eQ 27 (v0 := .pointer (some ⟨bb1, 1, none⟩)) (v := .pointer (some ⟨bb1, 1, none⟩)) hF (by kernel_rfl) (fun _ => by kernel_rfl) rfl fun a hF => ?_
  refine eQL 28 1 1 (v := .int .i64 n1) hF (by kernel_rfl) rfl rfl (by kernel_rfl) (by kernel_rfl) fun a hF => ?_
  refine eQ 29 (v0 := .int .u64 (IntKind.u64.wrap n1)) (v := .int .u64 (n1 % 18446744073709551616)) hF (by kernel_rfl) (fun _ => by kernel_rfl) (vi (u64_wrap _)) fun a hF => ?_
  refine eQ2 30 (v := .int .u64 (n1 % 18446744073709551616 % 1125899906842624)) hF (by kernel_rfl) (yld_rem (n1 % 18446744073709551616) 1125899906842624 hF rfl (by kernel_rfl) (by kernel_rfl) (by kernel_rfl) (by decide) (Int.tmod_eq_emod_of_nonneg (by omega))) fun a hF => ?_
  refine eQ 31 (v0 := .int .i64 (IntKind.i64.wrap (n1 % 18446744073709551616 % 1125899906842624))) (v := .int .i64 (n1 % 18446744073709551616 % 1125899906842624)) hF (by kernel_rfl) (fun _ => by kernel_rfl) (vi (IntWalk.i64_in _ (by omega))) fun a hF => ?_
  refine eQ 32 (v0 := .int .i64 (IntKind.i64.wrap (1 + n1 % 18446744073709551616 % 1125899906842624))) (v := .int .i64 xb) hF (by kernel_rfl) (fun _ => by kernel_rfl) (vi (by rw [hxb]; exact w64 (by omega))) fun a hF => ?_
  refine eQ 33 (v0 := .pointer (some ⟨bb1, 2, none⟩)) (v := .pointer (some ⟨bb1, 2, none⟩)) hF (by kernel_rfl) (fun _ => by kernel_rfl) rfl fun a hF => ?_
  refine eQL 34 1 2 (v := .int .i64 n2) hF (by kernel_rfl) rfl rfl (by kernel_rfl) (by kernel_rfl) fun a hF => ?_
  refine eQ2 35 (v := .int .i64 xc) hF (by kernel_rfl) (yld_rem n2 16777216 hF rfl (by kernel_rfl) (by kernel_rfl) (by kernel_rfl) (by omega) (hxc.symm)) fun a hF => ?_
  refine eQ 3 (v0 := .int .i64 xa) (v := .int .i64 xa) hF (by kernel_rfl) (fun _ => by kernel_rfl) rfl fun a hF => ?_
  refine eQ 4 (v0 := .int .i64 xb) (v := .int .i64 xb) hF (by kernel_rfl) (fun _ => by kernel_rfl) rfl fun a hF => ?_
  refine eQ 5 (v0 := .int .i64 xc) (v := .int .i64 xc) hF (by kernel_rfl) (fun _ => by kernel_rfl) rfl fun a hF => ?_
  refine wpQuiet_nil ?_
  intro w hM
  refine hK4 _ _ ?_
  refine wp_seq_k fun K5 hK5 => ?_
  refine wp_region_lit ?_
  refine sB 2 [(37, .int .i64 xa), (38, .int .i64 xb)] hF (by kernel_rfl) fun a hF => ?_
  refine wl (eM 39 (v := .tuple #[.int .i64 (fdV xa xb), .bool true]) hF hM (by kernel_rfl) (Yld.to (yld_call (f := 12) (args := #[.int .i64 xa, .int .i64 xb]) hF (by kernel_rfl) (fun _ => by kernel_rfl) (fun w hM => nFloor_w xa xb w)) (by rw [hf1])) fun a w hF hM => ?_)
  refine sB 5 [(36, .tuple #[.int .i64 (fdV xa xb), .bool true]), (40, .int .i64 (fdV xa xb)), (41, .bool true), (6, .int .i64 (fdV xa xb)), (7, .bool true)] hF (by kernel_rfl) fun a hF => ?_
  refine wpList_nil ?_
  refine hK5 _ _ ?_
  refine wp_seq_k fun K6 hK6 => ?_
  refine wp_region_lit ?_
  refine sB 2 [(43, .int .i64 xa), (44, .int .i64 xb)] hF (by kernel_rfl) fun a hF => ?_
  refine wl (eM 45 (v := .tuple #[.int .i64 (moV xa xb), .bool true]) hF hM (by kernel_rfl) (Yld.to (yld_call (f := 16) (args := #[.int .i64 xa, .int .i64 xb]) hF (by kernel_rfl) (fun _ => by kernel_rfl) (fun w hM => nMod_w xa xb w)) (by rw [hf1])) fun a w hF hM => ?_)
  refine sB 5 [(42, .tuple #[.int .i64 (moV xa xb), .bool true]), (46, .int .i64 (moV xa xb)), (47, .bool true), (8, .int .i64 (moV xa xb)), (9, .bool true)] hF (by kernel_rfl) fun a hF => ?_
  refine wpList_nil ?_
  refine hK6 _ _ ?_
  refine wp_seq_k fun K7 hK7 => ?_
  refine wp_region_lit ?_
  refine sB 2 [(49, .int .i64 xa), (50, .int .i64 xb)] hF (by kernel_rfl) fun a hF => ?_
  refine wl (eM 51 (v := .tuple #[.int .i64 (cdV xa xb), .bool true]) hF hM (by kernel_rfl) (Yld.to (yld_call (f := 14) (args := #[.int .i64 xa, .int .i64 xb]) hF (by kernel_rfl) (fun _ => by kernel_rfl) (fun w hM => nCeil_w xa xb w)) (by rw [hf1])) fun a w hF hM => ?_)
  refine sB 5 [(48, .tuple #[.int .i64 (cdV xa xb), .bool true]), (52, .int .i64 (cdV xa xb)), (53, .bool true), (10, .int .i64 (cdV xa xb)), (11, .bool true)] hF (by kernel_rfl) fun a hF => ?_
  refine wpList_nil ?_
  refine hK7 _ _ ?_
  refine wp_seq_k fun K8 hK8 => ?_
  refine wp_region_lit ?_
  refine sB 1 [(55, .int .i64 xa)] hF (by kernel_rfl) fun a hF => ?_
  refine wl (eP 56 (v0 := .int .i64 (IntKind.i64.wrap (0 - xa))) (v := .int .i64 (-xa)) hF (by kernel_rfl) (fun _ => by kernel_rfl) (vi (by rw [Int.zero_sub]; exact (w64 (by omega)))) fun a hF => ?_)
  refine sB 1 [(57, .int .i64 xb)] hF (by kernel_rfl) fun a hF => ?_
  refine wl (eM 58 (v := .tuple #[.int .i64 (fdV (-xa) xb), .bool true]) hF hM (by kernel_rfl) (Yld.to (yld_call (f := 12) (args := #[.int .i64 (-xa), .int .i64 xb]) hF (by kernel_rfl) (fun _ => by kernel_rfl) (fun w hM => nFloor_w (-xa) xb w)) (by rw [hf2])) fun a w hF hM => ?_)
  refine sB 5 [(54, .tuple #[.int .i64 (fdV (-xa) xb), .bool true]), (59, .int .i64 (fdV (-xa) xb)), (60, .bool true), (12, .int .i64 (fdV (-xa) xb)), (13, .bool true)] hF (by kernel_rfl) fun a hF => ?_
  refine wpList_nil ?_
  refine hK8 _ _ ?_
  refine wp_seq_k fun K9 hK9 => ?_
  refine wp_seq_k fun K10 hK10 => ?_
  by_cases hz1 : 1 < moV xa xb
  · skip
    have hz2 := hcf.1 (by omega)
    refine wp_region_lit ?_
    refine sB 17 [(61, .bool true), (62, .bool false), (63, .bool false), (64, .bool true), (65, .bool false), (66, .bool false), (67, .bool false), (68, .bool true), (69, .bool false), (70, .bool false), (71, .bool false), (72, .bool true), (73, .bool false), (74, .bool false), (75, .bool false), (76, .int .i64 (fdV xa xb)), (77, .int .i64 xb)] hF (by kernel_rfl) fun a hF => ?_
    refine wl (eP 78 (v0 := .int .i64 (IntKind.i64.wrap (fdV xa xb * xb))) (v := .int .i64 (fdV xa xb * xb)) hF (by kernel_rfl) (fun _ => by kernel_rfl) (wi (by omega)) fun a hF => ?_)
    refine sB 1 [(79, .int .i64 (moV xa xb))] hF (by kernel_rfl) fun a hF => ?_
    refine wl (eP 80 (v0 := .int .i64 (IntKind.i64.wrap (fdV xa xb * xb + moV xa xb))) (v := .int .i64 (fdV xa xb * xb + moV xa xb)) hF (by kernel_rfl) (fun _ => by kernel_rfl) (wi (by omega)) fun a hF => ?_)
    refine sB 1 [(81, .int .i64 xa)] hF (by kernel_rfl) fun a hF => ?_
    refine wl (eP 82 (v0 := .bool (!decide (fdV xa xb * xb + moV xa xb = xa))) (v := .bool false) hF (by kernel_rfl) (fun _ => by kernel_rfl) (nT (by omega)) fun a hF => ?_)
    refine sB 3 [(83, .bool false), (84, .bool false), (85, .int .i64 (moV xa xb))] hF (by kernel_rfl) fun a hF => ?_
    refine wl (eP 86 (v0 := .bool (decide (moV xa xb < 0))) (v := .bool false) hF (by kernel_rfl) (fun _ => by kernel_rfl) (bF (by omega)) fun a hF => ?_)
    refine sB 4 [(87, .bool false), (88, .bool false), (89, .int .i64 (moV xa xb)), (90, .int .i64 xb)] hF (by kernel_rfl) fun a hF => ?_
    refine wl (eP 91 (v0 := .bool (decide (xb ≤ moV xa xb))) (v := .bool false) hF (by kernel_rfl) (fun _ => by kernel_rfl) (bF (by omega)) fun a hF => ?_)
    refine sB 4 [(92, .bool false), (93, .bool false), (94, .int .i64 (cdV xa xb)), (95, .int .i64 (fdV (-xa) xb))] hF (by kernel_rfl) fun a hF => ?_
    refine wl (eP 96 (v0 := .int .i64 (IntKind.i64.wrap (0 - fdV (-xa) xb))) (v := .int .i64 (-fdV (-xa) xb)) hF (by kernel_rfl) (fun _ => by kernel_rfl) (vi (by rw [Int.zero_sub]; exact (w64 (by omega)))) fun a hF => ?_)
    refine wl (eP 97 (v0 := .bool (!decide (cdV xa xb = -fdV (-xa) xb))) (v := .bool false) hF (by kernel_rfl) (fun _ => by kernel_rfl) (nT (by omega)) fun a hF => ?_)
    refine sB 4 [(98, .bool false), (99, .bool false), (100, .int .i64 (cdV xa xb)), (101, .int .i64 (fdV xa xb))] hF (by kernel_rfl) fun a hF => ?_
    refine wl (eP 102 (v0 := .int .i64 (IntKind.i64.wrap (cdV xa xb - fdV xa xb))) (v := .int .i64 (cdV xa xb - fdV xa xb)) hF (by kernel_rfl) (fun _ => by kernel_rfl) (wi (by omega)) fun a hF => ?_)
    refine sB 1 [(103, .int .i64 (moV xa xb))] hF (by kernel_rfl) fun a hF => ?_
    refine wl (eP 104 (v0 := .int .i64 (if 1 < moV xa xb then 1 else moV xa xb)) (v := .int .i64 1) hF (by kernel_rfl) (fun _ => by kernel_rfl) (vi (if_pos hz1)) fun a hF => ?_)
    refine wl (eP 105 (v0 := .bool (!decide (cdV xa xb - fdV xa xb = 1))) (v := .bool false) hF (by kernel_rfl) (fun _ => by kernel_rfl) (nT (by omega)) fun a hF => ?_)
    refine sB 1 [(106, .bool false)] hF (by kernel_rfl) fun a hF => ?_
    refine wpList_nil ?_
    refine hK10 _ _ ?_
    refine cF hF (by kernel_rfl) (by kernel_rfl) ?_
    refine wp_skip ?_
    refine hK9 _ _ ?_
    refine wp_seq_k fun K11 hK11 => ?_
    refine wp_region_lit ?_
    refine sB 3 [(108, .int .i64 xa), (109, .int .i64 xb), (110, .int .i64 xb)] hF (by kernel_rfl) fun a hF => ?_
    refine wl (eM 111 (v := .tuple #[.int .i64 (mdV xa xb xb), .bool true]) hF hM (by kernel_rfl) (Yld.to (yld_call (f := 19) (args := #[.int .i64 xa, .int .i64 xb, .int .i64 xb]) hF (by kernel_rfl) (fun _ => by kernel_rfl) (fun w hM => mulDiv_w xa xb xb w)) (by rw [hex.1])) fun a w hF hM => ?_)
    refine sB 5 [(107, .tuple #[.int .i64 (mdV xa xb xb), .bool true]), (112, .int .i64 (mdV xa xb xb)), (113, .bool true), (14, .int .i64 (mdV xa xb xb)), (15, .bool true)] hF (by kernel_rfl) fun a hF => ?_
    refine wpList_nil ?_
    refine hK11 _ _ ?_
    refine wp_seq_k fun K12 hK12 => ?_
    refine wp_region_lit ?_
    refine sB 1 [(114, .int .i64 xa)] hF (by kernel_rfl) fun a hF => ?_
    refine wl (eM 115 (v := .int .i64 xs) hF hM (by kernel_rfl) (yld_rem xa 16777216 hF rfl (by kernel_rfl) (by kernel_rfl) (by kernel_rfl) (by omega) (hxs.symm)) fun a w hF hM => ?_)
    refine sB 1 [(16, .int .i64 xs)] hF (by kernel_rfl) fun a hF => ?_
    refine wpList_nil ?_
    refine hK12 _ _ ?_
    refine wp_seq_k fun K13 hK13 => ?_
    refine wp_region_lit ?_
    refine sB 1 [(116, .int .i64 xb)] hF (by kernel_rfl) fun a hF => ?_
    refine wl (eM 117 (v := .int .i64 (xb % 1048576)) hF hM (by kernel_rfl) (yld_rem xb 1048576 hF rfl (by kernel_rfl) (by kernel_rfl) (by kernel_rfl) (by decide) (Int.tmod_eq_emod_of_nonneg (by omega))) fun a w hF hM => ?_)
    refine wl (eP 118 (v0 := .int .i64 (IntKind.i64.wrap (1 + xb % 1048576))) (v := .int .i64 xd) hF (by kernel_rfl) (fun _ => by kernel_rfl) (vi (by rw [hxd]; exact w64 (by omega))) fun a hF => ?_)
    refine sB 1 [(17, .int .i64 xd)] hF (by kernel_rfl) fun a hF => ?_
    refine wpList_nil ?_
    refine hK13 _ _ ?_
    refine wp_seq_k fun K14 hK14 => ?_
    refine wp_region_lit ?_
    refine sB 3 [(120, .int .i64 xs), (121, .int .i64 xc), (122, .int .i64 xd)] hF (by kernel_rfl) fun a hF => ?_
    refine wl (eM 123 (v := .tuple #[.int .i64 (mdV xs xc xd), .bool true]) hF hM (by kernel_rfl) (Yld.to (yld_call (f := 19) (args := #[.int .i64 xs, .int .i64 xc, .int .i64 xd]) hF (by kernel_rfl) (fun _ => by kernel_rfl) (fun w hM => mulDiv_w xs xc xd w)) (by rw [hsm.1])) fun a w hF hM => ?_)
    refine sB 5 [(119, .tuple #[.int .i64 (mdV xs xc xd), .bool true]), (124, .int .i64 (mdV xs xc xd)), (125, .bool true), (18, .int .i64 (mdV xs xc xd)), (19, .bool true)] hF (by kernel_rfl) fun a hF => ?_
    refine wpList_nil ?_
    refine hK14 _ _ ?_
    refine wp_seq_k fun K15 hK15 => ?_
    refine wp_region_lit ?_
    refine sB 2 [(127, .int .i64 xs), (128, .int .i64 xc)] hF (by kernel_rfl) fun a hF => ?_
    refine wl (eP 129 (v0 := .int .i64 (IntKind.i64.wrap (xs * xc))) (v := .int .i64 (xs * xc)) hF (by kernel_rfl) (fun _ => by kernel_rfl) (wi (by omega)) fun a hF => ?_)
    refine sB 1 [(130, .int .i64 xd)] hF (by kernel_rfl) fun a hF => ?_
    refine wl (eM 131 (v := .tuple #[.int .i64 (fdV (xs * xc) xd), .bool true]) hF hM (by kernel_rfl) (Yld.to (yld_call (f := 12) (args := #[.int .i64 (xs * xc), .int .i64 xd]) hF (by kernel_rfl) (fun _ => by kernel_rfl) (fun w hM => nFloor_w (xs * xc) xd w)) (by rw [hsm.2.1])) fun a w hF hM => ?_)
    refine sB 5 [(126, .tuple #[.int .i64 (fdV (xs * xc) xd), .bool true]), (132, .int .i64 (fdV (xs * xc) xd)), (133, .bool true), (20, .int .i64 (fdV (xs * xc) xd)), (21, .bool true)] hF (by kernel_rfl) fun a hF => ?_
    refine wpList_nil ?_
    refine hK15 _ _ ?_
    refine wp_seq_k fun K16 hK16 => ?_
    refine wp_region_lit ?_
    refine sB 3 [(134, .int .i64 (mdV xa xb xb)), (135, .bool true), (136, .int .i64 xa)] hF (by kernel_rfl) fun a hF => ?_
    refine wl (sC (f := 25) (args := #[.int .i64 (mdV xa xb xb), .bool true, .int .i64 xa]) hF (by kernel_rfl) rfl (by decide) (by kernel_rfl) (fun _ => by kernel_rfl) ?_)
    refine enterK 13 Tryd.func25 rfl rfl rfl ?_
    intro a1 hF1 QR17 hR17 hNR17
    refine wp_seq_k fun K18 hK18 => ?_
    refine wp_region_lit ?_
    refine sB 1 [(6, .bool false)] hF1 (by kernel_rfl) fun a1 hF1 => ?_
    refine wpList_nil ?_
    refine hK18 _ _ ?_
    refine wp_seq_k fun K19 hK19 => ?_
    refine wp_region_lit ?_
    refine sB 2 [(7, .int .i64 (mdV xa xb xb)), (8, .int .i64 xa)] hF1 (by kernel_rfl) fun a1 hF1 => ?_
    refine wl (eP 9 (v0 := .bool (decide (mdV xa xb xb = xa))) (v := .bool true) hF1 (by kernel_rfl) (fun _ => by kernel_rfl) (bT (by omega)) fun a1 hF1 => ?_)
    refine sB 4 [(10, .bool true), (11, .bool true), (12, .bool true), (6, .bool true)] hF1 (by kernel_rfl) fun a1 hF1 => ?_
    refine wpList_nil ?_
    refine hK19 _ _ ?_
    refine wp_ret ?_
    refine hR17 _ _ ?_
    refine ret_of hF1 hM (.tmp rfl (.nil)) ⟨_, rfl, ?_⟩
    intro a hF
    refine sB 9 [(138, .bool true), (139, .bool true), (140, .bool true), (141, .bool true), (142, .bool true), (143, .bool true), (144, .bool true), (145, .int .i64 (mdV xs xc xd)), (146, .int .i64 (fdV (xs * xc) xd))] hF (by kernel_rfl) fun a hF => ?_
    refine wl (eP 147 (v0 := .bool (decide (mdV xs xc xd = fdV (xs * xc) xd))) (v := .bool true) hF (by kernel_rfl) (fun _ => by kernel_rfl) (bT (by omega)) fun a hF => ?_)
    refine sB 2 [(148, .bool true), (2, .bool true)] hF (by kernel_rfl) fun a hF => ?_
    refine wpList_nil ?_
    refine hK16 _ _ ?_
    refine wp_ret ?_
    refine hR0 _ _ ?_
    refine ret_of hF hM (.tmp rfl (.nil)) ?_
    exact ⟨rfl, hM.bel⟩
  · skip
    have hz3 := hcf.2.1 (by omega)
    refine wp_region_lit ?_
    refine sB 17 [(61, .bool true), (62, .bool false), (63, .bool false), (64, .bool true), (65, .bool false), (66, .bool false), (67, .bool false), (68, .bool true), (69, .bool false), (70, .bool false), (71, .bool false), (72, .bool true), (73, .bool false), (74, .bool false), (75, .bool false), (76, .int .i64 (fdV xa xb)), (77, .int .i64 xb)] hF (by kernel_rfl) fun a hF => ?_
    refine wl (eP 78 (v0 := .int .i64 (IntKind.i64.wrap (fdV xa xb * xb))) (v := .int .i64 (fdV xa xb * xb)) hF (by kernel_rfl) (fun _ => by kernel_rfl) (wi (by omega)) fun a hF => ?_)
    refine sB 1 [(79, .int .i64 (moV xa xb))] hF (by kernel_rfl) fun a hF => ?_
    refine wl (eP 80 (v0 := .int .i64 (IntKind.i64.wrap (fdV xa xb * xb + moV xa xb))) (v := .int .i64 (fdV xa xb * xb + moV xa xb)) hF (by kernel_rfl) (fun _ => by kernel_rfl) (wi (by omega)) fun a hF => ?_)
    refine sB 1 [(81, .int .i64 xa)] hF (by kernel_rfl) fun a hF => ?_
    refine wl (eP 82 (v0 := .bool (!decide (fdV xa xb * xb + moV xa xb = xa))) (v := .bool false) hF (by kernel_rfl) (fun _ => by kernel_rfl) (nT (by omega)) fun a hF => ?_)
    refine sB 3 [(83, .bool false), (84, .bool false), (85, .int .i64 (moV xa xb))] hF (by kernel_rfl) fun a hF => ?_
    refine wl (eP 86 (v0 := .bool (decide (moV xa xb < 0))) (v := .bool false) hF (by kernel_rfl) (fun _ => by kernel_rfl) (bF (by omega)) fun a hF => ?_)
    refine sB 4 [(87, .bool false), (88, .bool false), (89, .int .i64 (moV xa xb)), (90, .int .i64 xb)] hF (by kernel_rfl) fun a hF => ?_
    refine wl (eP 91 (v0 := .bool (decide (xb ≤ moV xa xb))) (v := .bool false) hF (by kernel_rfl) (fun _ => by kernel_rfl) (bF (by omega)) fun a hF => ?_)
    refine sB 4 [(92, .bool false), (93, .bool false), (94, .int .i64 (cdV xa xb)), (95, .int .i64 (fdV (-xa) xb))] hF (by kernel_rfl) fun a hF => ?_
    refine wl (eP 96 (v0 := .int .i64 (IntKind.i64.wrap (0 - fdV (-xa) xb))) (v := .int .i64 (-fdV (-xa) xb)) hF (by kernel_rfl) (fun _ => by kernel_rfl) (vi (by rw [Int.zero_sub]; exact (w64 (by omega)))) fun a hF => ?_)
    refine wl (eP 97 (v0 := .bool (!decide (cdV xa xb = -fdV (-xa) xb))) (v := .bool false) hF (by kernel_rfl) (fun _ => by kernel_rfl) (nT (by omega)) fun a hF => ?_)
    refine sB 4 [(98, .bool false), (99, .bool false), (100, .int .i64 (cdV xa xb)), (101, .int .i64 (fdV xa xb))] hF (by kernel_rfl) fun a hF => ?_
    refine wl (eP 102 (v0 := .int .i64 (IntKind.i64.wrap (cdV xa xb - fdV xa xb))) (v := .int .i64 (cdV xa xb - fdV xa xb)) hF (by kernel_rfl) (fun _ => by kernel_rfl) (wi (by omega)) fun a hF => ?_)
    refine sB 1 [(103, .int .i64 (moV xa xb))] hF (by kernel_rfl) fun a hF => ?_
    refine wl (eP 104 (v0 := .int .i64 (if 1 < moV xa xb then 1 else moV xa xb)) (v := .int .i64 (moV xa xb)) hF (by kernel_rfl) (fun _ => by kernel_rfl) (vi (if_neg hz1)) fun a hF => ?_)
    refine wl (eP 105 (v0 := .bool (!decide (cdV xa xb - fdV xa xb = moV xa xb))) (v := .bool false) hF (by kernel_rfl) (fun _ => by kernel_rfl) (nT (by omega)) fun a hF => ?_)
    refine sB 1 [(106, .bool false)] hF (by kernel_rfl) fun a hF => ?_
    refine wpList_nil ?_
    refine hK10 _ _ ?_
    refine cF hF (by kernel_rfl) (by kernel_rfl) ?_
    refine wp_skip ?_
    refine hK9 _ _ ?_
    refine wp_seq_k fun K20 hK20 => ?_
    refine wp_region_lit ?_
    refine sB 3 [(108, .int .i64 xa), (109, .int .i64 xb), (110, .int .i64 xb)] hF (by kernel_rfl) fun a hF => ?_
    refine wl (eM 111 (v := .tuple #[.int .i64 (mdV xa xb xb), .bool true]) hF hM (by kernel_rfl) (Yld.to (yld_call (f := 19) (args := #[.int .i64 xa, .int .i64 xb, .int .i64 xb]) hF (by kernel_rfl) (fun _ => by kernel_rfl) (fun w hM => mulDiv_w xa xb xb w)) (by rw [hex.1])) fun a w hF hM => ?_)
    refine sB 5 [(107, .tuple #[.int .i64 (mdV xa xb xb), .bool true]), (112, .int .i64 (mdV xa xb xb)), (113, .bool true), (14, .int .i64 (mdV xa xb xb)), (15, .bool true)] hF (by kernel_rfl) fun a hF => ?_
    refine wpList_nil ?_
    refine hK20 _ _ ?_
    refine wp_seq_k fun K21 hK21 => ?_
    refine wp_region_lit ?_
    refine sB 1 [(114, .int .i64 xa)] hF (by kernel_rfl) fun a hF => ?_
    refine wl (eM 115 (v := .int .i64 xs) hF hM (by kernel_rfl) (yld_rem xa 16777216 hF rfl (by kernel_rfl) (by kernel_rfl) (by kernel_rfl) (by omega) (hxs.symm)) fun a w hF hM => ?_)
    refine sB 1 [(16, .int .i64 xs)] hF (by kernel_rfl) fun a hF => ?_
    refine wpList_nil ?_
    refine hK21 _ _ ?_
    refine wp_seq_k fun K22 hK22 => ?_
    refine wp_region_lit ?_
    refine sB 1 [(116, .int .i64 xb)] hF (by kernel_rfl) fun a hF => ?_
    refine wl (eM 117 (v := .int .i64 (xb % 1048576)) hF hM (by kernel_rfl) (yld_rem xb 1048576 hF rfl (by kernel_rfl) (by kernel_rfl) (by kernel_rfl) (by decide) (Int.tmod_eq_emod_of_nonneg (by omega))) fun a w hF hM => ?_)
    refine wl (eP 118 (v0 := .int .i64 (IntKind.i64.wrap (1 + xb % 1048576))) (v := .int .i64 xd) hF (by kernel_rfl) (fun _ => by kernel_rfl) (vi (by rw [hxd]; exact w64 (by omega))) fun a hF => ?_)
    refine sB 1 [(17, .int .i64 xd)] hF (by kernel_rfl) fun a hF => ?_
    refine wpList_nil ?_
    refine hK22 _ _ ?_
    refine wp_seq_k fun K23 hK23 => ?_
    refine wp_region_lit ?_
    refine sB 3 [(120, .int .i64 xs), (121, .int .i64 xc), (122, .int .i64 xd)] hF (by kernel_rfl) fun a hF => ?_
    refine wl (eM 123 (v := .tuple #[.int .i64 (mdV xs xc xd), .bool true]) hF hM (by kernel_rfl) (Yld.to (yld_call (f := 19) (args := #[.int .i64 xs, .int .i64 xc, .int .i64 xd]) hF (by kernel_rfl) (fun _ => by kernel_rfl) (fun w hM => mulDiv_w xs xc xd w)) (by rw [hsm.1])) fun a w hF hM => ?_)
    refine sB 5 [(119, .tuple #[.int .i64 (mdV xs xc xd), .bool true]), (124, .int .i64 (mdV xs xc xd)), (125, .bool true), (18, .int .i64 (mdV xs xc xd)), (19, .bool true)] hF (by kernel_rfl) fun a hF => ?_
    refine wpList_nil ?_
    refine hK23 _ _ ?_
    refine wp_seq_k fun K24 hK24 => ?_
    refine wp_region_lit ?_
    refine sB 2 [(127, .int .i64 xs), (128, .int .i64 xc)] hF (by kernel_rfl) fun a hF => ?_
    refine wl (eP 129 (v0 := .int .i64 (IntKind.i64.wrap (xs * xc))) (v := .int .i64 (xs * xc)) hF (by kernel_rfl) (fun _ => by kernel_rfl) (wi (by omega)) fun a hF => ?_)
    refine sB 1 [(130, .int .i64 xd)] hF (by kernel_rfl) fun a hF => ?_
    refine wl (eM 131 (v := .tuple #[.int .i64 (fdV (xs * xc) xd), .bool true]) hF hM (by kernel_rfl) (Yld.to (yld_call (f := 12) (args := #[.int .i64 (xs * xc), .int .i64 xd]) hF (by kernel_rfl) (fun _ => by kernel_rfl) (fun w hM => nFloor_w (xs * xc) xd w)) (by rw [hsm.2.1])) fun a w hF hM => ?_)
    refine sB 5 [(126, .tuple #[.int .i64 (fdV (xs * xc) xd), .bool true]), (132, .int .i64 (fdV (xs * xc) xd)), (133, .bool true), (20, .int .i64 (fdV (xs * xc) xd)), (21, .bool true)] hF (by kernel_rfl) fun a hF => ?_
    refine wpList_nil ?_
    refine hK24 _ _ ?_
    refine wp_seq_k fun K25 hK25 => ?_
    refine wp_region_lit ?_
    refine sB 3 [(134, .int .i64 (mdV xa xb xb)), (135, .bool true), (136, .int .i64 xa)] hF (by kernel_rfl) fun a hF => ?_
    refine wl (sC (f := 25) (args := #[.int .i64 (mdV xa xb xb), .bool true, .int .i64 xa]) hF (by kernel_rfl) rfl (by decide) (by kernel_rfl) (fun _ => by kernel_rfl) ?_)
    refine enterK 13 Tryd.func25 rfl rfl rfl ?_
    intro a1 hF1 QR26 hR26 hNR26
    refine wp_seq_k fun K27 hK27 => ?_
    refine wp_region_lit ?_
    refine sB 1 [(6, .bool false)] hF1 (by kernel_rfl) fun a1 hF1 => ?_
    refine wpList_nil ?_
    refine hK27 _ _ ?_
    refine wp_seq_k fun K28 hK28 => ?_
    refine wp_region_lit ?_
    refine sB 2 [(7, .int .i64 (mdV xa xb xb)), (8, .int .i64 xa)] hF1 (by kernel_rfl) fun a1 hF1 => ?_
    refine wl (eP 9 (v0 := .bool (decide (mdV xa xb xb = xa))) (v := .bool true) hF1 (by kernel_rfl) (fun _ => by kernel_rfl) (bT (by omega)) fun a1 hF1 => ?_)
    refine sB 4 [(10, .bool true), (11, .bool true), (12, .bool true), (6, .bool true)] hF1 (by kernel_rfl) fun a1 hF1 => ?_
    refine wpList_nil ?_
    refine hK28 _ _ ?_
    refine wp_ret ?_
    refine hR26 _ _ ?_
    refine ret_of hF1 hM (.tmp rfl (.nil)) ⟨_, rfl, ?_⟩
    intro a hF
    refine sB 9 [(138, .bool true), (139, .bool true), (140, .bool true), (141, .bool true), (142, .bool true), (143, .bool true), (144, .bool true), (145, .int .i64 (mdV xs xc xd)), (146, .int .i64 (fdV (xs * xc) xd))] hF (by kernel_rfl) fun a hF => ?_
    refine wl (eP 147 (v0 := .bool (decide (mdV xs xc xd = fdV (xs * xc) xd))) (v := .bool true) hF (by kernel_rfl) (fun _ => by kernel_rfl) (bT (by omega)) fun a hF => ?_)
    refine sB 2 [(148, .bool true), (2, .bool true)] hF (by kernel_rfl) fun a hF => ?_
    refine wpList_nil ?_
    refine hK25 _ _ ?_
    refine wp_ret ?_
    refine hR0 _ _ ?_
    refine ret_of hF hM (.tmp rfl (.nil)) ?_
    exact ⟨rfl, hM.bel⟩

end Go.Proofs.YtjfjcjbjdbjlgaaDoor
