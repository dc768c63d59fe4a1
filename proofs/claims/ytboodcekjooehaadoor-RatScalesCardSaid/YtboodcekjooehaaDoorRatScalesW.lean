/-
  The walk of RatScales.
-/
import Derived.Test.YtboodcekjooehaaDoorRatF
namespace Go.Proofs.YtboodcekjooehaaDoor
open Go.RowKit
set_option linter.unusedVariables false
set_option linter.unusedSimpArgs false

set_option maxRecDepth 100000 in
set_option maxHeartbeats 8000000 in
theorem ratScales_walk (n d k : Int) (w0 : World) (hT : Tab w0) (h : 0 ≤ k ∧ k ≤ 4294967295) :
    Calls Tryd.prog 7 #[.int .i64 n, .int .i64 d, .int .u32 k] w0 (Ret w0 (.bool true)) := by
  obtain ⟨xp, hxp⟩ : ∃ z : Int, z = n.tmod 1073741824 := ⟨_, rfl⟩
  have bxp := tmod_bd n (m := 1073741824) (by decide)
  rw [← hxp] at bxp
  obtain ⟨xq, hxq⟩ : ∃ z : Int, z = 1 + d % 18446744073709551616 % 1073741824 := ⟨_, rfl⟩
  have bxq : 1 ≤ xq ∧ xq ≤ 1073741824 := by omega
  obtain ⟨xf, hxf⟩ : ∃ z : Int, z = 1 + k := ⟨_, rfl⟩
  have bxf : 1 ≤ xf ∧ xf ≤ 4294967296 := by omega
  obtain ⟨cN, cD, i1, i2, i3, i4, hv, bc⟩ := scale_facts (p := xp) (q := xq) (f := xf) (by omega) bxq bxf
  have m1 : -4611686018427387904 ≤ xp * xf ∧ xp * xf ≤ 4611686018427387904 := mul_bd (-1073741824) 1073741824 1 4294967296 (by omega) (by omega) (by omega) (by omega) (by decide)
  have m2 : 1 ≤ xq * xf ∧ xq * xf ≤ 4611686018427387904 := mul_bd 1 1073741824 1 4294967296 (by omega) (by omega) (by omega) (by omega) (by decide)
  have m3 : -xp * xf = -(xp * xf) := Int.neg_mul xp xf
  have m4 : -xq * xf = -(xq * xf) := Int.neg_mul xq xf
  obtain ⟨xpf, hpf⟩ : ∃ z : Int, z = xp * xf := ⟨_, rfl⟩
  obtain ⟨xqf, hqf⟩ : ∃ z : Int, z = xq * xf := ⟨_, rfl⟩
  obtain ⟨xng, hng⟩ : ∃ z : Int, z = -xp * xf := ⟨_, rfl⟩
  obtain ⟨xnq, hnq⟩ : ∃ z : Int, z = -xq * xf := ⟨_, rfl⟩
  rw [← hpf] at i2 m1 m3
  rw [← hqf] at i2 m2 m4
  rw [← hng] at i3 m3
  rw [← hnq] at i3 m4
  refine enterK 111 Tryd.func7 rfl rfl rfl ?_
  intro a hF Q0 hR0 hN0
  have hM := Mem.start w0
  have hz1 := raE_ok i1.2.2.2
  refine wp_seq_k fun K1 hK1 => ?_
  refine wp_region_lit ?_
  refine sB 1 [(6, .bool false)] hF (by kernel_rfl) fun a hF => ?_
  refine wpList_nil ?_
  refine hK1 _ _ ?_
  refine wp_seq_k fun K2 hK2 => ?_
  refine wp_seq_k fun K3 hK3 => ?_
  refine wp_region_lit ?_
  refine wl (eM 18 (v := .bool true) hF hM (by kernel_rfl) (yld_call (f := 14) (args := #[]) hF (by kernel_rfl) (fun _ => by kernel_rfl) (fun w hM => works_w w (hT.below (Nat.le_refl _) hM.bel))) fun a w hF hM => ?_)
  refine sB 1 [(19, .bool false)] hF (by kernel_rfl) fun a hF => ?_
  refine wpList_nil ?_
  refine hK3 _ _ ?_
  refine cF hF (by kernel_rfl) (by kernel_rfl) ?_
  refine wp_skip ?_
  refine hK2 _ _ ?_
  refine wp_seq_k fun K4 hK4 => ?_
  refine wp_region_lit ?_
  refine sB 1 [(20, .int .i64 n)] hF (by kernel_rfl) fun a hF => ?_
  refine wl (eM 21 (v := .int .i64 xp) hF hM (by kernel_rfl) (yld_rem n 1073741824 hF rfl (by kernel_rfl) (by kernel_rfl) (by kernel_rfl) (by omega) (hxp.symm)) fun a w hF hM => ?_)
  refine sB 1 [(22, .int .i64 d)] hF (by kernel_rfl) fun a hF => ?_
  refine wl (eP 23 (v0 := .int .u64 (IntKind.u64.wrap d)) (v := .int .u64 (d % 18446744073709551616)) hF (by kernel_rfl) (fun _ => by kernel_rfl) (vi (u64_wrap _)) fun a hF => ?_)
  refine wl (eM 24 (v := .int .u64 (d % 18446744073709551616 % 1073741824)) hF hM (by kernel_rfl) (yld_rem (d % 18446744073709551616) 1073741824 hF rfl (by kernel_rfl) (by kernel_rfl) (by kernel_rfl) (by decide) (Int.tmod_eq_emod_of_nonneg (by omega))) fun a w hF hM => ?_)
  refine wl (eP 25 (v0 := .int .i64 (IntKind.i64.wrap (d % 18446744073709551616 % 1073741824))) (v := .int .i64 (d % 18446744073709551616 % 1073741824)) hF (by kernel_rfl) (fun _ => by kernel_rfl) (vi (IntWalk.i64_in _ (by omega))) fun a hF => ?_)
  refine wl (eP 26 (v0 := .int .i64 (IntKind.i64.wrap (1 + d % 18446744073709551616 % 1073741824))) (v := .int .i64 xq) hF (by kernel_rfl) (fun _ => by kernel_rfl) (vi (by rw [hxq]; exact w64 (by omega))) fun a hF => ?_)
  refine sB 1 [(27, .int .u32 k)] hF (by kernel_rfl) fun a hF => ?_
  refine wl (eP 28 (v0 := .int .i64 (IntKind.i64.wrap k)) (v := .int .i64 k) hF (by kernel_rfl) (fun _ => by kernel_rfl) (vi (IntWalk.i64_in _ (by omega))) fun a hF => ?_)
  refine wl (eP 29 (v0 := .int .i64 (IntKind.i64.wrap (1 + k))) (v := .int .i64 xf) hF (by kernel_rfl) (fun _ => by kernel_rfl) (vi (by rw [hxf]; exact w64 (by omega))) fun a hF => ?_)
  refine sB 3 [(7, .int .i64 xp), (8, .int .i64 xq), (9, .int .i64 xf)] hF (by kernel_rfl) fun a hF => ?_
  refine wpList_nil ?_
  refine hK4 _ _ ?_
  refine wp_seq_k fun K5 hK5 => ?_
  refine wp_region_lit ?_
  refine sB 2 [(31, .int .i64 xp), (32, .int .i64 xq)] hF (by kernel_rfl) fun a hF => ?_
  refine wl (eM 33 (v := .tuple #[.agg #[.int .i64 cN, .int .i64 cD], .int .i64 0]) hF hM (by kernel_rfl) (yld_call (f := 10) (args := #[.int .i64 xp, .int .i64 xq]) hF (by kernel_rfl) (fun _ => by kernel_rfl) (fun w hM => i1.to (raMake_w xp xq w (hT.below (Nat.le_refl _) hM.bel)))) fun a w hF hM => ?_)
  refine sB 3 [(30, .tuple #[.agg #[.int .i64 cN, .int .i64 cD], .int .i64 0]), (34, .agg #[.int .i64 cN, .int .i64 cD]), (35, .int .i64 0)] hF (by kernel_rfl) fun a hF => ?_
  refine wl (eN 10 1 (t := 23) (fun b => .pointer (some ⟨b, 0, none⟩)) #[.int .i64 0, .int .i64 0] hF hM (by kernel_rfl) (fun _ => by kernel_rfl) fun bb1 a w hF hM => ?_)
  refine wl (sStore (i := 1) (off := 0) (cs' := #[.int .i64 cN, .int .i64 cD]) hF hM (by kernel_rfl) rfl rfl (by kernel_rfl) (by kernel_rfl) rfl (by kernel_rfl) fun w hM => ?_)
  refine sB 1 [(11, .int .i64 0)] hF (by kernel_rfl) fun a hF => ?_
  refine wpList_nil ?_
  refine hK5 _ _ ?_
  refine wp_seq_k fun K6 hK6 => ?_
  refine wp_region_lit ?_
  refine sB 2 [(37, .int .i64 xp), (38, .int .i64 xf)] hF (by kernel_rfl) fun a hF => ?_
  refine wl (eP 39 (v0 := .int .i64 (IntKind.i64.wrap (xp * xf))) (v := .int .i64 xpf) hF (by kernel_rfl) (fun _ => by kernel_rfl) (vi (by rw [← hpf]; exact w64 (by omega))) fun a hF => ?_)
  refine sB 2 [(40, .int .i64 xq), (41, .int .i64 xf)] hF (by kernel_rfl) fun a hF => ?_
  refine wl (eP 42 (v0 := .int .i64 (IntKind.i64.wrap (xq * xf))) (v := .int .i64 xqf) hF (by kernel_rfl) (fun _ => by kernel_rfl) (vi (by rw [← hqf]; exact w64 (by omega))) fun a hF => ?_)
  refine wl (eM 43 (v := .tuple #[.agg #[.int .i64 cN, .int .i64 cD], .int .i64 0]) hF hM (by kernel_rfl) (yld_call (f := 10) (args := #[.int .i64 xpf, .int .i64 xqf]) hF (by kernel_rfl) (fun _ => by kernel_rfl) (fun w hM => i2.to (raMake_w xpf xqf w (hT.below (Nat.le_refl _) hM.bel)))) fun a w hF hM => ?_)
  refine sB 3 [(36, .tuple #[.agg #[.int .i64 cN, .int .i64 cD], .int .i64 0]), (44, .agg #[.int .i64 cN, .int .i64 cD]), (45, .int .i64 0)] hF (by kernel_rfl) fun a hF => ?_
  refine wl (eN 12 2 (t := 23) (fun b => .pointer (some ⟨b, 0, none⟩)) #[.int .i64 0, .int .i64 0] hF hM (by kernel_rfl) (fun _ => by kernel_rfl) fun bb2 a w hF hM => ?_)
  refine wl (sStore (i := 2) (off := 0) (cs' := #[.int .i64 cN, .int .i64 cD]) hF hM (by kernel_rfl) rfl rfl (by kernel_rfl) (by kernel_rfl) rfl (by kernel_rfl) fun w hM => ?_)
  refine sB 1 [(13, .int .i64 0)] hF (by kernel_rfl) fun a hF => ?_
  refine wpList_nil ?_
  refine hK6 _ _ ?_
  refine wp_seq_k fun K7 hK7 => ?_
  refine wp_region_lit ?_
  refine sB 1 [(47, .int .i64 xp)] hF (by kernel_rfl) fun a hF => ?_
  refine wl (eP 48 (v0 := .int .i64 (IntKind.i64.wrap (0 - xp))) (v := .int .i64 (-xp)) hF (by kernel_rfl) (fun _ => by kernel_rfl) (vi (by rw [Int.zero_sub]; exact (w64 (by omega)))) fun a hF => ?_)
  refine sB 1 [(49, .int .i64 xf)] hF (by kernel_rfl) fun a hF => ?_
  refine wl (eP 50 (v0 := .int .i64 (IntKind.i64.wrap (-xp * xf))) (v := .int .i64 xng) hF (by kernel_rfl) (fun _ => by kernel_rfl) (vi (by rw [← hng]; exact w64 (by omega))) fun a hF => ?_)
  refine sB 1 [(51, .int .i64 xq)] hF (by kernel_rfl) fun a hF => ?_
  refine wl (eP 52 (v0 := .int .i64 (IntKind.i64.wrap (0 - xq))) (v := .int .i64 (-xq)) hF (by kernel_rfl) (fun _ => by kernel_rfl) (vi (by rw [Int.zero_sub]; exact (w64 (by omega)))) fun a hF => ?_)
  refine sB 1 [(53, .int .i64 xf)] hF (by kernel_rfl) fun a hF => ?_
  refine wl (eP 54 (v0 := .int .i64 (IntKind.i64.wrap (-xq * xf))) (v := .int .i64 xnq) hF (by kernel_rfl) (fun _ => by kernel_rfl) (vi (by rw [← hnq]; exact w64 (by omega))) fun a hF => ?_)
  refine wl (eM 55 (v := .tuple #[.agg #[.int .i64 cN, .int .i64 cD], .int .i64 0]) hF hM (by kernel_rfl) (yld_call (f := 10) (args := #[.int .i64 xng, .int .i64 xnq]) hF (by kernel_rfl) (fun _ => by kernel_rfl) (fun w hM => i3.to (raMake_w xng xnq w (hT.below (Nat.le_refl _) hM.bel)))) fun a w hF hM => ?_)
  refine sB 3 [(46, .tuple #[.agg #[.int .i64 cN, .int .i64 cD], .int .i64 0]), (56, .agg #[.int .i64 cN, .int .i64 cD]), (57, .int .i64 0)] hF (by kernel_rfl) fun a hF => ?_
  refine wl (eN 14 3 (t := 23) (fun b => .pointer (some ⟨b, 0, none⟩)) #[.int .i64 0, .int .i64 0] hF hM (by kernel_rfl) (fun _ => by kernel_rfl) fun bb3 a w hF hM => ?_)
  refine wl (sStore (i := 3) (off := 0) (cs' := #[.int .i64 cN, .int .i64 cD]) hF hM (by kernel_rfl) rfl rfl (by kernel_rfl) (by kernel_rfl) rfl (by kernel_rfl) fun w hM => ?_)
  refine sB 1 [(15, .int .i64 0)] hF (by kernel_rfl) fun a hF => ?_
  refine wpList_nil ?_
  refine hK7 _ _ ?_
  refine wp_seq_k fun K8 hK8 => ?_
  refine wp_region_lit ?_
  refine sB 1 [(59, .pointer (some ⟨bb1, 0, none⟩))] hF (by kernel_rfl) fun a hF => ?_
  refine wl (eL 60 1 0 (v := .int .i64 cN) hF hM (by kernel_rfl) rfl rfl (by kernel_rfl) (by kernel_rfl) fun a w hF hM => ?_)
  refine sB 1 [(61, .pointer (some ⟨bb1, 1, none⟩))] hF (by kernel_rfl) fun a hF => ?_
  refine wl (eL 62 1 1 (v := .int .i64 cD) hF hM (by kernel_rfl) rfl rfl (by kernel_rfl) (by kernel_rfl) fun a w hF hM => ?_)
  refine wl (eM 63 (v := .tuple #[.agg #[.int .i64 cN, .int .i64 cD], .int .i64 0]) hF hM (by kernel_rfl) (yld_call (f := 10) (args := #[.int .i64 cN, .int .i64 cD]) hF (by kernel_rfl) (fun _ => by kernel_rfl) (fun w hM => i4.to (raMake_w cN cD w (hT.below (Nat.le_refl _) hM.bel)))) fun a w hF hM => ?_)
  refine sB 3 [(58, .tuple #[.agg #[.int .i64 cN, .int .i64 cD], .int .i64 0]), (64, .agg #[.int .i64 cN, .int .i64 cD]), (65, .int .i64 0)] hF (by kernel_rfl) fun a hF => ?_
  refine wl (eN 16 4 (t := 23) (fun b => .pointer (some ⟨b, 0, none⟩)) #[.int .i64 0, .int .i64 0] hF hM (by kernel_rfl) (fun _ => by kernel_rfl) fun bb4 a w hF hM => ?_)
  refine wl (sStore (i := 4) (off := 0) (cs' := #[.int .i64 cN, .int .i64 cD]) hF hM (by kernel_rfl) rfl rfl (by kernel_rfl) (by kernel_rfl) rfl (by kernel_rfl) fun w hM => ?_)
  refine sB 1 [(17, .int .i64 0)] hF (by kernel_rfl) fun a hF => ?_
  refine wpList_nil ?_
  refine hK8 _ _ ?_
  refine wp_seq_k fun K9 hK9 => ?_
  refine wp_region_lit ?_
  refine sB 1 [(66, .int .i64 0)] hF (by kernel_rfl) fun a hF => ?_
  refine wl (eP 67 (v0 := .bool (decide (0 = 0))) (v := .bool true) hF (by kernel_rfl) (fun _ => by kernel_rfl) (bT (by omega)) fun a hF => ?_)
  refine sB 2 [(68, .bool true), (69, .int .i64 0)] hF (by kernel_rfl) fun a hF => ?_
  refine wl (eP 70 (v0 := .bool (decide (0 = 0))) (v := .bool true) hF (by kernel_rfl) (fun _ => by kernel_rfl) (bT (by omega)) fun a hF => ?_)
  refine sB 3 [(71, .bool true), (72, .bool true), (73, .int .i64 0)] hF (by kernel_rfl) fun a hF => ?_
  refine wl (eP 74 (v0 := .bool (decide (0 = 0))) (v := .bool true) hF (by kernel_rfl) (fun _ => by kernel_rfl) (bT (by omega)) fun a hF => ?_)
  refine sB 3 [(75, .bool true), (76, .bool true), (77, .int .i64 0)] hF (by kernel_rfl) fun a hF => ?_
  refine wl (eP 78 (v0 := .bool (decide (0 = 0))) (v := .bool true) hF (by kernel_rfl) (fun _ => by kernel_rfl) (bT (by omega)) fun a hF => ?_)
  refine sB 2 [(79, .bool true), (80, .bool true)] hF (by kernel_rfl) fun a hF => ?_
  refine wl (eL 81 1 0 (v := .agg #[.int .i64 cN, .int .i64 cD]) hF hM (by kernel_rfl) rfl rfl (by kernel_rfl) (by kernel_rfl) fun a w hF hM => ?_)
  refine wl (eL 82 2 0 (v := .agg #[.int .i64 cN, .int .i64 cD]) hF hM (by kernel_rfl) rfl rfl (by kernel_rfl) (by kernel_rfl) fun a w hF hM => ?_)
  refine wl (eM 83 (v := .bool true) hF hM (by kernel_rfl) ((yld_eql (C := Mem _ _ _) [cN, cD] [cN, cD] hF rfl (by kernel_rfl) (by kernel_rfl) (by kernel_rfl) rfl (by kernel_rfl) (by kernel_rfl) (by kernel_rfl) rfl rfl).to (bT rfl)) fun a w hF hM => ?_)
  refine sB 2 [(84, .bool true), (85, .bool true)] hF (by kernel_rfl) fun a hF => ?_
  refine wl (eL 86 1 0 (v := .agg #[.int .i64 cN, .int .i64 cD]) hF hM (by kernel_rfl) rfl rfl (by kernel_rfl) (by kernel_rfl) fun a w hF hM => ?_)
  refine wl (eL 87 3 0 (v := .agg #[.int .i64 cN, .int .i64 cD]) hF hM (by kernel_rfl) rfl rfl (by kernel_rfl) (by kernel_rfl) fun a w hF hM => ?_)
  refine wl (eM 88 (v := .bool true) hF hM (by kernel_rfl) ((yld_eql (C := Mem _ _ _) [cN, cD] [cN, cD] hF rfl (by kernel_rfl) (by kernel_rfl) (by kernel_rfl) rfl (by kernel_rfl) (by kernel_rfl) (by kernel_rfl) rfl rfl).to (bT rfl)) fun a w hF hM => ?_)
  refine sB 2 [(89, .bool true), (90, .bool true)] hF (by kernel_rfl) fun a hF => ?_
  refine wl (eL 91 1 0 (v := .agg #[.int .i64 cN, .int .i64 cD]) hF hM (by kernel_rfl) rfl rfl (by kernel_rfl) (by kernel_rfl) fun a w hF hM => ?_)
  refine wl (eL 92 4 0 (v := .agg #[.int .i64 cN, .int .i64 cD]) hF hM (by kernel_rfl) rfl rfl (by kernel_rfl) (by kernel_rfl) fun a w hF hM => ?_)
  refine wl (eM 93 (v := .bool true) hF hM (by kernel_rfl) ((yld_eql (C := Mem _ _ _) [cN, cD] [cN, cD] hF rfl (by kernel_rfl) (by kernel_rfl) (by kernel_rfl) rfl (by kernel_rfl) (by kernel_rfl) (by kernel_rfl) rfl rfl).to (bT rfl)) fun a w hF hM => ?_)
  refine sB 2 [(94, .bool true), (95, .bool true)] hF (by kernel_rfl) fun a hF => ?_
  refine wl (eL 96 1 0 (v := .agg #[.int .i64 cN, .int .i64 cD]) hF hM (by kernel_rfl) rfl rfl (by kernel_rfl) (by kernel_rfl) fun a w hF hM => ?_)
  refine wl (eM 97 (v := .int .i64 (raE cN cD)) hF hM (by kernel_rfl) (yld_call (f := 12) (args := #[.agg #[.int .i64 cN, .int .i64 cD]]) hF (by kernel_rfl) (fun _ => by kernel_rfl) (fun w hM => raCheck_w cN cD w (hT.below (Nat.le_refl _) hM.bel))) fun a w hF hM => ?_)
  refine wl (eP 98 (v0 := .bool (decide (raE cN cD = 0))) (v := .bool true) hF (by kernel_rfl) (fun _ => by kernel_rfl) (bT i1.2.2.2) fun a hF => ?_)
  refine sB 3 [(99, .bool true), (100, .bool true), (101, .pointer (some ⟨bb1, 0, none⟩))] hF (by kernel_rfl) fun a hF => ?_
  refine wl (eL 102 1 0 (v := .int .i64 cN) hF hM (by kernel_rfl) rfl rfl (by kernel_rfl) (by kernel_rfl) fun a w hF hM => ?_)
  refine sB 1 [(103, .int .i64 xq)] hF (by kernel_rfl) fun a hF => ?_
  have hz2 : -1152921504606846976 ≤ cN * xq ∧ cN * xq ≤ 1152921504606846976 := mul_bd (-1073741824) (1073741824) (1) (1073741824) (by omega) (by omega) (by omega) (by omega) (by decide)
  refine wl (eP 104 (v0 := .int .i64 (IntKind.i64.wrap (cN * xq))) (v := .int .i64 (cN * xq)) hF (by kernel_rfl) (fun _ => by kernel_rfl) (wi (by omega)) fun a hF => ?_)
  refine sB 2 [(105, .int .i64 xp), (106, .pointer (some ⟨bb1, 1, none⟩))] hF (by kernel_rfl) fun a hF => ?_
  refine wl (eL 107 1 1 (v := .int .i64 cD) hF hM (by kernel_rfl) rfl rfl (by kernel_rfl) (by kernel_rfl) fun a w hF hM => ?_)
  refine wl (eP 108 (v0 := .int .i64 (IntKind.i64.wrap (xp * cD))) (v := .int .i64 (xp * cD)) hF (by kernel_rfl) (fun _ => by kernel_rfl) (wi (by omega)) fun a hF => ?_)
  refine wl (eP 109 (v0 := .bool (decide (cN * xq = xp * cD))) (v := .bool true) hF (by kernel_rfl) (fun _ => by kernel_rfl) (bT (by omega)) fun a hF => ?_)
  refine sB 2 [(110, .bool true), (6, .bool true)] hF (by kernel_rfl) fun a hF => ?_
  refine wpList_nil ?_
  refine hK9 _ _ ?_
  refine wp_ret ?_
  refine hR0 _ _ ?_
  refine ret_of hF hM (.tmp rfl (.nil)) ?_
  exact ⟨rfl, hM.bel⟩

end Go.Proofs.YtboodcekjooehaaDoor
