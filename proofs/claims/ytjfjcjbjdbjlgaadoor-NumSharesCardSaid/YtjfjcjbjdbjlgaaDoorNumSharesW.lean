/-
  The walk of NumShares.
-/
import Derived.Test.YtjfjcjbjdbjlgaaDoorNumE
namespace Go.Proofs.YtjfjcjbjdbjlgaaDoor
open Go.RowKit
set_option linter.unusedVariables false
set_option linter.unusedSimpArgs false

set_option maxRecDepth 100000 in
set_option maxHeartbeats 4000000 in
theorem numShares_walk (n0 n1 n2 : Int) (w0 : World) (hT : Tab w0) (h : 0 ≤ n0 ∧ n0 < 4294967296 ∧ 0 ≤ n1 ∧ n1 < 4294967296 ∧ 0 ≤ n2 ∧ n2 < 4294967296) :
    Calls Tryd.prog 8 #[.agg #[.int .u32 n0, .int .u32 n1, .int .u32 n2]] w0 (Ret w0 (.bool true)) := by
  obtain ⟨k, hk⟩ : ∃ z : Int, z = 1 + n2 % 32 := ⟨_, rfl⟩
  obtain ⟨p, hp⟩ : ∃ z : Int, z = 1 + n0 % 1048576 := ⟨_, rfl⟩
  obtain ⟨q, hq⟩ : ∃ z : Int, z = 1 + n1 % 1048576 := ⟨_, rfl⟩
  obtain ⟨xa, hxa⟩ : ∃ z : Int, z = k * p := ⟨_, rfl⟩
  obtain ⟨xb, hxb⟩ : ∃ z : Int, z = k * q := ⟨_, rfl⟩
  have hsf := share_facts (a := xa) (b := xb) (k := k) (p := p) (q := q) (by omega) (by omega) (by omega) hxa hxb
  refine enterK 86 Tryd.func8 rfl rfl rfl ?_
  intro a hF Q0 hR0 hN0
  have hM := Mem.start w0
  refine wp_seq_k fun K1 hK1 => ?_
  refine wp_region_lit ?_
  refine wl (eN 1 1 (t := 44) (fun b => .pointer (some ⟨b, 0, none⟩)) #[.int .u32 n0, .int .u32 n1, .int .u32 n2] hF hM (by kernel_rfl) (fun _ => by kernel_rfl) fun bb1 a w hF hM => ?_)
  refine sB 1 [(2, .bool false)] hF (by kernel_rfl) fun a hF => ?_
  refine wpList_nil ?_
  refine hK1 _ _ ?_
  refine wp_seq_k fun K2 hK2 => ?_
  refine wp_seq_k fun K3 hK3 => ?_
  refine wp_region_lit ?_
  refine wl (eM 9 (v := .bool true) hF hM (by kernel_rfl) (yld_call (f := 18) (args := #[]) hF (by kernel_rfl) (fun _ => by kernel_rfl) (fun w hM => works_w w (hT.below (Nat.le_refl _) hM.bel))) fun a w hF hM => ?_)
  refine sB 1 [(10, .bool false)] hF (by kernel_rfl) fun a hF => ?_
  refine wpList_nil ?_
  refine hK3 _ _ ?_
  refine cF hF (by kernel_rfl) (by kernel_rfl) ?_
  refine wp_skip ?_
  refine hK2 _ _ ?_
  refine wp_seq_k fun K4 hK4 => ?_
  refine wp_region_lit ?_
  refine sB 1 [(11, .pointer (some ⟨bb1, 2, none⟩))] hF (by kernel_rfl) fun a hF => ?_
  refine wl (eL 12 1 2 (v := .int .u32 n2) hF hM (by kernel_rfl) rfl rfl (by kernel_rfl) (by kernel_rfl) fun a w hF hM => ?_)
  refine wl (eM 13 (v := .int .u32 (n2 % 32)) hF hM (by kernel_rfl) (yld_rem n2 32 hF rfl (by kernel_rfl) (by kernel_rfl) (by kernel_rfl) (by decide) (Int.tmod_eq_emod_of_nonneg (by omega))) fun a w hF hM => ?_)
  refine wl (eP 14 (v0 := .int .i64 (IntKind.i64.wrap (n2 % 32))) (v := .int .i64 (n2 % 32)) hF (by kernel_rfl) (fun _ => by kernel_rfl) (vi (IntWalk.i64_in _ (by omega))) fun a hF => ?_)
  refine wl (eP 15 (v0 := .int .i64 (IntKind.i64.wrap (1 + n2 % 32))) (v := .int .i64 k) hF (by kernel_rfl) (fun _ => by kernel_rfl) (vi (by rw [hk]; exact w64 (by omega))) fun a hF => ?_)
  refine sB 1 [(3, .int .i64 k)] hF (by kernel_rfl) fun a hF => ?_
  refine wpList_nil ?_
  refine hK4 _ _ ?_
  refine wp_seq_k fun K5 hK5 => ?_
  refine rQ hM (by kernel_rfl) (by kernel_rfl) ?_
  refine eQ 16 (v0 := .int .i64 k) (v := .int .i64 k) hF (by kernel_rfl) (fun _ => by kernel_rfl) rfl fun a hF => ?_
  refine eQ 17 (v0 := .pointer (some ⟨bb1, 0, none⟩)) (v := .pointer (some ⟨bb1, 0, none⟩)) hF (by kernel_rfl) (fun _ => by kernel_rfl) rfl fun a hF => ?_
  refine eQL 18 1 0 (v := .int .u32 n0) hF (by kernel_rfl) rfl rfl (by kernel_rfl) (by kernel_rfl) fun a hF => ?_
  refine eQ2 19 (v := .int .u32 (n0 % 1048576)) hF (by kernel_rfl) (yld_rem n0 1048576 hF rfl (by kernel_rfl) (by kernel_rfl) (by kernel_rfl) (by decide) (Int.tmod_eq_emod_of_nonneg (by omega))) fun a hF => ?_
  refine eQ 20 (v0 := .int .i64 (IntKind.i64.wrap (n0 % 1048576))) (v := .int .i64 (n0 % 1048576)) hF (by kernel_rfl) (fun _ => by kernel_rfl) (vi (IntWalk.i64_in _ (by omega))) fun a hF => ?_
  refine eQ 21 (v0 := .int .i64 (IntKind.i64.wrap (1 + n0 % 1048576))) (v := .int .i64 p) hF (by kernel_rfl) (fun _ => by kernel_rfl) (vi (by rw [hp]; exact w64 (by omega))) fun a hF => ?_
  refine eQ 22 (v0 := .int .i64 (IntKind.i64.wrap (k * p))) (v := .int .i64 xa) hF (by kernel_rfl) (fun _ => by kernel_rfl) (vi (by rw [← hxa]; exact w64 (by omega))) fun a hF => ?_
  refine eQ 23 (v0 := .int .i64 k) (v := .int .i64 k) hF (by kernel_rfl) (fun _ => by kernel_rfl) rfl fun a hF => ?_
  refine eQ 24 (v0 := .pointer (some ⟨bb1, 1, none⟩)) (v := .pointer (some ⟨bb1, 1, none⟩)) hF (by kernel_rfl) (fun _ => by kernel_rfl) rfl fun a hF => ?_
  refine eQL 25 1 1 (v := .int .u32 n1) hF (by kernel_rfl) rfl rfl (by kernel_rfl) (by kernel_rfl) fun a hF => ?_
  refine eQ2 26 (v := .int .u32 (n1 % 1048576)) hF (by kernel_rfl) (yld_rem n1 1048576 hF rfl (by kernel_rfl) (by kernel_rfl) (by kernel_rfl) (by decide) (Int.tmod_eq_emod_of_nonneg (by omega))) fun a hF => ?_
  refine eQ 27 (v0 := .int .i64 (IntKind.i64.wrap (n1 % 1048576))) (v := .int .i64 (n1 % 1048576)) hF (by kernel_rfl) (fun _ => by kernel_rfl) (vi (IntWalk.i64_in _ (by omega))) fun a hF => ?_
  refine eQ 28 (v0 := .int .i64 (IntKind.i64.wrap (1 + n1 % 1048576))) (v := .int .i64 q) hF (by kernel_rfl) (fun _ => by kernel_rfl) (vi (by rw [hq]; exact w64 (by omega))) fun a hF => ?_
  refine eQ 29 (v0 := .int .i64 (IntKind.i64.wrap (k * q))) (v := .int .i64 xb) hF (by kernel_rfl) (fun _ => by kernel_rfl) (vi (by rw [← hxb]; exact w64 (by omega))) fun a hF => ?_
  refine eQ 4 (v0 := .int .i64 xa) (v := .int .i64 xa) hF (by kernel_rfl) (fun _ => by kernel_rfl) rfl fun a hF => ?_
  refine eQ 5 (v0 := .int .i64 xb) (v := .int .i64 xb) hF (by kernel_rfl) (fun _ => by kernel_rfl) rfl fun a hF => ?_
  refine wpQuiet_nil ?_
  intro w hM
  refine hK5 _ _ ?_
  refine wp_seq_k fun K6 hK6 => ?_
  refine wp_region_lit ?_
  refine sB 2 [(30, .int .i64 xa), (31, .int .i64 xb)] hF (by kernel_rfl) fun a hF => ?_
  refine wl (eM 32 (v := .int .i64 (gcV xa xb)) hF hM (by kernel_rfl) (yld_call (f := 21) (args := #[.int .i64 xa, .int .i64 xb]) hF (by kernel_rfl) (fun _ => by kernel_rfl) (fun w hM => gcd_w xa xb w (hT.below (Nat.le_refl _) hM.bel))) fun a w hF hM => ?_)
  have := gcV_bd xa xb
  refine sB 1 [(6, .int .i64 (gcV xa xb))] hF (by kernel_rfl) fun a hF => ?_
  refine wpList_nil ?_
  refine hK6 _ _ ?_
  refine wp_seq_k fun K7 hK7 => ?_
  refine wp_seq_k fun K8 hK8 => ?_
  refine rQ hM (by kernel_rfl) (by kernel_rfl) ?_
  refine eQ 33 (v0 := .int .i64 (gcV xa xb)) (v := .int .i64 (gcV xa xb)) hF (by kernel_rfl) (fun _ => by kernel_rfl) rfl fun a hF => ?_
  refine eQ 34 (v0 := .bool (decide (gcV xa xb < 1))) (v := .bool false) hF (by kernel_rfl) (fun _ => by kernel_rfl) (bF (by omega)) fun a hF => ?_
  refine eQ 35 (v0 := .bool false) (v := .bool false) hF (by kernel_rfl) (fun _ => by kernel_rfl) rfl fun a hF => ?_
  refine eQ 36 (v0 := .int .i64 xa) (v := .int .i64 xa) hF (by kernel_rfl) (fun _ => by kernel_rfl) rfl fun a hF => ?_
  refine eQ 37 (v0 := .int .i64 (gcV xa xb)) (v := .int .i64 (gcV xa xb)) hF (by kernel_rfl) (fun _ => by kernel_rfl) rfl fun a hF => ?_
  refine eQ2 38 (v := .int .i64 0) hF (by kernel_rfl) (yld_rem xa (gcV xa xb) hF rfl (by kernel_rfl) (by kernel_rfl) (by kernel_rfl) (by omega) ((Int.tmod_eq_emod_of_nonneg (by omega)).trans hsf.2.2.2.2.2.2.1)) fun a hF => ?_
  refine eQ 39 (v0 := .bool (!decide (0 = 0))) (v := .bool false) hF (by kernel_rfl) (fun _ => by kernel_rfl) (nT (by omega)) fun a hF => ?_
  refine eQ 40 (v0 := .bool false) (v := .bool false) hF (by kernel_rfl) (fun _ => by kernel_rfl) rfl fun a hF => ?_
  refine eQ 41 (v0 := .bool false) (v := .bool false) hF (by kernel_rfl) (fun _ => by kernel_rfl) rfl fun a hF => ?_
  refine eQ 42 (v0 := .int .i64 xb) (v := .int .i64 xb) hF (by kernel_rfl) (fun _ => by kernel_rfl) rfl fun a hF => ?_
  refine eQ 43 (v0 := .int .i64 (gcV xa xb)) (v := .int .i64 (gcV xa xb)) hF (by kernel_rfl) (fun _ => by kernel_rfl) rfl fun a hF => ?_
  refine eQ2 44 (v := .int .i64 0) hF (by kernel_rfl) (yld_rem xb (gcV xa xb) hF rfl (by kernel_rfl) (by kernel_rfl) (by kernel_rfl) (by omega) ((Int.tmod_eq_emod_of_nonneg (by omega)).trans hsf.2.2.2.2.2.2.2.1)) fun a hF => ?_
  refine eQ 45 (v0 := .bool (!decide (0 = 0))) (v := .bool false) hF (by kernel_rfl) (fun _ => by kernel_rfl) (nT (by omega)) fun a hF => ?_
  refine eQ 46 (v0 := .bool false) (v := .bool false) hF (by kernel_rfl) (fun _ => by kernel_rfl) rfl fun a hF => ?_
  refine eQ 47 (v0 := .bool false) (v := .bool false) hF (by kernel_rfl) (fun _ => by kernel_rfl) rfl fun a hF => ?_
  refine eQ 48 (v0 := .int .i64 (gcV xa xb)) (v := .int .i64 (gcV xa xb)) hF (by kernel_rfl) (fun _ => by kernel_rfl) rfl fun a hF => ?_
  refine eQ 49 (v0 := .int .i64 k) (v := .int .i64 k) hF (by kernel_rfl) (fun _ => by kernel_rfl) rfl fun a hF => ?_
  refine eQ2 50 (v := .int .i64 0) hF (by kernel_rfl) (yld_rem (gcV xa xb) k hF rfl (by kernel_rfl) (by kernel_rfl) (by kernel_rfl) (by omega) ((Int.tmod_eq_emod_of_nonneg (by omega)).trans hsf.2.2.2.2.2.2.2.2.1)) fun a hF => ?_
  refine eQ 51 (v0 := .bool (!decide (0 = 0))) (v := .bool false) hF (by kernel_rfl) (fun _ => by kernel_rfl) (nT (by omega)) fun a hF => ?_
  refine eQ 52 (v0 := .bool false) (v := .bool false) hF (by kernel_rfl) (fun _ => by kernel_rfl) rfl fun a hF => ?_
  refine eQ 53 (v0 := .bool false) (v := .bool false) hF (by kernel_rfl) (fun _ => by kernel_rfl) rfl fun a hF => ?_
  refine eQ 54 (v0 := .int .i64 xb) (v := .int .i64 xb) hF (by kernel_rfl) (fun _ => by kernel_rfl) rfl fun a hF => ?_
  refine eQ 55 (v0 := .int .i64 xa) (v := .int .i64 xa) hF (by kernel_rfl) (fun _ => by kernel_rfl) rfl fun a hF => ?_
  refine eQ 56 (v0 := .int .i64 (IntKind.i64.wrap (0 - xa))) (v := .int .i64 (-xa)) hF (by kernel_rfl) (fun _ => by kernel_rfl) (vi (by rw [Int.zero_sub]; exact (w64 (by omega)))) fun a hF => ?_
  refine eQ2 57 (v := .int .i64 (gcV xb (-xa))) hF (by kernel_rfl) (yld_call (f := 21) (args := #[.int .i64 xb, .int .i64 (-xa)]) hF (by kernel_rfl) (fun _ => by kernel_rfl) (fun w hM => gcd_w xb (-xa) w (hT.below (Nat.le_refl _) hM.bel))) fun a hF => ?_
  have := gcV_bd xb (-xa)
  refine eQ 58 (v0 := .int .i64 (gcV xa xb)) (v := .int .i64 (gcV xa xb)) hF (by kernel_rfl) (fun _ => by kernel_rfl) rfl fun a hF => ?_
  refine eQ 59 (v0 := .bool (!decide (gcV xb (-xa) = gcV xa xb))) (v := .bool false) hF (by kernel_rfl) (fun _ => by kernel_rfl) (nT (by omega)) fun a hF => ?_
  refine eQ 60 (v0 := .bool false) (v := .bool false) hF (by kernel_rfl) (fun _ => by kernel_rfl) rfl fun a hF => ?_
  refine eQ 61 (v0 := .bool false) (v := .bool false) hF (by kernel_rfl) (fun _ => by kernel_rfl) rfl fun a hF => ?_
  refine eQ 62 (v0 := .int .i64 xa) (v := .int .i64 xa) hF (by kernel_rfl) (fun _ => by kernel_rfl) rfl fun a hF => ?_
  refine eQ 63 (v0 := .int .i64 (gcV xa xb)) (v := .int .i64 (gcV xa xb)) hF (by kernel_rfl) (fun _ => by kernel_rfl) rfl fun a hF => ?_
  refine eQ2 64 (v := .int .i64 (xa / gcV xa xb)) hF (by kernel_rfl) (yld_quo xa (gcV xa xb) hF rfl (by kernel_rfl) (by kernel_rfl) (by kernel_rfl) (by omega) (qpos_i64 (by omega) (by omega) (by omega))) fun a hF => ?_
  have := ediv_le_self_of (p := xa) (q := gcV xa xb) (by omega) (by omega)
  refine eQ 65 (v0 := .int .i64 xb) (v := .int .i64 xb) hF (by kernel_rfl) (fun _ => by kernel_rfl) rfl fun a hF => ?_
  refine eQ 66 (v0 := .int .i64 (gcV xa xb)) (v := .int .i64 (gcV xa xb)) hF (by kernel_rfl) (fun _ => by kernel_rfl) rfl fun a hF => ?_
  refine eQ2 67 (v := .int .i64 (xb / gcV xa xb)) hF (by kernel_rfl) (yld_quo xb (gcV xa xb) hF rfl (by kernel_rfl) (by kernel_rfl) (by kernel_rfl) (by omega) (qpos_i64 (by omega) (by omega) (by omega))) fun a hF => ?_
  have := ediv_le_self_of (p := xb) (q := gcV xa xb) (by omega) (by omega)
  refine eQ2 68 (v := .int .i64 (gcV (xa / gcV xa xb) (xb / gcV xa xb))) hF (by kernel_rfl) (yld_call (f := 21) (args := #[.int .i64 (xa / gcV xa xb), .int .i64 (xb / gcV xa xb)]) hF (by kernel_rfl) (fun _ => by kernel_rfl) (fun w hM => gcd_w (xa / gcV xa xb) (xb / gcV xa xb) w (hT.below (Nat.le_refl _) hM.bel))) fun a hF => ?_
  have := gcV_bd (xa / gcV xa xb) (xb / gcV xa xb)
  refine eQ 69 (v0 := .bool (!decide (gcV (xa / gcV xa xb) (xb / gcV xa xb) = 1))) (v := .bool false) hF (by kernel_rfl) (fun _ => by kernel_rfl) (nT (by omega)) fun a hF => ?_
  refine eQ 70 (v0 := .bool false) (v := .bool false) hF (by kernel_rfl) (fun _ => by kernel_rfl) rfl fun a hF => ?_
  refine wpQuiet_nil ?_
  intro w hM
  refine hK8 _ _ ?_
  refine cF hF (by kernel_rfl) (by kernel_rfl) ?_
  refine wp_skip ?_
  refine hK7 _ _ ?_
  refine wp_seq_k fun K9 hK9 => ?_
  refine wp_region_lit ?_
  refine sB 2 [(72, .int .i64 xa), (73, .int .i64 xb)] hF (by kernel_rfl) fun a hF => ?_
  refine wl (eN 74 2 (t := 3) (fun b => .slice (some ⟨b, 0, none⟩) 2 2) #[.int .i64 xa, .int .i64 xb] hF hM (by kernel_rfl) (fun _ => by kernel_rfl) fun bb2 a w hF hM => ?_)
  refine wl (eM 75 (v := .tuple #[.int .i64 (lcV [xa, xb]), .bool true]) hF hM (by kernel_rfl) (Yld.to (yld_call (f := 23) (args := #[.slice (some ⟨bb2, 0, none⟩) 2 2]) hF (by kernel_rfl) (fun _ => by kernel_rfl) (fun w hM => lcm_w (some ⟨bb2, 0, none⟩) [xa, xb] 2 w (hM.roRow (k := 2) rfl) (by first | omega | (simp; done)) (hT.below (Nat.le_refl _) hM.bel))) (by rw [hsf.2.2.2.2.2.2.2.2.2.2.2.2.1])) fun a w hF hM => ?_)
  refine sB 5 [(71, .tuple #[.int .i64 (lcV [xa, xb]), .bool true]), (76, .int .i64 (lcV [xa, xb])), (77, .bool true), (7, .int .i64 (lcV [xa, xb])), (8, .bool true)] hF (by kernel_rfl) fun a hF => ?_
  refine wpList_nil ?_
  refine hK9 _ _ ?_
  refine wp_seq_k fun K10 hK10 => ?_
  have hmb : 1 ≤ xa / gcV xa xb * xb ∧ xa / gcV xa xb * xb ≤ 1125899906842624 := mul_bd 1 33554432 1 33554432 (by omega) (by omega) (by omega) (by omega) (by decide)
  refine wp_region_lit ?_
  refine sB 4 [(78, .int .i64 (lcV [xa, xb])), (79, .bool true), (80, .int .i64 xa), (81, .int .i64 (gcV xa xb))] hF (by kernel_rfl) fun a hF => ?_
  refine wl (eM 82 (v := .int .i64 (xa / gcV xa xb)) hF hM (by kernel_rfl) (yld_quo xa (gcV xa xb) hF rfl (by kernel_rfl) (by kernel_rfl) (by kernel_rfl) (by omega) (qpos_i64 (by omega) (by omega) (by omega))) fun a w hF hM => ?_)
  have := ediv_le_self_of (p := xa) (q := gcV xa xb) (by omega) (by omega)
  refine sB 1 [(83, .int .i64 xb)] hF (by kernel_rfl) fun a hF => ?_
  refine wl (eP 84 (v0 := .int .i64 (IntKind.i64.wrap (xa / gcV xa xb * xb))) (v := .int .i64 (xa / gcV xa xb * xb)) hF (by kernel_rfl) (fun _ => by kernel_rfl) (wi (by omega)) fun a hF => ?_)
  refine wl (sC (f := 25) (args := #[.int .i64 (lcV [xa, xb]), .bool true, .int .i64 (xa / gcV xa xb * xb)]) hF (by kernel_rfl) rfl (by decide) (by kernel_rfl) (fun _ => by kernel_rfl) ?_)
  refine enterK 13 Tryd.func25 rfl rfl rfl ?_
  intro a1 hF1 QR11 hR11 hNR11
  refine wp_seq_k fun K12 hK12 => ?_
  refine wp_region_lit ?_
  refine sB 1 [(6, .bool false)] hF1 (by kernel_rfl) fun a1 hF1 => ?_
  refine wpList_nil ?_
  refine hK12 _ _ ?_
  refine wp_seq_k fun K13 hK13 => ?_
  refine wp_region_lit ?_
  refine sB 2 [(7, .int .i64 (lcV [xa, xb])), (8, .int .i64 (xa / gcV xa xb * xb))] hF1 (by kernel_rfl) fun a1 hF1 => ?_
  refine wl (eP 9 (v0 := .bool (decide (lcV [xa, xb] = xa / gcV xa xb * xb))) (v := .bool true) hF1 (by kernel_rfl) (fun _ => by kernel_rfl) (bT hsf.2.2.2.2.2.2.2.2.2.2.2.1) fun a1 hF1 => ?_)
  refine sB 4 [(10, .bool true), (11, .bool true), (12, .bool true), (6, .bool true)] hF1 (by kernel_rfl) fun a1 hF1 => ?_
  refine wpList_nil ?_
  refine hK13 _ _ ?_
  refine wp_ret ?_
  refine hR11 _ _ ?_
  refine ret_of hF1 hM (.tmp rfl (.nil)) ⟨_, rfl, ?_⟩
  intro a hF
  refine sB 1 [(2, .bool true)] hF (by kernel_rfl) fun a hF => ?_
  refine wpList_nil ?_
  refine hK10 _ _ ?_
  refine wp_ret ?_
  refine hR0 _ _ ?_
  refine ret_of hF hM (.tmp rfl (.nil)) ?_
  exact ⟨rfl, hM.bel⟩

end Go.Proofs.YtjfjcjbjdbjlgaaDoor
