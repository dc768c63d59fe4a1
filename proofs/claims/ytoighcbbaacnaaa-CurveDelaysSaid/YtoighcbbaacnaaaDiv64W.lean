/-
  The walk of math/bits.Div64.
-/
import Derived.Test.YtoighcbbaacnaaaNumA
import Derived.Test.YtoighcbbaacnaaaDivPlain
import Derived.Test.YtoighcbbaacnaaaEng
namespace Go.Proofs.Ytoighcbbaacnaaa
open Go.RowKit
set_option linter.unusedVariables false
set_option linter.unusedSimpArgs false

theorem cast_eq {a b c d : Nat} (h : a * b + c = d) : (a : Int) * (b : Int) + (c : Int) = (d : Int) := by rw [← h]; simp
theorem cast_lt {a b c d : Nat} (h : (4294967296 : Int) * (a : Int) + (b : Int) < (c : Int) * (d : Int)) : 4294967296 * a + b < c * d := by
  have : ((c * d : Nat) : Int) = (c : Int) * (d : Int) := by simp
  omega
theorem cast_le {a b c d : Nat} (h : (c : Int) * (d : Int) ≤ (4294967296 : Int) * (a : Int) + (b : Int)) : c * d ≤ 4294967296 * a + b := by
  have : ((c * d : Nat) : Int) = (c : Int) * (d : Int) := by simp
  omega
theorem muls {a b : Nat} (h : (a : Int) * (b : Int) < 18446744073709551616) : IntKind.u64.wrap ((a : Int) * (b : Int)) = (a : Int) * (b : Int) := by
  have h0 : 0 ≤ (a : Int) * (b : Int) := Int.mul_nonneg (by omega) (by omega)
  rw [u64_wrap]
  omega
theorem mulm {a b m : Nat} (h : m = a * b % 18446744073709551616) : IntKind.u64.wrap ((a : Int) * (b : Int)) = (m : Int) := by
  have : ((a * b : Nat) : Int) = (a : Int) * (b : Int) := by simp
  rw [u64_wrap, h, ← this]
  omega
set_option maxRecDepth 100000 in
set_option maxHeartbeats 4000000 in
theorem div64_w (hi lo y : Nat) (w0 : World) (h1 : hi < y) (hy : y < 18446744073709551616) (hl : lo < 18446744073709551616) :
    Calls Try.prog 68 #[.int .u64 (hi : Int), .int .u64 (lo : Int), .int .u64 (y : Int)] w0 (Ret w0 (.tuple #[.int .u64 (((hi * 18446744073709551616 + lo) / y : Nat) : Int), .int .u64 (((hi * 18446744073709551616 + lo) % y : Nat) : Int)])) := by
  have hy0 : 0 < y := by omega
  obtain ⟨b1, b2, b3⟩ := bitLen_bounds y (by omega) hy
  have b4 : Lib.bitLen y ≤ 64 := Lib.bitLen_le _ 64 (by omega) hy
  obtain ⟨s, hs⟩ : ∃ s : Nat, (64 : Int) - (Lib.bitLen y : Int) = s := ⟨64 - Lib.bitLen y, by omega⟩
  have hs64 : s < 64 := by omega
  have g1 : 63 - s = Lib.bitLen y - 1 := by omega
  have g2 : 64 - s = Lib.bitLen y := by omega
  rw [← g1] at b1
  rw [← g2] at b2
  obtain ⟨Yn, an, bn, Hn, Un, Ln, u1n, u0n, S⟩ := shifted hi lo y s h1 b1 b2 hs64 hl
  have lead_s : ∀ w : World, Calls Try.prog 71 #[.int .u64 (y : Int)] w (Ret w (.int .i64 (s : Int))) := fun w => (bits_LeadingZeros64 (y : Int) w (by omega) (by omega)).mono fun e w' hh => ⟨by rw [hh.1, ← hs, Int.toNat_natCast], hh.2 ▸ Below.refl _ _⟩
  have S1 := S.Y1; have S2 := S.Y2; have S3 := S.ha; have S4 := S.hb; have S5 := S.HY; have S6 := S.UY; have S7 := S.hL; have S8 := S.h1; have S9 := S.h0; have S10 := S.lo2
  obtain ⟨l2, hl2⟩ : ∃ l2 : Nat, l2 = lo / 2 ^ (64 - s) := ⟨_, rfl⟩
  have I : KnuthIn Un u1n an bn := ⟨by omega, by omega, by omega, by omega, by omega⟩
  obtain ⟨qn, hqn⟩ : ∃ q : Nat, q = Un / an := ⟨_, rfl⟩
  obtain ⟨rn, hrn⟩ : ∃ q : Nat, q = Un % an := ⟨_, rfl⟩
  have hqr := Nat.div_add_mod' Un an
  rw [← hqn, ← hrn] at hqr
  have hrl := Nat.mod_lt Un (show an > 0 by omega)
  rw [← hrn] at hrl
  have K0 : Knuth Un u1n an bn qn rn := by rw [hqn, hrn]; exact Knuth.start I
  have K0t := K0.top
  obtain ⟨Q1, hQ1⟩ : ∃ q : Nat, q = (Un * 4294967296 + u1n) / Yn := ⟨_, rfl⟩
  obtain ⟨R1, hR1⟩ : ∃ q : Nat, q = (Un * 4294967296 + u1n) % Yn := ⟨_, rfl⟩
  have hQR := Nat.div_add_mod' (Un * 4294967296 + u1n) Yn
  rw [← hQ1, ← hR1] at hQR
  have hRl := Nat.mod_lt (Un * 4294967296 + u1n) (show Yn > 0 by omega)
  rw [← hR1] at hRl
  have hQl : Q1 < 4294967296 := by rw [hQ1]; exact digit_lt S6 (by omega)
  have hYn : an * 4294967296 + bn = Yn := by omega
  have I2 : KnuthIn R1 u0n an bn := ⟨by omega, by omega, by omega, by omega, by omega⟩
  obtain ⟨qm, hqm⟩ : ∃ q : Nat, q = R1 / an := ⟨_, rfl⟩
  obtain ⟨rm, hrm⟩ : ∃ q : Nat, q = R1 % an := ⟨_, rfl⟩
  have hqr2 := Nat.div_add_mod' R1 an
  rw [← hqm, ← hrm] at hqr2
  have hrl2 := Nat.mod_lt R1 (show an > 0 by omega)
  rw [← hrm] at hrl2
  have K1 : Knuth R1 u0n an bn qm rm := by rw [hqm, hrm]; exact Knuth.start I2
  have K1t := K1.top
  obtain ⟨Q0_, hQ0⟩ : ∃ q : Nat, q = (R1 * 4294967296 + u0n) / Yn := ⟨_, rfl⟩
  obtain ⟨R0_, hR0⟩ : ∃ q : Nat, q = (R1 * 4294967296 + u0n) % Yn := ⟨_, rfl⟩
  have hQR0 := Nat.div_add_mod' (R1 * 4294967296 + u0n) Yn
  rw [← hQ0, ← hR0] at hQR0
  have hRl0 := Nat.mod_lt (R1 * 4294967296 + u0n) (show Yn > 0 by omega)
  rw [← hR0] at hRl0
  have hQl0 : Q0_ < 4294967296 := by rw [hQ0]; exact digit_lt hRl (by omega)
  have hout := shifted_out S hy0
  rw [← hQ1, ← hR1, ← hQ0, ← hR0] at hout
  obtain ⟨m87, h87⟩ : ∃ m : Nat, m = Un * 4294967296 % 18446744073709551616 := ⟨_, rfl⟩
  obtain ⟨m89, h89⟩ : ∃ m : Nat, m = (m87 + u1n) % 18446744073709551616 := ⟨_, rfl⟩
  obtain ⟨m92, h92⟩ : ∃ m : Nat, m = Q1 * Yn % 18446744073709551616 := ⟨_, rfl⟩
  obtain ⟨m126, h126⟩ : ∃ m : Nat, m = R1 * 4294967296 % 18446744073709551616 := ⟨_, rfl⟩
  obtain ⟨m128, h128⟩ : ∃ m : Nat, m = (m126 + u0n) % 18446744073709551616 := ⟨_, rfl⟩
  obtain ⟨m131, h131⟩ : ∃ m : Nat, m = Q0_ * Yn % 18446744073709551616 := ⟨_, rfl⟩
  obtain ⟨f0, hf0⟩ : ∃ m : Nat, m = R0_ / 2 ^ s := ⟨_, rfl⟩
  rw [← hf0] at hout
  clear b1 b2 b3 b4 g1 g2
  refine enterK 135 Try.func68 rfl rfl rfl ?_
  intro a hF Q0 hR0 hN0
  have hM := Mem.start w0
  refine wp_seq_k fun K1 hK1 => ?_
  refine wp_region_lit ?_
  refine sB 2 [(6, .int .u64 0), (7, .int .u64 0)] hF (by kernel_rfl) fun a hF => ?_
  refine wpList_nil ?_
  refine hK1 _ _ ?_
  refine wp_seq_k fun K2 hK2 => ?_
  refine wp_seq_k fun K3 hK3 => ?_
  refine wp_region_lit ?_
  refine sB 1 [(19, .int .u64 (y : Int))] hF (by kernel_rfl) fun a hF => ?_
  refine wl (eP 20 (v0 := .bool (decide ((y : Int) = 0))) (v := .bool false) hF (by kernel_rfl) (fun _ => by kernel_rfl) (bF (by omega)) fun a hF => ?_)
  refine wpList_nil ?_
  refine hK3 _ _ ?_
  refine cF hF (by kernel_rfl) (by kernel_rfl) ?_
  refine wp_skip ?_
  refine hK2 _ _ ?_
  refine wp_seq_k fun K4 hK4 => ?_
  refine wp_seq_k fun K5 hK5 => ?_
  refine wp_region_lit ?_
  refine sB 2 [(22, .int .u64 (y : Int)), (23, .int .u64 (hi : Int))] hF (by kernel_rfl) fun a hF => ?_
  refine wl (eP 24 (v0 := .bool (decide ((y : Int) ≤ (hi : Int)))) (v := .bool false) hF (by kernel_rfl) (fun _ => by kernel_rfl) (bF (by omega)) fun a hF => ?_)
  refine wpList_nil ?_
  refine hK5 _ _ ?_
  refine cF hF (by kernel_rfl) (by kernel_rfl) ?_
  refine wp_skip ?_
  refine hK4 _ _ ?_
  refine wp_seq_k fun K6 hK6 => ?_
  refine wp_seq_k fun K7 hK7 => ?_
  refine wp_region_lit ?_
  refine sB 2 [(26, .int .u64 (hi : Int)), (27, .bool (decide ((hi : Int) = 0)))] hF (by kernel_rfl) fun a hF => ?_
  refine wpList_nil ?_
  refine hK7 _ _ ?_
  by_cases hz1 : (hi : Int) = 0
  · skip
    replace hF := hF.c hF (i := 27) (v := .bool true) rfl (bT hz1)
    refine cT hF (by kernel_rfl) (by kernel_rfl) ?_
    refine wp_seq_k fun K8 hK8 => ?_
    refine rQ hM (by kernel_rfl) (by kernel_rfl) ?_
    refine eQ 28 (v0 := .int .u64 (lo : Int)) (v := .int .u64 (lo : Int)) hF (by kernel_rfl) (fun _ => by kernel_rfl) rfl fun a hF => ?_
    refine eQ 29 (v0 := .int .u64 (y : Int)) (v := .int .u64 (y : Int)) hF (by kernel_rfl) (fun _ => by kernel_rfl) rfl fun a hF => ?_
    refine eQ2 30 (v := .int .u64 ((lo : Int) / (y : Int))) hF (by kernel_rfl) (yld_quo (lo : Int) (y : Int) hF rfl (by kernel_rfl) (by kernel_rfl) (by kernel_rfl) (by omega) (qpos_u64 (by omega) (by omega) (by omega))) fun a hF => ?_
    have := ediv_le_self_of (p := (lo : Int)) (q := (y : Int)) (by omega) (by omega)
    refine eQ 31 (v0 := .int .u64 (lo : Int)) (v := .int .u64 (lo : Int)) hF (by kernel_rfl) (fun _ => by kernel_rfl) rfl fun a hF => ?_
    refine eQ 32 (v0 := .int .u64 (y : Int)) (v := .int .u64 (y : Int)) hF (by kernel_rfl) (fun _ => by kernel_rfl) rfl fun a hF => ?_
    refine eQ2 33 (v := .int .u64 ((lo : Int) % (y : Int))) hF (by kernel_rfl) (yld_rem (lo : Int) (y : Int) hF rfl (by kernel_rfl) (by kernel_rfl) (by kernel_rfl) (by omega) (Int.tmod_eq_emod_of_nonneg (by omega))) fun a hF => ?_
    have := emod_bd (p := (lo : Int)) (q := (y : Int)) (by omega) (by omega)
    refine eQ 6 (v0 := .int .u64 ((lo : Int) / (y : Int))) (v := .int .u64 ((lo : Int) / (y : Int))) hF (by kernel_rfl) (fun _ => by kernel_rfl) rfl fun a hF => ?_
    refine eQ 7 (v0 := .int .u64 ((lo : Int) % (y : Int))) (v := .int .u64 ((lo : Int) % (y : Int))) hF (by kernel_rfl) (fun _ => by kernel_rfl) rfl fun a hF => ?_
    refine wpQuiet_nil ?_
    intro w hM
    refine hK8 _ _ ?_
    refine wp_ret ?_
    refine hR0 _ _ ?_
    refine ret_of hF hM (.tmp rfl (.tmp rfl (.nil))) ?_
    have hh0 : hi = 0 := by omega
    subst hh0
    exact ⟨ret_eq (by simp [pack]), hM.bel⟩
  · skip
    replace hF := hF.c hF (i := 27) (v := .bool false) rfl (bF hz1)
    refine cF hF (by kernel_rfl) (by kernel_rfl) ?_
    refine wp_skip ?_
    refine hK6 _ _ ?_
    refine wp_seq_k fun K9 hK9 => ?_
    refine wp_region_lit ?_
    refine sB 1 [(34, .int .u64 (y : Int))] hF (by kernel_rfl) fun a hF => ?_
    refine wl (eM 35 (v := .int .i64 (s : Int)) hF hM (by kernel_rfl) (yld_call (f := 71) (args := #[.int .u64 (y : Int)]) hF (by kernel_rfl) (fun _ => by kernel_rfl) (fun w hM => lead_s w)) fun a w hF hM => ?_)
    refine wl (eP 36 (v0 := .int .u64 (IntKind.u64.wrap (s : Int))) (v := .int .u64 (s : Int)) hF (by kernel_rfl) (fun _ => by kernel_rfl) (vi (IntWalk.u64_in _ (by omega))) fun a hF => ?_)
    refine sB 1 [(8, .int .u64 (s : Int))] hF (by kernel_rfl) fun a hF => ?_
    refine wpList_nil ?_
    refine hK9 _ _ ?_
    refine wp_seq_k fun K10 hK10 => ?_
    refine wp_region_lit ?_
    refine sB 2 [(37, .int .u64 (y : Int)), (38, .int .u64 (s : Int))] hF (by kernel_rfl) fun a hF => ?_
    refine wl (eM 39 (v := .int .u64 (Yn : Int)) hF hM (by kernel_rfl) (yld_shl (yk := .u64) (y : Int) (s : Int) hF rfl (by kernel_rfl) (by kernel_rfl) (by kernel_rfl) (by omega) (shlN y s Yn (by omega) (by omega) S.hY S2)) fun a w hF hM => ?_)
    refine sB 1 [(2, .int .u64 (Yn : Int))] hF (by kernel_rfl) fun a hF => ?_
    refine wpList_nil ?_
    refine hK10 _ _ ?_
    refine wp_seq_k fun K11 hK11 => ?_
    refine wp_region_lit ?_
    refine sB 1 [(40, .int .u64 (Yn : Int))] hF (by kernel_rfl) fun a hF => ?_
    refine wl (eM 41 (v := .int .u64 (an : Int)) hF hM (by kernel_rfl) (yld_shr (yk := .u64) (Yn : Int) 32 hF rfl (by kernel_rfl) (by kernel_rfl) (by kernel_rfl) (by omega) (shrN Yn 32 an (by decide) (by decide) S3)) fun a w hF hM => ?_)
    refine sB 1 [(9, .int .u64 (an : Int))] hF (by kernel_rfl) fun a hF => ?_
    refine wpList_nil ?_
    refine hK11 _ _ ?_
    refine wp_seq_k fun K12 hK12 => ?_
    refine wp_region_lit ?_
    refine sB 1 [(42, .int .u64 (Yn : Int))] hF (by kernel_rfl) fun a hF => ?_
    refine wl (eP 43 (v0 := .int .u64 (IntKind.u64.wrap ((BitVec.ofInt 64 (Yn : Int) &&& BitVec.ofInt 64 4294967295).toNat : Int))) (v := .int .u64 (bn : Int)) hF (by kernel_rfl) (fun _ => by kernel_rfl) (vi (andMask Yn bn S2 S4)) fun a hF => ?_)
    refine sB 1 [(10, .int .u64 (bn : Int))] hF (by kernel_rfl) fun a hF => ?_
    refine wpList_nil ?_
    refine hK12 _ _ ?_
    refine wp_seq_k fun K13 hK13 => ?_
    refine wp_region_lit ?_
    refine sB 2 [(44, .int .u64 (hi : Int)), (45, .int .u64 (s : Int))] hF (by kernel_rfl) fun a hF => ?_
    refine wl (eM 46 (v := .int .u64 (Hn : Int)) hF hM (by kernel_rfl) (yld_shl (yk := .u64) (hi : Int) (s : Int) hF rfl (by kernel_rfl) (by kernel_rfl) (by kernel_rfl) (by omega) (shlN hi s Hn (by omega) (by omega) S.hH (by omega))) fun a w hF hM => ?_)
    refine sB 2 [(47, .int .u64 (lo : Int)), (48, .int .u64 (s : Int))] hF (by kernel_rfl) fun a hF => ?_
    refine wl (eP 49 (v0 := .int .u64 (IntKind.u64.wrap (64 - (s : Int)))) (v := .int .u64 (64 - (s : Int))) hF (by kernel_rfl) (fun _ => by kernel_rfl) (vi (IntWalk.u64_in _ (by omega))) fun a hF => ?_)
    refine wl (eM 50 (v := .int .u64 (l2 : Int)) hF hM (by kernel_rfl) (yld_shr (yk := .u64) (lo : Int) (64 - (s : Int)) hF rfl (by kernel_rfl) (by kernel_rfl) (by kernel_rfl) (by omega) (shrN lo (64 - s) l2 (by omega) (by omega) hl2)) fun a w hF hM => ?_)
    refine wl (eP 51 (v0 := .int .u64 (IntKind.u64.wrap ((BitVec.ofInt 64 (Hn : Int) ||| BitVec.ofInt 64 (l2 : Int)).toNat : Int))) (v := .int .u64 (Un : Int)) hF (by kernel_rfl) (fun _ => by kernel_rfl) (vi (orN Hn l2 Un (by omega) (by omega) (by rw [hl2]; exact S.or))) fun a hF => ?_)
    refine sB 1 [(11, .int .u64 (Un : Int))] hF (by kernel_rfl) fun a hF => ?_
    refine wpList_nil ?_
    refine hK13 _ _ ?_
    refine wp_seq_k fun K14 hK14 => ?_
    refine wp_region_lit ?_
    refine sB 2 [(52, .int .u64 (lo : Int)), (53, .int .u64 (s : Int))] hF (by kernel_rfl) fun a hF => ?_
    refine wl (eM 54 (v := .int .u64 (Ln : Int)) hF hM (by kernel_rfl) (yld_shl (yk := .u64) (lo : Int) (s : Int) hF rfl (by kernel_rfl) (by kernel_rfl) (by kernel_rfl) (by omega) (shlM lo s Ln (by omega) (by omega) S7)) fun a w hF hM => ?_)
    refine sB 1 [(12, .int .u64 (Ln : Int))] hF (by kernel_rfl) fun a hF => ?_
    refine wpList_nil ?_
    refine hK14 _ _ ?_
    refine wp_seq_k fun K15 hK15 => ?_
    refine wp_region_lit ?_
    refine sB 1 [(55, .int .u64 (Ln : Int))] hF (by kernel_rfl) fun a hF => ?_
    refine wl (eM 56 (v := .int .u64 (u1n : Int)) hF hM (by kernel_rfl) (yld_shr (yk := .u64) (Ln : Int) 32 hF rfl (by kernel_rfl) (by kernel_rfl) (by kernel_rfl) (by omega) (shrN Ln 32 u1n (by decide) (by decide) S8)) fun a w hF hM => ?_)
    refine sB 1 [(13, .int .u64 (u1n : Int))] hF (by kernel_rfl) fun a hF => ?_
    refine wpList_nil ?_
    refine hK15 _ _ ?_
    refine wp_seq_k fun K16 hK16 => ?_
    refine wp_region_lit ?_
    refine sB 1 [(57, .int .u64 (Ln : Int))] hF (by kernel_rfl) fun a hF => ?_
    refine wl (eP 58 (v0 := .int .u64 (IntKind.u64.wrap ((BitVec.ofInt 64 (Ln : Int) &&& BitVec.ofInt 64 4294967295).toNat : Int))) (v := .int .u64 (u0n : Int)) hF (by kernel_rfl) (fun _ => by kernel_rfl) (vi (andMask Ln u0n (by omega) S9)) fun a hF => ?_)
    refine sB 1 [(14, .int .u64 (u0n : Int))] hF (by kernel_rfl) fun a hF => ?_
    refine wpList_nil ?_
    refine hK16 _ _ ?_
    refine wp_seq_k fun K17 hK17 => ?_
    refine wp_region_lit ?_
    refine sB 2 [(59, .int .u64 (Un : Int)), (60, .int .u64 (an : Int))] hF (by kernel_rfl) fun a hF => ?_
    refine wl (eM 61 (v := .int .u64 (qn : Int)) hF hM (by kernel_rfl) (yld_quo (Un : Int) (an : Int) hF rfl (by kernel_rfl) (by kernel_rfl) (by kernel_rfl) (by omega) (by rw [qpos_u64 (by omega) (by omega) (by omega), hqn]; rfl)) fun a w hF hM => ?_)
    refine sB 1 [(15, .int .u64 (qn : Int))] hF (by kernel_rfl) fun a hF => ?_
    refine wpList_nil ?_
    refine hK17 _ _ ?_
    refine wp_seq_k fun K18 hK18 => ?_
    refine wp_region_lit ?_
    refine sB 3 [(62, .int .u64 (Un : Int)), (63, .int .u64 (qn : Int)), (64, .int .u64 (an : Int))] hF (by kernel_rfl) fun a hF => ?_
    refine wl (eP 65 (v0 := .int .u64 (IntKind.u64.wrap ((qn : Int) * (an : Int)))) (v := .int .u64 ((qn : Int) * (an : Int))) hF (by kernel_rfl) (fun _ => by kernel_rfl) (vi (muls (by have := cast_eq hqr; omega))) fun a hF => ?_)
    refine wl (eP 66 (v0 := .int .u64 (IntKind.u64.wrap ((Un : Int) - (qn : Int) * (an : Int)))) (v := .int .u64 (rn : Int)) hF (by kernel_rfl) (fun _ => by kernel_rfl) (vi (by rw [u64_wrap]; have := cast_eq hqr; omega)) fun a hF => ?_)
    refine sB 1 [(16, .int .u64 (rn : Int))] hF (by kernel_rfl) fun a hF => ?_
    refine wpList_nil ?_
    refine hK18 _ _ ?_
    refine wp_seq_k fun K19 hK19 => ?_
    have hJ19 : ∀ (a : Act) (w : World), Fr 135 [(15, some (.int .u64 (Q1 : Int))), (2, some (.int .u64 (Yn : Int))), (6, some (.int .u64 0)), (7, some (.int .u64 0)), (8, some (.int .u64 (s : Int))), (9, some (.int .u64 (an : Int))), (10, some (.int .u64 (bn : Int))), (11, some (.int .u64 (Un : Int))), (13, some (.int .u64 (u1n : Int))), (14, some (.int .u64 (u0n : Int)))] a → Mem w0.heap.size w0 [] w → K19 a w := by
      intro a w hF hM
      refine hK19 _ _ ?_
      refine wp_seq_k fun K20 hK20 => ?_
      refine wp_region_lit ?_
      refine sB 1 [(86, .int .u64 (Un : Int))] hF (by kernel_rfl) fun a hF => ?_
      refine wl (eP 87 (v0 := .int .u64 (IntKind.u64.wrap ((Un : Int) * 4294967296))) (v := .int .u64 (m87 : Int)) hF (by kernel_rfl) (fun _ => by kernel_rfl) (vi (by rw [u64_wrap]; omega)) fun a hF => ?_)
      refine sB 1 [(88, .int .u64 (u1n : Int))] hF (by kernel_rfl) fun a hF => ?_
      refine wl (eP 89 (v0 := .int .u64 (IntKind.u64.wrap ((m87 : Int) + (u1n : Int)))) (v := .int .u64 (m89 : Int)) hF (by kernel_rfl) (fun _ => by kernel_rfl) (vi (by rw [u64_wrap]; omega)) fun a hF => ?_)
      refine sB 2 [(90, .int .u64 (Q1 : Int)), (91, .int .u64 (Yn : Int))] hF (by kernel_rfl) fun a hF => ?_
      refine wl (eP 92 (v0 := .int .u64 (IntKind.u64.wrap ((Q1 : Int) * (Yn : Int)))) (v := .int .u64 (m92 : Int)) hF (by kernel_rfl) (fun _ => by kernel_rfl) (vi (mulm h92)) fun a hF => ?_)
      refine wl (eP 93 (v0 := .int .u64 (IntKind.u64.wrap ((m89 : Int) - (m92 : Int)))) (v := .int .u64 (R1 : Int)) hF (by kernel_rfl) (fun _ => by kernel_rfl) (vi (by rw [u64_wrap]; omega)) fun a hF => ?_)
      refine sB 1 [(17, .int .u64 (R1 : Int))] hF (by kernel_rfl) fun a hF => ?_
      refine wpList_nil ?_
      refine hK20 _ _ ?_
      refine wp_seq_k fun K21 hK21 => ?_
      refine wp_region_lit ?_
      refine sB 2 [(94, .int .u64 (R1 : Int)), (95, .int .u64 (an : Int))] hF (by kernel_rfl) fun a hF => ?_
      refine wl (eM 96 (v := .int .u64 (qm : Int)) hF hM (by kernel_rfl) (yld_quo (R1 : Int) (an : Int) hF rfl (by kernel_rfl) (by kernel_rfl) (by kernel_rfl) (by omega) (by rw [qpos_u64 (by omega) (by omega) (by omega), hqm]; rfl)) fun a w hF hM => ?_)
      refine sB 1 [(18, .int .u64 (qm : Int))] hF (by kernel_rfl) fun a hF => ?_
      refine wpList_nil ?_
      refine hK21 _ _ ?_
      refine wp_seq_k fun K22 hK22 => ?_
      refine wp_region_lit ?_
      refine sB 3 [(97, .int .u64 (R1 : Int)), (98, .int .u64 (qm : Int)), (99, .int .u64 (an : Int))] hF (by kernel_rfl) fun a hF => ?_
      refine wl (eP 100 (v0 := .int .u64 (IntKind.u64.wrap ((qm : Int) * (an : Int)))) (v := .int .u64 ((qm : Int) * (an : Int))) hF (by kernel_rfl) (fun _ => by kernel_rfl) (vi (muls (by have := cast_eq hqr2; omega))) fun a hF => ?_)
      refine wl (eP 101 (v0 := .int .u64 (IntKind.u64.wrap ((R1 : Int) - (qm : Int) * (an : Int)))) (v := .int .u64 (rm : Int)) hF (by kernel_rfl) (fun _ => by kernel_rfl) (vi (by rw [u64_wrap]; have := cast_eq hqr2; omega)) fun a hF => ?_)
      refine sB 1 [(16, .int .u64 (rm : Int))] hF (by kernel_rfl) fun a hF => ?_
      refine wpList_nil ?_
      refine hK22 _ _ ?_
      refine wp_seq_k fun K23 hK23 => ?_
      have hJ23 : ∀ (a : Act) (w : World), Fr 135 [(18, some (.int .u64 (Q0_ : Int))), (2, some (.int .u64 (Yn : Int))), (6, some (.int .u64 0)), (7, some (.int .u64 0)), (8, some (.int .u64 (s : Int))), (14, some (.int .u64 (u0n : Int))), (15, some (.int .u64 (Q1 : Int))), (17, some (.int .u64 (R1 : Int)))] a → Mem w0.heap.size w0 [] w → K23 a w := by
        intro a w hF hM
        refine hK23 _ _ ?_
        refine wp_seq_k fun K24 hK24 => ?_
        refine wp_region_lit ?_
        refine sB 1 [(121, .int .u64 (Q1 : Int))] hF (by kernel_rfl) fun a hF => ?_
        refine wl (eP 122 (v0 := .int .u64 (IntKind.u64.wrap ((Q1 : Int) * 4294967296))) (v := .int .u64 ((Q1 : Int) * 4294967296)) hF (by kernel_rfl) (fun _ => by kernel_rfl) (vi (IntWalk.u64_in _ (by omega))) fun a hF => ?_)
        refine sB 1 [(123, .int .u64 (Q0_ : Int))] hF (by kernel_rfl) fun a hF => ?_
        refine wl (eP 124 (v0 := .int .u64 (IntKind.u64.wrap ((Q1 : Int) * 4294967296 + (Q0_ : Int)))) (v := .int .u64 ((Q1 : Int) * 4294967296 + (Q0_ : Int))) hF (by kernel_rfl) (fun _ => by kernel_rfl) (vi (IntWalk.u64_in _ (by omega))) fun a hF => ?_)
        refine sB 1 [(125, .int .u64 (R1 : Int))] hF (by kernel_rfl) fun a hF => ?_
        refine wl (eP 126 (v0 := .int .u64 (IntKind.u64.wrap ((R1 : Int) * 4294967296))) (v := .int .u64 (m126 : Int)) hF (by kernel_rfl) (fun _ => by kernel_rfl) (vi (by rw [u64_wrap]; omega)) fun a hF => ?_)
        refine sB 1 [(127, .int .u64 (u0n : Int))] hF (by kernel_rfl) fun a hF => ?_
        refine wl (eP 128 (v0 := .int .u64 (IntKind.u64.wrap ((m126 : Int) + (u0n : Int)))) (v := .int .u64 (m128 : Int)) hF (by kernel_rfl) (fun _ => by kernel_rfl) (vi (by rw [u64_wrap]; omega)) fun a hF => ?_)
        refine sB 2 [(129, .int .u64 (Q0_ : Int)), (130, .int .u64 (Yn : Int))] hF (by kernel_rfl) fun a hF => ?_
        refine wl (eP 131 (v0 := .int .u64 (IntKind.u64.wrap ((Q0_ : Int) * (Yn : Int)))) (v := .int .u64 (m131 : Int)) hF (by kernel_rfl) (fun _ => by kernel_rfl) (vi (mulm h131)) fun a hF => ?_)
        refine wl (eP 132 (v0 := .int .u64 (IntKind.u64.wrap ((m128 : Int) - (m131 : Int)))) (v := .int .u64 (R0_ : Int)) hF (by kernel_rfl) (fun _ => by kernel_rfl) (vi (by rw [u64_wrap]; omega)) fun a hF => ?_)
        refine sB 1 [(133, .int .u64 (s : Int))] hF (by kernel_rfl) fun a hF => ?_
        refine wl (eM 134 (v := .int .u64 (f0 : Int)) hF hM (by kernel_rfl) (yld_shr (yk := .u64) (R0_ : Int) (s : Int) hF rfl (by kernel_rfl) (by kernel_rfl) (by kernel_rfl) (by omega) (shrN R0_ s f0 (by omega) (by omega) hf0)) fun a w hF hM => ?_)
        refine sB 2 [(6, .int .u64 ((Q1 : Int) * 4294967296 + (Q0_ : Int))), (7, .int .u64 (f0 : Int))] hF (by kernel_rfl) fun a hF => ?_
        refine wpList_nil ?_
        refine hK24 _ _ ?_
        refine wp_ret ?_
        refine hR0 _ _ ?_
        refine ret_of hF hM (.tmp rfl (.tmp rfl (.nil))) ?_
        exact ⟨ret_eq (by rw [← hout.1, ← hout.2]; simp [pack]), hM.bel⟩
      refine wp_block ?_
      refine wp_loop_k (G := Nat × Nat) (fun gg a w => Fr 135 [(16, some (.int .u64 (gg.2 : Int))), (18, some (.int .u64 (gg.1 : Int))), (2, some (.int .u64 (Yn : Int))), (6, some (.int .u64 0)), (7, some (.int .u64 0)), (8, some (.int .u64 (s : Int))), (9, some (.int .u64 (an : Int))), (10, some (.int .u64 (bn : Int))), (14, some (.int .u64 (u0n : Int))), (15, some (.int .u64 (Q1 : Int))), (17, some (.int .u64 (R1 : Int)))] a ∧ Mem w0.heap.size w0 [] w ∧ (Knuth R1 u0n an bn gg.1 gg.2) ∧ ((gg.1 : Int) ≤ 4294967297) ∧ ((gg.2 : Int) < 4294967296) ∧ (0 ≤ (gg.1 : Int))) (fun gg => gg.1) (qm, rm) ?_ ?_
      · refine ⟨((((((((((((Fr.nil hF).c hF (i := 17) rfl rfl).c hF (i := 15) rfl rfl).c hF (i := 14) rfl rfl).c hF (i := 10) rfl rfl).c hF (i := 9) rfl rfl).c hF (i := 8) rfl rfl).c hF (i := 7) rfl rfl).c hF (i := 6) rfl rfl).c hF (i := 2) rfl rfl).c hF (i := 18) rfl rfl).c hF (i := 16) rfl rfl), (hM.sub Sub.nil), (show Knuth R1 u0n an bn qm rm from by assumption), (show (qm : Int) ≤ 4294967297 from by omega), (show (rm : Int) < 4294967296 from by omega), (show 0 ≤ (qm : Int) from by omega)⟩
      · intro gg a w hI
        intro K25 hK25
        obtain ⟨q, r⟩ := gg
        try dsimp only at hI hK25
        obtain ⟨hF, hM, hz2, hz3, hz4, hz5⟩ := hI
        have K : Knuth R1 u0n an bn q r := by assumption
        refine wp_seq_k fun K26 hK26 => ?_
        refine wp_seq_k fun K27 hK27 => ?_
        by_cases hz6 : 4294967296 ≤ (q : Int)
        · skip
          refine wp_region_lit ?_
          refine sB 1 [(102, .int .u64 (q : Int))] hF (by kernel_rfl) fun a hF => ?_
          refine wl (eP 103 (v0 := .bool (decide (4294967296 ≤ (q : Int)))) (v := .bool true) hF (by kernel_rfl) (fun _ => by kernel_rfl) (bT hz6) fun a hF => ?_)
          refine sB 10 [(104, .bool true), (105, undef), (106, undef), (107, undef), (108, undef), (109, undef), (110, undef), (111, undef), (112, undef), (113, .bool true)] hF (by kernel_rfl) fun a hF => ?_
          refine wpList_nil ?_
          refine hK27 _ _ ?_
          refine cT hF (by kernel_rfl) (by kernel_rfl) ?_
          refine wp_skip ?_
          refine hK26 _ _ ?_
          refine wp_block ?_
          refine wp_seq_k fun K28 hK28 => ?_
          have hst := K.step I2 (.inl (by omega))
          refine wp_region_lit ?_
          refine sB 1 [(114, .int .u64 (q : Int))] hF (by kernel_rfl) fun a hF => ?_
          refine wl (eP 115 (v0 := .int .u64 (IntKind.u64.wrap ((q : Int) - 1))) (v := .int .u64 ((q : Int) - 1)) hF (by kernel_rfl) (fun _ => by kernel_rfl) (vi (IntWalk.u64_in _ (by omega))) fun a hF => ?_)
          refine sB 1 [(18, .int .u64 ((q : Int) - 1))] hF (by kernel_rfl) fun a hF => ?_
          refine wpList_nil ?_
          refine hK28 _ _ ?_
          refine wp_seq_k fun K29 hK29 => ?_
          refine wp_region_lit ?_
          refine sB 2 [(116, .int .u64 (r : Int)), (117, .int .u64 (an : Int))] hF (by kernel_rfl) fun a hF => ?_
          refine wl (eP 118 (v0 := .int .u64 (IntKind.u64.wrap ((r : Int) + (an : Int)))) (v := .int .u64 ((r : Int) + (an : Int))) hF (by kernel_rfl) (fun _ => by kernel_rfl) (vi (IntWalk.u64_in _ (by omega))) fun a hF => ?_)
          refine sB 1 [(16, .int .u64 ((r : Int) + (an : Int)))] hF (by kernel_rfl) fun a hF => ?_
          refine wpList_nil ?_
          refine hK29 _ _ ?_
          refine wp_seq_k fun K30 hK30 => ?_
          refine wp_region_lit ?_
          refine sB 2 [(119, .int .u64 ((r : Int) + (an : Int))), (120, .bool (decide (4294967296 ≤ (r : Int) + (an : Int))))] hF (by kernel_rfl) fun a hF => ?_
          refine wpList_nil ?_
          refine hK30 _ _ ?_
          by_cases hz7 : 4294967296 ≤ (r : Int) + (an : Int)
          · skip
            replace hF := hF.c hF (i := 120) (v := .bool true) rfl (bT hz7)
            refine cT hF (by kernel_rfl) (by kernel_rfl) ?_
            refine wp_exit ?_
            have hfin : q - 1 = Q0_ := by rw [hQ0, ← hYn]; exact hst.2.2.out I2 (by omega) (by omega)
            exact hJ23  _ _ (((((((((Fr.nil hF).c hF (i := 17) rfl rfl).c hF (i := 15) rfl rfl).c hF (i := 14) rfl rfl).c hF (i := 8) rfl rfl).c hF (i := 7) rfl rfl).c hF (i := 6) rfl rfl).c hF (i := 2) rfl rfl).c hF (i := 18) rfl (vi (show ((q : Int) - 1 : Int) = (Q0_ : Int) from by omega))) (hM.sub Sub.nil)
          · skip
            replace hF := hF.c hF (i := 120) (v := .bool false) rfl (bF hz7)
            refine cF hF (by kernel_rfl) (by kernel_rfl) ?_
            refine wp_skip ?_
            obtain ⟨q2, hq2⟩ : ∃ m : Nat, m = q - 1 := ⟨_, rfl⟩
            refine hK25 _ _ ⟨(q2, r + an), ⟨((((((((((((Fr.nil hF).c hF (i := 17) rfl rfl).c hF (i := 15) rfl rfl).c hF (i := 14) rfl rfl).c hF (i := 10) rfl rfl).c hF (i := 9) rfl rfl).c hF (i := 8) rfl rfl).c hF (i := 7) rfl rfl).c hF (i := 6) rfl rfl).c hF (i := 2) rfl rfl).c hF (i := 18) rfl (vi (show ((q : Int) - 1 : Int) = (q2 : Int) from by omega))).c hF (i := 16) rfl (vi (show ((r : Int) + (an : Int) : Int) = ((r + an) : Int) from by omega))), (hM.sub Sub.nil), (show Knuth R1 u0n an bn q2 (r + an) from by rw [hq2]; exact hst.2.2), (show (q2 : Int) ≤ 4294967297 from by omega), (show ((r + an) : Int) < 4294967296 from by omega), (show 0 ≤ (q2 : Int) from by omega)⟩, (show q2 < q from by omega)⟩
        · skip
          refine wp_region_lit ?_
          refine sB 1 [(102, .int .u64 (q : Int))] hF (by kernel_rfl) fun a hF => ?_
          refine wl (eP 103 (v0 := .bool (decide (4294967296 ≤ (q : Int)))) (v := .bool false) hF (by kernel_rfl) (fun _ => by kernel_rfl) (bF hz6) fun a hF => ?_)
          refine sB 3 [(104, .bool false), (105, .int .u64 (q : Int)), (106, .int .u64 (bn : Int))] hF (by kernel_rfl) fun a hF => ?_
          have hz8 : 0 ≤ (q : Int) * (bn : Int) ∧ (q : Int) * (bn : Int) ≤ 18446744065119617025 := mul_bd (0) (4294967295) (0) (4294967295) (by omega) (by omega) (by omega) (by omega) (by decide)
          refine wl (eP 107 (v0 := .int .u64 (IntKind.u64.wrap ((q : Int) * (bn : Int)))) (v := .int .u64 ((q : Int) * (bn : Int))) hF (by kernel_rfl) (fun _ => by kernel_rfl) (vi (IntWalk.u64_in _ (by omega))) fun a hF => ?_)
          refine sB 1 [(108, .int .u64 (r : Int))] hF (by kernel_rfl) fun a hF => ?_
          refine wl (eP 109 (v0 := .int .u64 (IntKind.u64.wrap (4294967296 * (r : Int)))) (v := .int .u64 (4294967296 * (r : Int))) hF (by kernel_rfl) (fun _ => by kernel_rfl) (vi (IntWalk.u64_in _ (by omega))) fun a hF => ?_)
          refine sB 1 [(110, .int .u64 (u0n : Int))] hF (by kernel_rfl) fun a hF => ?_
          refine wl (eP 111 (v0 := .int .u64 (IntKind.u64.wrap (4294967296 * (r : Int) + (u0n : Int)))) (v := .int .u64 (4294967296 * (r : Int) + (u0n : Int))) hF (by kernel_rfl) (fun _ => by kernel_rfl) (vi (IntWalk.u64_in _ (by omega))) fun a hF => ?_)
          refine sB 2 [(112, .bool (decide (4294967296 * (r : Int) + (u0n : Int) < (q : Int) * (bn : Int)))), (113, .bool (decide (4294967296 * (r : Int) + (u0n : Int) < (q : Int) * (bn : Int))))] hF (by kernel_rfl) fun a hF => ?_
          refine wpList_nil ?_
          refine hK27 _ _ ?_
          by_cases hz9 : 4294967296 * (r : Int) + (u0n : Int) < (q : Int) * (bn : Int)
          · skip
            replace hF := hF.c hF (i := 112) (v := .bool true) rfl (bT hz9)
            replace hF := hF.c hF (i := 113) (v := .bool true) rfl (bT hz9)
            refine cT hF (by kernel_rfl) (by kernel_rfl) ?_
            refine wp_skip ?_
            refine hK26 _ _ ?_
            refine wp_block ?_
            refine wp_seq_k fun K31 hK31 => ?_
            have hst := K.step I2 (.inr (cast_lt hz9))
            refine wp_region_lit ?_
            refine sB 1 [(114, .int .u64 (q : Int))] hF (by kernel_rfl) fun a hF => ?_
            refine wl (eP 115 (v0 := .int .u64 (IntKind.u64.wrap ((q : Int) - 1))) (v := .int .u64 ((q : Int) - 1)) hF (by kernel_rfl) (fun _ => by kernel_rfl) (vi (IntWalk.u64_in _ (by omega))) fun a hF => ?_)
            refine sB 1 [(18, .int .u64 ((q : Int) - 1))] hF (by kernel_rfl) fun a hF => ?_
            refine wpList_nil ?_
            refine hK31 _ _ ?_
            refine wp_seq_k fun K32 hK32 => ?_
            refine wp_region_lit ?_
            refine sB 2 [(116, .int .u64 (r : Int)), (117, .int .u64 (an : Int))] hF (by kernel_rfl) fun a hF => ?_
            refine wl (eP 118 (v0 := .int .u64 (IntKind.u64.wrap ((r : Int) + (an : Int)))) (v := .int .u64 ((r : Int) + (an : Int))) hF (by kernel_rfl) (fun _ => by kernel_rfl) (vi (IntWalk.u64_in _ (by omega))) fun a hF => ?_)
            refine sB 1 [(16, .int .u64 ((r : Int) + (an : Int)))] hF (by kernel_rfl) fun a hF => ?_
            refine wpList_nil ?_
            refine hK32 _ _ ?_
            refine wp_seq_k fun K33 hK33 => ?_
            refine wp_region_lit ?_
            refine sB 2 [(119, .int .u64 ((r : Int) + (an : Int))), (120, .bool (decide (4294967296 ≤ (r : Int) + (an : Int))))] hF (by kernel_rfl) fun a hF => ?_
            refine wpList_nil ?_
            refine hK33 _ _ ?_
            by_cases hz10 : 4294967296 ≤ (r : Int) + (an : Int)
            · skip
              replace hF := hF.c hF (i := 120) (v := .bool true) rfl (bT hz10)
              refine cT hF (by kernel_rfl) (by kernel_rfl) ?_
              refine wp_exit ?_
              have hfin : q - 1 = Q0_ := by rw [hQ0, ← hYn]; exact hst.2.2.out I2 (by omega) (by omega)
              exact hJ23  _ _ (((((((((Fr.nil hF).c hF (i := 17) rfl rfl).c hF (i := 15) rfl rfl).c hF (i := 14) rfl rfl).c hF (i := 8) rfl rfl).c hF (i := 7) rfl rfl).c hF (i := 6) rfl rfl).c hF (i := 2) rfl rfl).c hF (i := 18) rfl (vi (show ((q : Int) - 1 : Int) = (Q0_ : Int) from by omega))) (hM.sub Sub.nil)
            · skip
              replace hF := hF.c hF (i := 120) (v := .bool false) rfl (bF hz10)
              refine cF hF (by kernel_rfl) (by kernel_rfl) ?_
              refine wp_skip ?_
              obtain ⟨q2, hq2⟩ : ∃ m : Nat, m = q - 1 := ⟨_, rfl⟩
              refine hK25 _ _ ⟨(q2, r + an), ⟨((((((((((((Fr.nil hF).c hF (i := 17) rfl rfl).c hF (i := 15) rfl rfl).c hF (i := 14) rfl rfl).c hF (i := 10) rfl rfl).c hF (i := 9) rfl rfl).c hF (i := 8) rfl rfl).c hF (i := 7) rfl rfl).c hF (i := 6) rfl rfl).c hF (i := 2) rfl rfl).c hF (i := 18) rfl (vi (show ((q : Int) - 1 : Int) = (q2 : Int) from by omega))).c hF (i := 16) rfl (vi (show ((r : Int) + (an : Int) : Int) = ((r + an) : Int) from by omega))), (hM.sub Sub.nil), (show Knuth R1 u0n an bn q2 (r + an) from by rw [hq2]; exact hst.2.2), (show (q2 : Int) ≤ 4294967297 from by omega), (show ((r + an) : Int) < 4294967296 from by omega), (show 0 ≤ (q2 : Int) from by omega)⟩, (show q2 < q from by omega)⟩
          · skip
            replace hF := hF.c hF (i := 112) (v := .bool false) rfl (bF hz9)
            replace hF := hF.c hF (i := 113) (v := .bool false) rfl (bF hz9)
            refine cF hF (by kernel_rfl) (by kernel_rfl) ?_
            refine wp_exit ?_
            have hfin : q = Q0_ := by rw [hQ0, ← hYn]; exact K.stop I2 (cast_le (Int.not_lt.1 hz9))
            exact hJ23  _ _ (((((((((Fr.nil hF).c hF (i := 17) rfl rfl).c hF (i := 15) rfl rfl).c hF (i := 14) rfl rfl).c hF (i := 8) rfl rfl).c hF (i := 7) rfl rfl).c hF (i := 6) rfl rfl).c hF (i := 2) rfl rfl).c hF (i := 18) rfl (vi (show ((q : Int) : Int) = (Q0_ : Int) from by omega))) (hM.sub Sub.nil)
    refine wp_block ?_
    refine wp_loop_k (G := Nat × Nat) (fun gg a w => Fr 135 [(15, some (.int .u64 (gg.1 : Int))), (16, some (.int .u64 (gg.2 : Int))), (2, some (.int .u64 (Yn : Int))), (6, some (.int .u64 0)), (7, some (.int .u64 0)), (8, some (.int .u64 (s : Int))), (9, some (.int .u64 (an : Int))), (10, some (.int .u64 (bn : Int))), (11, some (.int .u64 (Un : Int))), (13, some (.int .u64 (u1n : Int))), (14, some (.int .u64 (u0n : Int)))] a ∧ Mem w0.heap.size w0 [] w ∧ (Knuth Un u1n an bn gg.1 gg.2) ∧ ((gg.1 : Int) ≤ 4294967297) ∧ ((gg.2 : Int) < 4294967296) ∧ (0 ≤ (gg.1 : Int))) (fun gg => gg.1) (qn, rn) ?_ ?_
    · refine ⟨((((((((((((Fr.nil hF).c hF (i := 14) rfl rfl).c hF (i := 13) rfl rfl).c hF (i := 11) rfl rfl).c hF (i := 10) rfl rfl).c hF (i := 9) rfl rfl).c hF (i := 8) rfl rfl).c hF (i := 7) rfl rfl).c hF (i := 6) rfl rfl).c hF (i := 2) rfl rfl).c hF (i := 16) rfl rfl).c hF (i := 15) rfl rfl), (hM.sub Sub.nil), (show Knuth Un u1n an bn qn rn from by assumption), (show (qn : Int) ≤ 4294967297 from by omega), (show (rn : Int) < 4294967296 from by omega), (show 0 ≤ (qn : Int) from by omega)⟩
    · intro gg a w hI
      intro K34 hK34
      obtain ⟨q, r⟩ := gg
      try dsimp only at hI hK34
      obtain ⟨hF, hM, hz11, hz12, hz13, hz14⟩ := hI
      have K : Knuth Un u1n an bn q r := by assumption
      refine wp_seq_k fun K35 hK35 => ?_
      refine wp_seq_k fun K36 hK36 => ?_
      by_cases hz15 : 4294967296 ≤ (q : Int)
      · skip
        refine wp_region_lit ?_
        refine sB 1 [(67, .int .u64 (q : Int))] hF (by kernel_rfl) fun a hF => ?_
        refine wl (eP 68 (v0 := .bool (decide (4294967296 ≤ (q : Int)))) (v := .bool true) hF (by kernel_rfl) (fun _ => by kernel_rfl) (bT hz15) fun a hF => ?_)
        refine sB 10 [(69, .bool true), (70, undef), (71, undef), (72, undef), (73, undef), (74, undef), (75, undef), (76, undef), (77, undef), (78, .bool true)] hF (by kernel_rfl) fun a hF => ?_
        refine wpList_nil ?_
        refine hK36 _ _ ?_
        refine cT hF (by kernel_rfl) (by kernel_rfl) ?_
        refine wp_skip ?_
        refine hK35 _ _ ?_
        refine wp_block ?_
        refine wp_seq_k fun K37 hK37 => ?_
        have hst := K.step I (.inl (by omega))
        refine wp_region_lit ?_
        refine sB 1 [(79, .int .u64 (q : Int))] hF (by kernel_rfl) fun a hF => ?_
        refine wl (eP 80 (v0 := .int .u64 (IntKind.u64.wrap ((q : Int) - 1))) (v := .int .u64 ((q : Int) - 1)) hF (by kernel_rfl) (fun _ => by kernel_rfl) (vi (IntWalk.u64_in _ (by omega))) fun a hF => ?_)
        refine sB 1 [(15, .int .u64 ((q : Int) - 1))] hF (by kernel_rfl) fun a hF => ?_
        refine wpList_nil ?_
        refine hK37 _ _ ?_
        refine wp_seq_k fun K38 hK38 => ?_
        refine wp_region_lit ?_
        refine sB 2 [(81, .int .u64 (r : Int)), (82, .int .u64 (an : Int))] hF (by kernel_rfl) fun a hF => ?_
        refine wl (eP 83 (v0 := .int .u64 (IntKind.u64.wrap ((r : Int) + (an : Int)))) (v := .int .u64 ((r : Int) + (an : Int))) hF (by kernel_rfl) (fun _ => by kernel_rfl) (vi (IntWalk.u64_in _ (by omega))) fun a hF => ?_)
        refine sB 1 [(16, .int .u64 ((r : Int) + (an : Int)))] hF (by kernel_rfl) fun a hF => ?_
        refine wpList_nil ?_
        refine hK38 _ _ ?_
        refine wp_seq_k fun K39 hK39 => ?_
        refine wp_region_lit ?_
        refine sB 2 [(84, .int .u64 ((r : Int) + (an : Int))), (85, .bool (decide (4294967296 ≤ (r : Int) + (an : Int))))] hF (by kernel_rfl) fun a hF => ?_
        refine wpList_nil ?_
        refine hK39 _ _ ?_
        by_cases hz16 : 4294967296 ≤ (r : Int) + (an : Int)
        · skip
          replace hF := hF.c hF (i := 85) (v := .bool true) rfl (bT hz16)
          refine cT hF (by kernel_rfl) (by kernel_rfl) ?_
          refine wp_exit ?_
          have hfin : q - 1 = Q1 := by rw [hQ1, ← hYn]; exact hst.2.2.out I (by omega) (by omega)
          exact hJ19  _ _ (((((((((((Fr.nil hF).c hF (i := 14) rfl rfl).c hF (i := 13) rfl rfl).c hF (i := 11) rfl rfl).c hF (i := 10) rfl rfl).c hF (i := 9) rfl rfl).c hF (i := 8) rfl rfl).c hF (i := 7) rfl rfl).c hF (i := 6) rfl rfl).c hF (i := 2) rfl rfl).c hF (i := 15) rfl (vi (show ((q : Int) - 1 : Int) = (Q1 : Int) from by omega))) (hM.sub Sub.nil)
        · skip
          replace hF := hF.c hF (i := 85) (v := .bool false) rfl (bF hz16)
          refine cF hF (by kernel_rfl) (by kernel_rfl) ?_
          refine wp_skip ?_
          obtain ⟨q2, hq2⟩ : ∃ m : Nat, m = q - 1 := ⟨_, rfl⟩
          refine hK34 _ _ ⟨(q2, r + an), ⟨((((((((((((Fr.nil hF).c hF (i := 14) rfl rfl).c hF (i := 13) rfl rfl).c hF (i := 11) rfl rfl).c hF (i := 10) rfl rfl).c hF (i := 9) rfl rfl).c hF (i := 8) rfl rfl).c hF (i := 7) rfl rfl).c hF (i := 6) rfl rfl).c hF (i := 2) rfl rfl).c hF (i := 16) rfl (vi (show ((r : Int) + (an : Int) : Int) = ((r + an) : Int) from by omega))).c hF (i := 15) rfl (vi (show ((q : Int) - 1 : Int) = (q2 : Int) from by omega))), (hM.sub Sub.nil), (show Knuth Un u1n an bn q2 (r + an) from by rw [hq2]; exact hst.2.2), (show (q2 : Int) ≤ 4294967297 from by omega), (show ((r + an) : Int) < 4294967296 from by omega), (show 0 ≤ (q2 : Int) from by omega)⟩, (show q2 < q from by omega)⟩
      · skip
        refine wp_region_lit ?_
        refine sB 1 [(67, .int .u64 (q : Int))] hF (by kernel_rfl) fun a hF => ?_
        refine wl (eP 68 (v0 := .bool (decide (4294967296 ≤ (q : Int)))) (v := .bool false) hF (by kernel_rfl) (fun _ => by kernel_rfl) (bF hz15) fun a hF => ?_)
        refine sB 3 [(69, .bool false), (70, .int .u64 (q : Int)), (71, .int .u64 (bn : Int))] hF (by kernel_rfl) fun a hF => ?_
        have hz17 : 0 ≤ (q : Int) * (bn : Int) ∧ (q : Int) * (bn : Int) ≤ 18446744065119617025 := mul_bd (0) (4294967295) (0) (4294967295) (by omega) (by omega) (by omega) (by omega) (by decide)
        refine wl (eP 72 (v0 := .int .u64 (IntKind.u64.wrap ((q : Int) * (bn : Int)))) (v := .int .u64 ((q : Int) * (bn : Int))) hF (by kernel_rfl) (fun _ => by kernel_rfl) (vi (IntWalk.u64_in _ (by omega))) fun a hF => ?_)
        refine sB 1 [(73, .int .u64 (r : Int))] hF (by kernel_rfl) fun a hF => ?_
        refine wl (eP 74 (v0 := .int .u64 (IntKind.u64.wrap (4294967296 * (r : Int)))) (v := .int .u64 (4294967296 * (r : Int))) hF (by kernel_rfl) (fun _ => by kernel_rfl) (vi (IntWalk.u64_in _ (by omega))) fun a hF => ?_)
        refine sB 1 [(75, .int .u64 (u1n : Int))] hF (by kernel_rfl) fun a hF => ?_
        refine wl (eP 76 (v0 := .int .u64 (IntKind.u64.wrap (4294967296 * (r : Int) + (u1n : Int)))) (v := .int .u64 (4294967296 * (r : Int) + (u1n : Int))) hF (by kernel_rfl) (fun _ => by kernel_rfl) (vi (IntWalk.u64_in _ (by omega))) fun a hF => ?_)
        refine sB 2 [(77, .bool (decide (4294967296 * (r : Int) + (u1n : Int) < (q : Int) * (bn : Int)))), (78, .bool (decide (4294967296 * (r : Int) + (u1n : Int) < (q : Int) * (bn : Int))))] hF (by kernel_rfl) fun a hF => ?_
        refine wpList_nil ?_
        refine hK36 _ _ ?_
        by_cases hz18 : 4294967296 * (r : Int) + (u1n : Int) < (q : Int) * (bn : Int)
        · skip
          replace hF := hF.c hF (i := 77) (v := .bool true) rfl (bT hz18)
          replace hF := hF.c hF (i := 78) (v := .bool true) rfl (bT hz18)
          refine cT hF (by kernel_rfl) (by kernel_rfl) ?_
          refine wp_skip ?_
          refine hK35 _ _ ?_
          refine wp_block ?_
          refine wp_seq_k fun K40 hK40 => ?_
          have hst := K.step I (.inr (cast_lt hz18))
          refine wp_region_lit ?_
          refine sB 1 [(79, .int .u64 (q : Int))] hF (by kernel_rfl) fun a hF => ?_
          refine wl (eP 80 (v0 := .int .u64 (IntKind.u64.wrap ((q : Int) - 1))) (v := .int .u64 ((q : Int) - 1)) hF (by kernel_rfl) (fun _ => by kernel_rfl) (vi (IntWalk.u64_in _ (by omega))) fun a hF => ?_)
          refine sB 1 [(15, .int .u64 ((q : Int) - 1))] hF (by kernel_rfl) fun a hF => ?_
          refine wpList_nil ?_
          refine hK40 _ _ ?_
          refine wp_seq_k fun K41 hK41 => ?_
          refine wp_region_lit ?_
          refine sB 2 [(81, .int .u64 (r : Int)), (82, .int .u64 (an : Int))] hF (by kernel_rfl) fun a hF => ?_
          refine wl (eP 83 (v0 := .int .u64 (IntKind.u64.wrap ((r : Int) + (an : Int)))) (v := .int .u64 ((r : Int) + (an : Int))) hF (by kernel_rfl) (fun _ => by kernel_rfl) (vi (IntWalk.u64_in _ (by omega))) fun a hF => ?_)
          refine sB 1 [(16, .int .u64 ((r : Int) + (an : Int)))] hF (by kernel_rfl) fun a hF => ?_
          refine wpList_nil ?_
          refine hK41 _ _ ?_
          refine wp_seq_k fun K42 hK42 => ?_
          refine wp_region_lit ?_
          refine sB 2 [(84, .int .u64 ((r : Int) + (an : Int))), (85, .bool (decide (4294967296 ≤ (r : Int) + (an : Int))))] hF (by kernel_rfl) fun a hF => ?_
          refine wpList_nil ?_
          refine hK42 _ _ ?_
          by_cases hz19 : 4294967296 ≤ (r : Int) + (an : Int)
          · skip
            replace hF := hF.c hF (i := 85) (v := .bool true) rfl (bT hz19)
            refine cT hF (by kernel_rfl) (by kernel_rfl) ?_
            refine wp_exit ?_
            have hfin : q - 1 = Q1 := by rw [hQ1, ← hYn]; exact hst.2.2.out I (by omega) (by omega)
            exact hJ19  _ _ (((((((((((Fr.nil hF).c hF (i := 14) rfl rfl).c hF (i := 13) rfl rfl).c hF (i := 11) rfl rfl).c hF (i := 10) rfl rfl).c hF (i := 9) rfl rfl).c hF (i := 8) rfl rfl).c hF (i := 7) rfl rfl).c hF (i := 6) rfl rfl).c hF (i := 2) rfl rfl).c hF (i := 15) rfl (vi (show ((q : Int) - 1 : Int) = (Q1 : Int) from by omega))) (hM.sub Sub.nil)
          · skip
            replace hF := hF.c hF (i := 85) (v := .bool false) rfl (bF hz19)
            refine cF hF (by kernel_rfl) (by kernel_rfl) ?_
            refine wp_skip ?_
            obtain ⟨q2, hq2⟩ : ∃ m : Nat, m = q - 1 := ⟨_, rfl⟩
            refine hK34 _ _ ⟨(q2, r + an), ⟨((((((((((((Fr.nil hF).c hF (i := 14) rfl rfl).c hF (i := 13) rfl rfl).c hF (i := 11) rfl rfl).c hF (i := 10) rfl rfl).c hF (i := 9) rfl rfl).c hF (i := 8) rfl rfl).c hF (i := 7) rfl rfl).c hF (i := 6) rfl rfl).c hF (i := 2) rfl rfl).c hF (i := 16) rfl (vi (show ((r : Int) + (an : Int) : Int) = ((r + an) : Int) from by omega))).c hF (i := 15) rfl (vi (show ((q : Int) - 1 : Int) = (q2 : Int) from by omega))), (hM.sub Sub.nil), (show Knuth Un u1n an bn q2 (r + an) from by rw [hq2]; exact hst.2.2), (show (q2 : Int) ≤ 4294967297 from by omega), (show ((r + an) : Int) < 4294967296 from by omega), (show 0 ≤ (q2 : Int) from by omega)⟩, (show q2 < q from by omega)⟩
        · skip
          replace hF := hF.c hF (i := 77) (v := .bool false) rfl (bF hz18)
          replace hF := hF.c hF (i := 78) (v := .bool false) rfl (bF hz18)
          refine cF hF (by kernel_rfl) (by kernel_rfl) ?_
          refine wp_exit ?_
          have hfin : q = Q1 := by rw [hQ1, ← hYn]; exact K.stop I (cast_le (Int.not_lt.1 hz18))
          exact hJ19  _ _ (((((((((((Fr.nil hF).c hF (i := 14) rfl rfl).c hF (i := 13) rfl rfl).c hF (i := 11) rfl rfl).c hF (i := 10) rfl rfl).c hF (i := 9) rfl rfl).c hF (i := 8) rfl rfl).c hF (i := 7) rfl rfl).c hF (i := 6) rfl rfl).c hF (i := 2) rfl rfl).c hF (i := 15) rfl (vi (show ((q : Int) : Int) = (Q1 : Int) from by omega))) (hM.sub Sub.nil)

end Go.Proofs.Ytoighcbbaacnaaa
