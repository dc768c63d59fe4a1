/-
  Gcd.
-/
import Derived.Test.YtboodcekjooehaaDoorNumC
import Derived.Test.YtboodcekjooehaaDoorTz
import Derived.Test.YtboodcekjooehaaDoorGcdPlain
import Derived.Scope
namespace Go.Proofs.YtboodcekjooehaaDoor
open Go.RowKit
set_option linter.unusedVariables false
set_option linter.unusedSimpArgs false

theorem gcd_w (xa xb : Int) (w0 : World) (hT : Tab w0) :
    Calls Tryd.prog 41 #[.int .i64 xa, .int .i64 xb] w0 (Ret w0 (.int .i64 (gcV xa xb))) := by
  obtain ⟨xN, hxN⟩ : ∃ m : Nat, m = xa.natAbs := ⟨_, rfl⟩
  obtain ⟨yN, hyN⟩ : ∃ m : Nat, m = xb.natAbs := ⟨_, rfl⟩
  obtain ⟨oN, hoN⟩ : ∃ m : Nat, m = xN ||| yN := ⟨_, rfl⟩
  obtain ⟨oxN, hoxN⟩ : ∃ m : Nat, m = oddP xN := ⟨_, rfl⟩
  obtain ⟨gN, hgN⟩ : ∃ m : Nat, m = Nat.gcd oxN yN := ⟨_, rfl⟩
  refine enterK 56 Tryd.func41 rfl rfl rfl ?_
  intro a hF Q0 hR0 hN0
  have hM := Mem.start w0
  refine wp_seq_k fun K1 hK1 => ?_
  refine wp_region_lit ?_
  refine sB 1 [(4, .int .i64 0)] hF (by kernel_rfl) fun a hF => ?_
  refine wpList_nil ?_
  refine hK1 _ _ ?_
  refine wp_scope_straight ?_
  refine wp_seq_k fun K2 hK2 => ?_
  refine wp_seq_k fun K3 hK3 => ?_
  by_cases hz1 : -1125899906842624 ≤ xa
  · skip
    by_cases hz2 : xa ≤ 1125899906842624
    · skip
      by_cases hz3 : -1125899906842624 ≤ xb
      · skip
        by_cases hz4 : xb ≤ 1125899906842624
        · skip
          refine wp_region_lit ?_
          refine sB 2 [(8, .int .i64 xa), (9, .int .i64 xb)] hF (by kernel_rfl) fun a hF => ?_
          refine wl (eN 10 5 (t := 3) (fun b => .slice (some ⟨b, 0, none⟩) 2 2) #[.int .i64 xa, .int .i64 xb] hF hM (by kernel_rfl) (fun _ => by kernel_rfl) fun bb5 a w hF hM => ?_)
          refine wl (eM 11 (v := .bool true) hF hM (by kernel_rfl) (yld_call (f := 52) (args := #[.slice (some ⟨bb5, 0, none⟩) 2 2]) hF (by kernel_rfl) (fun _ => by kernel_rfl) (fun w hM => inRange_yes (some ⟨bb5, 0, none⟩) [xa, xb] 2 w (hM.roRow (k := 5) rfl) (by simp) (by simp; omega))) fun a w hF hM => ?_)
          refine sB 1 [(12, .bool false)] hF (by kernel_rfl) fun a hF => ?_
          refine wpList_nil ?_
          refine hK3 _ _ ?_
          refine cF hF (by kernel_rfl) (by kernel_rfl) ?_
          refine wp_skip ?_
          refine hK2 _ _ ?_
          refine wp_seq_k fun K4 hK4 => ?_
          refine wp_region_lit ?_
          refine sB 1 [(13, .int .i64 xa)] hF (by kernel_rfl) fun a hF => ?_
          refine wl (eM 14 (v := .int .u64 (xN : Int)) hF hM (by kernel_rfl) (yld_call (f := 53) (args := #[.int .i64 xa]) hF (by kernel_rfl) (fun _ => by kernel_rfl) (fun w hM => by rw [hxN]; exact magnitude_w xa w (by omega))) fun a w hF hM => ?_)
          have b_xN : xN ≤ 1125899906842624 := by omega
          refine sB 1 [(15, .int .i64 xb)] hF (by kernel_rfl) fun a hF => ?_
          refine wl (eM 16 (v := .int .u64 (yN : Int)) hF hM (by kernel_rfl) (yld_call (f := 53) (args := #[.int .i64 xb]) hF (by kernel_rfl) (fun _ => by kernel_rfl) (fun w hM => by rw [hyN]; exact magnitude_w xb w (by omega))) fun a w hF hM => ?_)
          have b_yN : yN ≤ 1125899906842624 := by omega
          refine sB 2 [(5, .int .u64 (xN : Int)), (6, .int .u64 (yN : Int))] hF (by kernel_rfl) fun a hF => ?_
          refine wpList_nil ?_
          refine hK4 _ _ ?_
          refine wp_seq_k fun K5 hK5 => ?_
          refine wp_seq_k fun K6 hK6 => ?_
          by_cases hz5 : (xN : Int) = 0
          · skip
            refine wp_region_lit ?_
            refine sB 1 [(17, .int .u64 (xN : Int))] hF (by kernel_rfl) fun a hF => ?_
            refine wl (eP 18 (v0 := .bool (decide ((xN : Int) = 0))) (v := .bool true) hF (by kernel_rfl) (fun _ => by kernel_rfl) (bT hz5) fun a hF => ?_)
            refine sB 4 [(19, .bool true), (20, undef), (21, undef), (22, .bool true)] hF (by kernel_rfl) fun a hF => ?_
            refine wpList_nil ?_
            refine hK6 _ _ ?_
            refine cT hF (by kernel_rfl) (by kernel_rfl) ?_
            refine wp_seq_k fun K7 hK7 => ?_
            have hor : xN ||| yN = yN := by rw [show xN = 0 by omega]; exact Nat.zero_or _
            refine wp_region_lit ?_
            refine sB 2 [(23, .int .u64 (xN : Int)), (24, .int .u64 (yN : Int))] hF (by kernel_rfl) fun a hF => ?_
            refine wl (eP 25 (v0 := .int .u64 (IntKind.u64.wrap ((BitVec.ofInt 64 (xN : Int) ||| BitVec.ofInt 64 (yN : Int)).toNat : Int))) (v := .int .u64 (yN : Int)) hF (by kernel_rfl) (fun _ => by kernel_rfl) (vi (orN xN yN yN (by omega) (by omega) hor)) fun a hF => ?_)
            refine wl (eP 26 (v0 := .int .i64 (IntKind.i64.wrap (yN : Int))) (v := .int .i64 (yN : Int)) hF (by kernel_rfl) (fun _ => by kernel_rfl) (vi (IntWalk.i64_in _ (by omega))) fun a hF => ?_)
            refine sB 1 [(4, .int .i64 (yN : Int))] hF (by kernel_rfl) fun a hF => ?_
            refine wpList_nil ?_
            refine hK7 _ _ ?_
            refine wp_ret ?_
            refine hR0 _ _ ?_
            refine ret_of hF hM (.tmp rfl (.nil)) ?_
            exact ⟨ret_int (by rw [gcV_yes (by unfold inR; omega), ← hxN, ← hyN, show xN = 0 by omega]; simp), hM.bel⟩
          · skip
            refine wp_region_lit ?_
            refine sB 1 [(17, .int .u64 (xN : Int))] hF (by kernel_rfl) fun a hF => ?_
            refine wl (eP 18 (v0 := .bool (decide ((xN : Int) = 0))) (v := .bool false) hF (by kernel_rfl) (fun _ => by kernel_rfl) (bF hz5) fun a hF => ?_)
            refine sB 4 [(19, .bool false), (20, .int .u64 (yN : Int)), (21, .bool (decide ((yN : Int) = 0))), (22, .bool (decide ((yN : Int) = 0)))] hF (by kernel_rfl) fun a hF => ?_
            refine wpList_nil ?_
            refine hK6 _ _ ?_
            by_cases hz6 : (yN : Int) = 0
            · skip
              replace hF := hF.c hF (i := 21) (v := .bool true) rfl (bT hz6)
              replace hF := hF.c hF (i := 22) (v := .bool true) rfl (bT hz6)
              refine cT hF (by kernel_rfl) (by kernel_rfl) ?_
              refine wp_seq_k fun K8 hK8 => ?_
              have hor : xN ||| yN = xN := by rw [show yN = 0 by omega]; exact Nat.or_zero _
              refine wp_region_lit ?_
              refine sB 2 [(23, .int .u64 (xN : Int)), (24, .int .u64 (yN : Int))] hF (by kernel_rfl) fun a hF => ?_
              refine wl (eP 25 (v0 := .int .u64 (IntKind.u64.wrap ((BitVec.ofInt 64 (xN : Int) ||| BitVec.ofInt 64 (yN : Int)).toNat : Int))) (v := .int .u64 (xN : Int)) hF (by kernel_rfl) (fun _ => by kernel_rfl) (vi (orN xN yN xN (by omega) (by omega) hor)) fun a hF => ?_)
              refine wl (eP 26 (v0 := .int .i64 (IntKind.i64.wrap (xN : Int))) (v := .int .i64 (xN : Int)) hF (by kernel_rfl) (fun _ => by kernel_rfl) (vi (IntWalk.i64_in _ (by omega))) fun a hF => ?_)
              refine sB 1 [(4, .int .i64 (xN : Int))] hF (by kernel_rfl) fun a hF => ?_
              refine wpList_nil ?_
              refine hK8 _ _ ?_
              refine wp_ret ?_
              refine hR0 _ _ ?_
              refine ret_of hF hM (.tmp rfl (.nil)) ?_
              exact ⟨ret_int (by rw [gcV_yes (by unfold inR; omega), ← hxN, ← hyN, show yN = 0 by omega]; simp), hM.bel⟩
            · skip
              replace hF := hF.c hF (i := 21) (v := .bool false) rfl (bF hz6)
              replace hF := hF.c hF (i := 22) (v := .bool false) rfl (bF hz6)
              refine cF hF (by kernel_rfl) (by kernel_rfl) ?_
              refine wp_skip ?_
              refine hK5 _ _ ?_
              refine wp_seq_k fun K9 hK9 => ?_
              have hco := ctz_or (x := xN) (y := yN) (by omega) (by omega) (by omega) (by omega)
              rw [← hoN] at hco
              refine wp_region_lit ?_
              refine sB 2 [(27, .int .u64 (xN : Int)), (28, .int .u64 (yN : Int))] hF (by kernel_rfl) fun a hF => ?_
              refine wl (eP 29 (v0 := .int .u64 (IntKind.u64.wrap ((BitVec.ofInt 64 (xN : Int) ||| BitVec.ofInt 64 (yN : Int)).toNat : Int))) (v := .int .u64 (oN : Int)) hF (by kernel_rfl) (fun _ => by kernel_rfl) (vi (orN xN yN oN (by omega) (by omega) hoN.symm)) fun a hF => ?_)
              refine wl (eM 30 (v := .int .i64 (Lib.ctz 64 oN : Int)) hF hM (by kernel_rfl) (yld_call (f := 54) (args := #[.int .u64 (oN : Int)]) hF (by kernel_rfl) (fun _ => by kernel_rfl) (fun w hM => (tz_w oN (by omega) w (hT.below (Nat.le_refl _) hM.bel)).mono fun e w' hh => ⟨hh.1, hh.2 ▸ Below.refl _ _⟩)) fun a w hF hM => ?_)
              refine sB 1 [(7, .int .i64 (Lib.ctz 64 oN : Int))] hF (by kernel_rfl) fun a hF => ?_
              refine wpList_nil ?_
              refine hK9 _ _ ?_
              refine wp_seq_k fun K10 hK10 => ?_
              have hox := oddP_spec (x := xN) (by omega) (by omega)
              rw [← hoxN] at hox
              have hct := (ctz_form (x := xN) (by omega) (by omega)).elim fun _ q => q.2
              have B0 : Bin gN oxN yN := ⟨hox.2.1, by omega, by omega, by omega, hgN.symm⟩
              refine wp_region_lit ?_
              refine sB 2 [(31, .int .u64 (xN : Int)), (32, .int .u64 (xN : Int))] hF (by kernel_rfl) fun a hF => ?_
              refine wl (eM 33 (v := .int .i64 (Lib.ctz 64 xN : Int)) hF hM (by kernel_rfl) (yld_call (f := 54) (args := #[.int .u64 (xN : Int)]) hF (by kernel_rfl) (fun _ => by kernel_rfl) (fun w hM => (tz_w xN (by omega) w (hT.below (Nat.le_refl _) hM.bel)).mono fun e w' hh => ⟨hh.1, hh.2 ▸ Below.refl _ _⟩)) fun a w hF hM => ?_)
              refine wl (eM 34 (v := .int .u64 (oxN : Int)) hF hM (by kernel_rfl) (yld_shr (yk := .i64) (xN : Int) (Lib.ctz 64 xN : Int) hF rfl (by kernel_rfl) (by kernel_rfl) (by kernel_rfl) (by omega) (shrN xN (Lib.ctz 64 xN) oxN (by omega) (by omega) hoxN)) fun a w hF hM => ?_)
              refine sB 1 [(5, .int .u64 (oxN : Int))] hF (by kernel_rfl) fun a hF => ?_
              refine wpList_nil ?_
              refine hK10 _ _ ?_
              refine wp_seq_k fun K11 hK11 => ?_
              refine wp_label ?_
              refine hK11 _ _ ?_
              refine wp_seq_k fun K12 hK12 => ?_
              refine wp_block ?_
              refine wp_loop_k (G := Nat × Nat) (fun gg a w => Fr 56 [(5, some (.int .u64 (gg.1 : Int))), (6, some (.int .u64 (gg.2 : Int))), (4, some (.int .i64 0)), (7, some (.int .i64 (Lib.ctz 64 oN : Int)))] a ∧ Mem w0.heap.size w0 [] w ∧ (Bin gN gg.1 gg.2) ∧ (0 < (gg.2 : Int)) ∧ ((gg.1 : Int) ≤ 1125899906842624) ∧ ((gg.2 : Int) ≤ 1125899906842624) ∧ (0 < (gg.1 : Int))) (fun gg => gg.1 + gg.2) (oxN, yN) ?_ ?_
              · refine ⟨(((((Fr.nil hF).c hF (i := 7) rfl rfl).c hF (i := 4) rfl rfl).c hF (i := 6) rfl rfl).c hF (i := 5) rfl rfl), (hM.sub Sub.nil), (show Bin gN oxN yN from by exact B0), (show 0 < (yN : Int) from by omega), (show (oxN : Int) ≤ 1125899906842624 from by omega), (show (yN : Int) ≤ 1125899906842624 from by omega), (show 0 < (oxN : Int) from by omega)⟩
              · intro gg a w hI
                intro K13 hK13
                obtain ⟨x, y⟩ := gg
                try dsimp only at hI hK13
                obtain ⟨hF, hM, hz7, hz8, hz9, hz10, hz11⟩ := hI
                have hB : Bin gN x y := by assumption
                obtain ⟨oy, hoy⟩ : ∃ m : Nat, m = oddP y := ⟨_, rfl⟩
                have hoq := oddP_spec (x := y) (by omega) (by omega)
                rw [← hoy] at hoq
                have hcy := (ctz_form (x := y) (by omega) (by omega)).elim fun _ q => q.2
                refine wp_block ?_
                refine wp_seq_k fun K14 hK14 => ?_
                refine wp_region_lit ?_
                refine sB 2 [(35, .int .u64 (y : Int)), (36, .int .u64 (y : Int))] hF (by kernel_rfl) fun a hF => ?_
                refine wl (eM 37 (v := .int .i64 (Lib.ctz 64 y : Int)) hF hM (by kernel_rfl) (yld_call (f := 54) (args := #[.int .u64 (y : Int)]) hF (by kernel_rfl) (fun _ => by kernel_rfl) (fun w hM => (tz_w y (by omega) w (hT.below (Nat.le_refl _) hM.bel)).mono fun e w' hh => ⟨hh.1, hh.2 ▸ Below.refl _ _⟩)) fun a w hF hM => ?_)
                refine wl (eM 38 (v := .int .u64 (oy : Int)) hF hM (by kernel_rfl) (yld_shr (yk := .i64) (y : Int) (Lib.ctz 64 y : Int) hF rfl (by kernel_rfl) (by kernel_rfl) (by kernel_rfl) (by omega) (shrN y (Lib.ctz 64 y) oy (by omega) (by omega) hoy)) fun a w hF hM => ?_)
                refine sB 1 [(6, .int .u64 (oy : Int))] hF (by kernel_rfl) fun a hF => ?_
                refine wpList_nil ?_
                refine hK14 _ _ ?_
                refine wp_seq_k fun K15 hK15 => ?_
                refine wp_block ?_
                refine wp_seq_k fun K16 hK16 => ?_
                refine wp_region_lit ?_
                refine sB 4 [(40, .int .u64 (x : Int)), (41, .int .u64 (oy : Int)), (42, .bool (decide ((x : Int) = (oy : Int)))), (39, .bool (decide ((x : Int) = (oy : Int))))] hF (by kernel_rfl) fun a hF => ?_
                refine wpList_nil ?_
                refine hK16 _ _ ?_
                by_cases hz12 : (x : Int) = (oy : Int)
                · skip
                  replace hF := hF.c hF (i := 39) (v := .bool true) rfl (bT hz12)
                  replace hF := hF.c hF (i := 42) (v := .bool true) rfl (bT hz12)
                  refine cT hF (by kernel_rfl) (by kernel_rfl) ?_
                  refine wp_exit ?_
                  refine hK12 _ _ ?_
                  refine wp_seq_k fun K17 hK17 => ?_
                  have hfin := hB.stop (by omega)
                  obtain ⟨res, hres⟩ : ∃ m : Nat, m = x * 2 ^ Lib.ctz 64 oN := ⟨_, rfl⟩
                  have hgc : res = Nat.gcd xN yN := by rw [hres, hfin, hgN, hoxN, hoN]; exact gcd_all (by omega) (by omega) (by omega) (by omega)
                  have hrl : res ≤ 1125899906842624 := by rw [hgc]; exact Nat.le_trans (Nat.gcd_le_left yN (by omega)) (by omega)
                  have hc64 := (ctz_form (x := oN) hco.2.2 hco.2.1).elim fun _ q => q.2
                  refine wp_region_lit ?_
                  refine sB 2 [(52, .int .u64 (x : Int)), (53, .int .i64 (Lib.ctz 64 oN : Int))] hF (by kernel_rfl) fun a hF => ?_
                  refine wl (eM 54 (v := .int .u64 (res : Int)) hF hM (by kernel_rfl) (yld_shl (yk := .i64) (x : Int) (Lib.ctz 64 oN : Int) hF rfl (by kernel_rfl) (by kernel_rfl) (by kernel_rfl) (by omega) (shlN x (Lib.ctz 64 oN) res (by omega) (by omega) hres (by omega))) fun a w hF hM => ?_)
                  refine wl (eP 55 (v0 := .int .i64 (IntKind.i64.wrap (res : Int))) (v := .int .i64 (res : Int)) hF (by kernel_rfl) (fun _ => by kernel_rfl) (vi (IntWalk.i64_in _ (by omega))) fun a hF => ?_)
                  refine sB 1 [(4, .int .i64 (res : Int))] hF (by kernel_rfl) fun a hF => ?_
                  refine wpList_nil ?_
                  refine hK17 _ _ ?_
                  refine wp_ret ?_
                  refine hR0 _ _ ?_
                  refine ret_of hF hM (.tmp rfl (.nil)) ?_
                  exact ⟨ret_int (by rw [gcV_yes (by unfold inR; omega), ← hxN, ← hyN, ← hgc]), hM.bel⟩
                · skip
                  replace hF := hF.c hF (i := 39) (v := .bool false) rfl (bF hz12)
                  replace hF := hF.c hF (i := 42) (v := .bool false) rfl (bF hz12)
                  refine cF hF (by kernel_rfl) (by kernel_rfl) ?_
                  refine wp_seq_k fun K18 hK18 => ?_
                  refine wp_region_lit ?_
                  refine sB 4 [(44, .int .u64 (x : Int)), (45, .int .u64 (oy : Int)), (46, .bool (decide ((oy : Int) < (x : Int)))), (43, .bool (decide ((oy : Int) < (x : Int))))] hF (by kernel_rfl) fun a hF => ?_
                  refine wpList_nil ?_
                  refine hK18 _ _ ?_
                  by_cases hz13 : (oy : Int) < (x : Int)
                  · skip
                    replace hF := hF.c hF (i := 43) (v := .bool true) rfl (bT hz13)
                    replace hF := hF.c hF (i := 46) (v := .bool true) rfl (bT hz13)
                    refine cT hF (by kernel_rfl) (by kernel_rfl) ?_
                    refine wp_region_lit ?_
                    refine sB 4 [(47, .int .u64 (oy : Int)), (48, .int .u64 (x : Int)), (5, .int .u64 (oy : Int)), (6, .int .u64 (x : Int))] hF (by kernel_rfl) fun a hF => ?_
                    refine wpList_nil ?_
                    refine hK15 _ _ ?_
                    refine wp_region_lit ?_
                    refine sB 2 [(49, .int .u64 (x : Int)), (50, .int .u64 (oy : Int))] hF (by kernel_rfl) fun a hF => ?_
                    refine wl (eP 51 (v0 := .int .u64 (IntKind.u64.wrap ((x : Int) - (oy : Int)))) (v := .int .u64 ((x : Int) - (oy : Int))) hF (by kernel_rfl) (fun _ => by kernel_rfl) (vi (IntWalk.u64_in _ (by omega))) fun a hF => ?_)
                    refine sB 1 [(6, .int .u64 ((x : Int) - (oy : Int)))] hF (by kernel_rfl) fun a hF => ?_
                    refine wpList_nil ?_
                    have hB2 := hB.more (by omega)
                    rw [← hoy] at hB2
                    obtain ⟨y2, hy2⟩ : ∃ m : Nat, m = x - oy := ⟨_, rfl⟩
                    rw [← hy2] at hB2
                    have hq := hB2.pos
                    refine hK13 _ _ ⟨(oy, y2), ⟨(((((Fr.nil hF).c hF (i := 7) rfl rfl).c hF (i := 4) rfl rfl).c hF (i := 6) rfl (vi (show ((x : Int) - (oy : Int) : Int) = (y2 : Int) from by omega))).c hF (i := 5) rfl rfl), (hM.sub Sub.nil), (show Bin gN oy y2 from by exact hB2), (show 0 < (y2 : Int) from by omega), (show (oy : Int) ≤ 1125899906842624 from by omega), (show (y2 : Int) ≤ 1125899906842624 from by omega), (show 0 < (oy : Int) from by omega)⟩, (show oy + y2 < x + y from by omega)⟩
                  · skip
                    replace hF := hF.c hF (i := 43) (v := .bool false) rfl (bF hz13)
                    replace hF := hF.c hF (i := 46) (v := .bool false) rfl (bF hz13)
                    refine cF hF (by kernel_rfl) (by kernel_rfl) ?_
                    refine wp_skip ?_
                    refine hK15 _ _ ?_
                    refine wp_region_lit ?_
                    refine sB 2 [(49, .int .u64 (oy : Int)), (50, .int .u64 (x : Int))] hF (by kernel_rfl) fun a hF => ?_
                    refine wl (eP 51 (v0 := .int .u64 (IntKind.u64.wrap ((oy : Int) - (x : Int)))) (v := .int .u64 ((oy : Int) - (x : Int))) hF (by kernel_rfl) (fun _ => by kernel_rfl) (vi (IntWalk.u64_in _ (by omega))) fun a hF => ?_)
                    refine sB 1 [(6, .int .u64 ((oy : Int) - (x : Int)))] hF (by kernel_rfl) fun a hF => ?_
                    refine wpList_nil ?_
                    have hB2 := hB.less (by omega)
                    rw [← hoy] at hB2
                    obtain ⟨y2, hy2⟩ : ∃ m : Nat, m = oy - x := ⟨_, rfl⟩
                    rw [← hy2] at hB2
                    have hq := hB2.pos
                    refine hK13 _ _ ⟨(x, y2), ⟨(((((Fr.nil hF).c hF (i := 7) rfl rfl).c hF (i := 4) rfl rfl).c hF (i := 6) rfl (vi (show ((oy : Int) - (x : Int) : Int) = (y2 : Int) from by omega))).c hF (i := 5) rfl rfl), (hM.sub Sub.nil), (show Bin gN x y2 from by exact hB2), (show 0 < (y2 : Int) from by omega), (show (x : Int) ≤ 1125899906842624 from by omega), (show (y2 : Int) ≤ 1125899906842624 from by omega), (show 0 < (x : Int) from by omega)⟩, (show x + y2 < x + y from by omega)⟩
        · skip
          refine wp_region_lit ?_
          refine sB 2 [(8, .int .i64 xa), (9, .int .i64 xb)] hF (by kernel_rfl) fun a hF => ?_
          refine wl (eN 10 6 (t := 3) (fun b => .slice (some ⟨b, 0, none⟩) 2 2) #[.int .i64 xa, .int .i64 xb] hF hM (by kernel_rfl) (fun _ => by kernel_rfl) fun bb6 a w hF hM => ?_)
          refine wl (eM 11 (v := .bool false) hF hM (by kernel_rfl) (yld_call (f := 52) (args := #[.slice (some ⟨bb6, 0, none⟩) 2 2]) hF (by kernel_rfl) (fun _ => by kernel_rfl) (fun w hM => inRange_no (some ⟨bb6, 0, none⟩) [xa, xb] 2 w (hM.roRow (k := 6) rfl) (by simp) (by intro hh; simp at hh; omega))) fun a w hF hM => ?_)
          refine sB 1 [(12, .bool true)] hF (by kernel_rfl) fun a hF => ?_
          refine wpList_nil ?_
          refine hK3 _ _ ?_
          refine cT hF (by kernel_rfl) (by kernel_rfl) ?_
          refine wp_seq_k fun K19 hK19 => ?_
          refine wp_region_lit ?_
          refine sB 1 [(4, .int .i64 0)] hF (by kernel_rfl) fun a hF => ?_
          refine wpList_nil ?_
          refine hK19 _ _ ?_
          refine wp_ret ?_
          refine hR0 _ _ ?_
          refine ret_of hF hM (.tmp rfl (.nil)) ?_
          exact ⟨ret_int (gcV_no (by unfold inR; omega)).symm, hM.bel⟩
      · skip
        refine wp_region_lit ?_
        refine sB 2 [(8, .int .i64 xa), (9, .int .i64 xb)] hF (by kernel_rfl) fun a hF => ?_
        refine wl (eN 10 7 (t := 3) (fun b => .slice (some ⟨b, 0, none⟩) 2 2) #[.int .i64 xa, .int .i64 xb] hF hM (by kernel_rfl) (fun _ => by kernel_rfl) fun bb7 a w hF hM => ?_)
        refine wl (eM 11 (v := .bool false) hF hM (by kernel_rfl) (yld_call (f := 52) (args := #[.slice (some ⟨bb7, 0, none⟩) 2 2]) hF (by kernel_rfl) (fun _ => by kernel_rfl) (fun w hM => inRange_no (some ⟨bb7, 0, none⟩) [xa, xb] 2 w (hM.roRow (k := 7) rfl) (by simp) (by intro hh; simp at hh; omega))) fun a w hF hM => ?_)
        refine sB 1 [(12, .bool true)] hF (by kernel_rfl) fun a hF => ?_
        refine wpList_nil ?_
        refine hK3 _ _ ?_
        refine cT hF (by kernel_rfl) (by kernel_rfl) ?_
        refine wp_seq_k fun K20 hK20 => ?_
        refine wp_region_lit ?_
        refine sB 1 [(4, .int .i64 0)] hF (by kernel_rfl) fun a hF => ?_
        refine wpList_nil ?_
        refine hK20 _ _ ?_
        refine wp_ret ?_
        refine hR0 _ _ ?_
        refine ret_of hF hM (.tmp rfl (.nil)) ?_
        exact ⟨ret_int (gcV_no (by unfold inR; omega)).symm, hM.bel⟩
    · skip
      refine wp_region_lit ?_
      refine sB 2 [(8, .int .i64 xa), (9, .int .i64 xb)] hF (by kernel_rfl) fun a hF => ?_
      refine wl (eN 10 8 (t := 3) (fun b => .slice (some ⟨b, 0, none⟩) 2 2) #[.int .i64 xa, .int .i64 xb] hF hM (by kernel_rfl) (fun _ => by kernel_rfl) fun bb8 a w hF hM => ?_)
      refine wl (eM 11 (v := .bool false) hF hM (by kernel_rfl) (yld_call (f := 52) (args := #[.slice (some ⟨bb8, 0, none⟩) 2 2]) hF (by kernel_rfl) (fun _ => by kernel_rfl) (fun w hM => inRange_no (some ⟨bb8, 0, none⟩) [xa, xb] 2 w (hM.roRow (k := 8) rfl) (by simp) (by intro hh; simp at hh; omega))) fun a w hF hM => ?_)
      refine sB 1 [(12, .bool true)] hF (by kernel_rfl) fun a hF => ?_
      refine wpList_nil ?_
      refine hK3 _ _ ?_
      refine cT hF (by kernel_rfl) (by kernel_rfl) ?_
      refine wp_seq_k fun K21 hK21 => ?_
      refine wp_region_lit ?_
      refine sB 1 [(4, .int .i64 0)] hF (by kernel_rfl) fun a hF => ?_
      refine wpList_nil ?_
      refine hK21 _ _ ?_
      refine wp_ret ?_
      refine hR0 _ _ ?_
      refine ret_of hF hM (.tmp rfl (.nil)) ?_
      exact ⟨ret_int (gcV_no (by unfold inR; omega)).symm, hM.bel⟩
  · skip
    refine wp_region_lit ?_
    refine sB 2 [(8, .int .i64 xa), (9, .int .i64 xb)] hF (by kernel_rfl) fun a hF => ?_
    refine wl (eN 10 9 (t := 3) (fun b => .slice (some ⟨b, 0, none⟩) 2 2) #[.int .i64 xa, .int .i64 xb] hF hM (by kernel_rfl) (fun _ => by kernel_rfl) fun bb9 a w hF hM => ?_)
    refine wl (eM 11 (v := .bool false) hF hM (by kernel_rfl) (yld_call (f := 52) (args := #[.slice (some ⟨bb9, 0, none⟩) 2 2]) hF (by kernel_rfl) (fun _ => by kernel_rfl) (fun w hM => inRange_no (some ⟨bb9, 0, none⟩) [xa, xb] 2 w (hM.roRow (k := 9) rfl) (by simp) (by intro hh; simp at hh; omega))) fun a w hF hM => ?_)
    refine sB 1 [(12, .bool true)] hF (by kernel_rfl) fun a hF => ?_
    refine wpList_nil ?_
    refine hK3 _ _ ?_
    refine cT hF (by kernel_rfl) (by kernel_rfl) ?_
    refine wp_seq_k fun K22 hK22 => ?_
    refine wp_region_lit ?_
    refine sB 1 [(4, .int .i64 0)] hF (by kernel_rfl) fun a hF => ?_
    refine wpList_nil ?_
    refine hK22 _ _ ?_
    refine wp_ret ?_
    refine hR0 _ _ ?_
    refine ret_of hF hM (.tmp rfl (.nil)) ?_
    exact ⟨ret_int (gcV_no (by unfold inR; omega)).symm, hM.bel⟩

end Go.Proofs.YtboodcekjooehaaDoor
