/-
  Lcm.
-/
import Derived.Test.YtjfjcjbjdbjlgaaDoorGcdW
import Derived.Test.YtjfjcjbjdbjlgaaDoorLcmPlain
namespace Go.Proofs.YtjfjcjbjdbjlgaaDoor
open Go.RowKit
set_option linter.unusedVariables false
set_option linter.unusedSimpArgs false

theorem lcm_w (A : Option Addr) (l : List Int) (c : Nat) (w0 : World) (hA : Ro w0 A (l.map (Value.int .i64))) (hm : l.length ≤ 1000000) (hT : Tab w0) :
    Calls Tryd.prog 23 #[.slice A l.length c] w0 (Ret w0 (.tuple #[.int .i64 (lcV l), .bool (lcB l)])) := by
  refine enterK 21 Tryd.func23 rfl rfl rfl ?_
  intro a hF Q0 hR0 hN0
  have hM := Mem.start w0
  replace hM := hM.addOld 1 hA (Nat.le_refl _)
  refine wp_seq_k fun K1 hK1 => ?_
  refine wp_region_lit ?_
  refine sB 2 [(2, .int .i64 0), (3, .bool false)] hF (by kernel_rfl) fun a hF => ?_
  refine wpList_nil ?_
  refine hK1 _ _ ?_
  refine wp_seq_k fun K2 hK2 => ?_
  refine wp_region_lit ?_
  refine wl (eN 4 2 (t := 3) (fun b => .pointer (some ⟨b, 0, none⟩)) #[.int .i64 0] hF hM (by kernel_rfl) (fun _ => by kernel_rfl) fun bb1 a w hF hM => ?_)
  refine wl (sStore (i := 2) (off := 0) (cs' := #[.int .i64 1]) hF hM (by kernel_rfl) rfl rfl (by kernel_rfl) (by kernel_rfl) rfl (by kernel_rfl) fun w hM => ?_)
  refine wpList_nil ?_
  refine hK2 _ _ ?_
  refine wp_seq_k fun K3 hK3 => ?_
  refine wp_region_lit ?_
  refine sB 2 [(8, .func (.func 42) #[] #[.pointer (some ⟨bb1, 0, none⟩)]), (5, .func (.func 42) #[] #[.pointer (some ⟨bb1, 0, none⟩)])] hF (by kernel_rfl) fun a hF => ?_
  refine wpList_nil ?_
  refine hK3 _ _ ?_
  refine wp_seq_k fun K4 hK4 => ?_
  refine wp_seq_k fun K5 hK5 => ?_
  refine wp_region_lit ?_
  refine sB 3 [(9, .slice A l.length c), (10, .int .i64 (l.length : Int)), (11, .int .i64 0)] hF (by kernel_rfl) fun a hF => ?_
  refine wpList_nil ?_
  refine hK5 _ _ ?_
  refine wp_block ?_
  refine wp_loop_k (G := Nat × Int) (fun gg a w => Fr 21 [(11, some (.int .i64 (gg.1 : Int))), (4, some (.pointer (some ⟨bb1, 0, none⟩))), (5, some (.func (.func 42) #[] #[.pointer (some ⟨bb1, 0, none⟩)])), (9, some (.slice A l.length c)), (10, some (.int .i64 (l.length : Int)))] a ∧ Mem w0.heap.size w0 [(1, some (.ro A (l.map (Value.int .i64)))), (2, some (.row bb1 3 #[.int .i64 gg.2]))] w ∧ ((gg.1 : Int) ≤ (l.length : Int)) ∧ (LcAt l gg.1 gg.2)) (fun gg => l.length - gg.1) (0, 1) ?_ ?_
  · refine ⟨((((((Fr.nil hF).c hF (i := 10) rfl rfl).c hF (i := 9) rfl rfl).c hF (i := 5) rfl rfl).c hF (i := 4) rfl rfl).c hF (i := 11) rfl (vi (show (0 : Int) = (0 : Int) from by omega))), (hM.sub ((Sub.nil.c (k := 2) rfl rfl).c (k := 1) rfl rfl)), (show (0 : Int) ≤ (l.length : Int) from by omega), (show LcAt l 0 1 from by exact LcAt.zero l)⟩
  · intro gg a w hI
    intro K6 hK6
    obtain ⟨k, m⟩ := gg
    try dsimp only at hI hK6
    obtain ⟨hF, hM, hz1, hz2⟩ := hI
    have hL : LcAt l k m := by assumption
    have hL1 := hL.m1
    have hL2 := hL.m2
    refine wp_seq_k fun K7 hK7 => ?_
    refine wp_region_lit ?_
    refine sB 1 [(12, .bool (decide ((k : Int) < (l.length : Int))))] hF (by kernel_rfl) fun a hF => ?_
    refine wpList_nil ?_
    refine hK7 _ _ ?_
    refine wp_seq_k fun K8 hK8 => ?_
    by_cases hz3 : (k : Int) < (l.length : Int)
    · skip
      replace hF := hF.c hF (i := 12) (v := .bool true) rfl (bT hz3)
      refine cT hF (by kernel_rfl) (by kernel_rfl) ?_
      refine wp_skip ?_
      refine hK8 _ _ ?_
      refine wp_seq_k fun K9 hK9 => ?_
      refine wp_block ?_
      refine wp_seq_k fun K10 hK10 => ?_
      refine wp_region_lit ?_
      refine wl (eM 13 (v := .pointer (some (ea A (k)))) hF hM (by kernel_rfl) (yld_ix (kd := .i64) (e := 3) (len := l.length) (cap := c) (i := (k : Int)) (size := 1) (A := A) hF rfl (by kernel_rfl) (by kernel_rfl) (by kernel_rfl) (by kernel_rfl) (by kernel_rfl) (roK 1 rfl) (by omega) (by omega) (by rw [List.length_map]; omega)) fun a w hF hM => ?_)
      refine wl (eM 14 (v := .int .i64 (nt l k)) hF hM (by kernel_rfl) (yld_ro1 (A := A) (j := k) hF rfl (by kernel_rfl) (by kernel_rfl) (roK 1 rfl) (by kernel_rfl) (nt_at (by omega))) fun a w hF hM => ?_)
      refine sB 1 [(7, .int .i64 (nt l k))] hF (by kernel_rfl) fun a hF => ?_
      refine wpList_nil ?_
      refine hK10 _ _ ?_
      refine wp_seq_k fun K11 hK11 => ?_
      refine wp_region_lit ?_
      refine sB 2 [(15, .func (.func 42) #[] #[.pointer (some ⟨bb1, 0, none⟩)]), (16, .int .i64 (nt l k))] hF (by kernel_rfl) fun a hF => ?_
      refine wl (sC (f := 42) (args := #[.int .i64 (nt l k), .pointer (some ⟨bb1, 0, none⟩)]) hF (by kernel_rfl) rfl (by decide) (by kernel_rfl) (fun _ => by kernel_rfl) ?_)
      refine enterK 26 Tryd.func42 rfl rfl rfl ?_
      intro a1 hF1 QR12 hR12 hNR12
      refine wp_seq_k fun K13 hK13 => ?_
      refine wp_region_lit ?_
      refine sB 1 [(3, .bool false)] hF1 (by kernel_rfl) fun a1 hF1 => ?_
      refine wpList_nil ?_
      refine hK13 _ _ ?_
      refine wp_seq_k fun K14 hK14 => ?_
      refine wp_seq_k fun K15 hK15 => ?_
      by_cases hz4 : nt l k < 1
      · skip
        refine wp_region_lit ?_
        refine sB 1 [(6, .int .i64 (nt l k))] hF1 (by kernel_rfl) fun a1 hF1 => ?_
        refine wl (eP 7 (v0 := .bool (decide (nt l k < 1))) (v := .bool true) hF1 (by kernel_rfl) (fun _ => by kernel_rfl) (bT hz4) fun a1 hF1 => ?_)
        refine sB 6 [(8, .bool true), (9, undef), (10, undef), (11, undef), (12, undef), (13, .bool true)] hF1 (by kernel_rfl) fun a1 hF1 => ?_
        refine wpList_nil ?_
        refine hK15 _ _ ?_
        refine cT hF1 (by kernel_rfl) (by kernel_rfl) ?_
        refine wp_seq_k fun K16 hK16 => ?_
        refine wp_region_lit ?_
        refine sB 1 [(3, .bool false)] hF1 (by kernel_rfl) fun a1 hF1 => ?_
        refine wpList_nil ?_
        refine hK16 _ _ ?_
        refine wp_ret ?_
        refine hR12 _ _ ?_
        refine ret_of hF1 hM (.tmp rfl (.nil)) ⟨_, rfl, ?_⟩
        intro a hF
        refine sB 1 [(18, .bool true)] hF (by kernel_rfl) fun a hF => ?_
        refine wpList_nil ?_
        refine hK11 _ _ ?_
        refine cT hF (by kernel_rfl) (by kernel_rfl) ?_
        refine wp_seq_k fun K17 hK17 => ?_
        refine wp_region_lit ?_
        refine sB 2 [(2, .int .i64 0), (3, .bool false)] hF (by kernel_rfl) fun a hF => ?_
        refine wpList_nil ?_
        refine hK17 _ _ ?_
        refine wp_ret ?_
        refine hR0 _ _ ?_
        refine ret_of hF hM (.tmp rfl (.tmp rfl (.nil))) ?_
        have hd := lc_none (hL.arg (by omega) (by omega))
        exact ⟨ret_eq (by rw [hd.1, hd.2]; rfl), hM.bel⟩
      · skip
        by_cases hz5 : nt l k ≤ 1125899906842624
        · skip
          refine wp_region_lit ?_
          refine sB 1 [(6, .int .i64 (nt l k))] hF1 (by kernel_rfl) fun a1 hF1 => ?_
          refine wl (eP 7 (v0 := .bool (decide (nt l k < 1))) (v := .bool false) hF1 (by kernel_rfl) (fun _ => by kernel_rfl) (bF hz4) fun a1 hF1 => ?_)
          refine sB 2 [(8, .bool false), (9, .int .i64 (nt l k))] hF1 (by kernel_rfl) fun a1 hF1 => ?_
          refine wl (eN 10 4 (t := 3) (fun b => .slice (some ⟨b, 0, none⟩) 1 1) #[.int .i64 (nt l k)] hF1 hM (by kernel_rfl) (fun _ => by kernel_rfl) fun bb3 a1 w hF1 hM => ?_)
          refine wl (eM 11 (v := .bool true) hF1 hM (by kernel_rfl) (yld_call (f := 34) (args := #[.slice (some ⟨bb3, 0, none⟩) 1 1]) hF1 (by kernel_rfl) (fun _ => by kernel_rfl) (fun w hM => inRange_yes (some ⟨bb3, 0, none⟩) [nt l k] 1 w (hM.roRow (k := 4) rfl) (by simp) (by simp; omega))) fun a1 w hF1 hM => ?_)
          refine sB 2 [(12, .bool false), (13, .bool false)] hF1 (by kernel_rfl) fun a1 hF1 => ?_
          refine wpList_nil ?_
          refine hK15 _ _ ?_
          refine cF hF1 (by kernel_rfl) (by kernel_rfl) ?_
          refine wp_skip ?_
          refine hK14 _ _ ?_
          refine wp_seq_k fun K18 hK18 => ?_
          have hgp := gcV_pos (m := m) (n := nt l k) ⟨by omega, by omega⟩ (by unfold inR; omega)
          have hlb := lc_bd (m := m) (n := nt l k) ⟨by omega, by omega⟩ (by unfold inR; omega)
          refine rQ hM (by kernel_rfl) (by kernel_rfl) ?_
          refine eQL 15 2 0 (v := .int .i64 m) hF1 (by kernel_rfl) rfl rfl (by kernel_rfl) (by kernel_rfl) fun a1 hF1 => ?_
          refine eQL 16 2 0 (v := .int .i64 m) hF1 (by kernel_rfl) rfl rfl (by kernel_rfl) (by kernel_rfl) fun a1 hF1 => ?_
          refine eQ 17 (v0 := .int .i64 (nt l k)) (v := .int .i64 (nt l k)) hF1 (by kernel_rfl) (fun _ => by kernel_rfl) rfl fun a1 hF1 => ?_
          refine eQ2 18 (v := .int .i64 (gcV m (nt l k))) hF1 (by kernel_rfl) (yld_call (f := 21) (args := #[.int .i64 m, .int .i64 (nt l k)]) hF1 (by kernel_rfl) (fun _ => by kernel_rfl) (fun w hM => gcd_w m (nt l k) w (hT.below (Nat.le_refl _) hM.bel))) fun a1 hF1 => ?_
          have := gcV_bd m (nt l k)
          refine eQ2 19 (v := .int .i64 (m / gcV m (nt l k))) hF1 (by kernel_rfl) (yld_quo m (gcV m (nt l k)) hF1 rfl (by kernel_rfl) (by kernel_rfl) (by kernel_rfl) (by omega) (qpos_i64 (by omega) (by omega) (by omega))) fun a1 hF1 => ?_
          have := ediv_le_self_of (p := m) (q := gcV m (nt l k)) (by omega) (by omega)
          refine eQ 20 (v0 := .int .i64 (nt l k)) (v := .int .i64 (nt l k)) hF1 (by kernel_rfl) (fun _ => by kernel_rfl) rfl fun a1 hF1 => ?_
          refine eQ2 21 (v := .tuple #[.int .i64 (mdV (m / gcV m (nt l k)) (nt l k) 1), .bool (mdB (m / gcV m (nt l k)) (nt l k) 1)]) hF1 (by kernel_rfl) (yld_call (f := 30) (args := #[.int .i64 (m / gcV m (nt l k)), .int .i64 (nt l k)]) hF1 (by kernel_rfl) (fun _ => by kernel_rfl) (fun w hM => nMul_w (m / gcV m (nt l k)) (nt l k) w)) fun a1 hF1 => ?_
          refine eQ 14 (v0 := .tuple #[.int .i64 (mdV (m / gcV m (nt l k)) (nt l k) 1), .bool (mdB (m / gcV m (nt l k)) (nt l k) 1)]) (v := .tuple #[.int .i64 (mdV (m / gcV m (nt l k)) (nt l k) 1), .bool (mdB (m / gcV m (nt l k)) (nt l k) 1)]) hF1 (by kernel_rfl) (fun _ => by kernel_rfl) rfl fun a1 hF1 => ?_
          refine eQ 22 (v0 := .int .i64 (mdV (m / gcV m (nt l k)) (nt l k) 1)) (v := .int .i64 (mdV (m / gcV m (nt l k)) (nt l k) 1)) hF1 (by kernel_rfl) (fun _ => by kernel_rfl) rfl fun a1 hF1 => ?_
          refine eQ 23 (v0 := .bool (mdB (m / gcV m (nt l k)) (nt l k) 1)) (v := .bool (mdB (m / gcV m (nt l k)) (nt l k) 1)) hF1 (by kernel_rfl) (fun _ => by kernel_rfl) rfl fun a1 hF1 => ?_
          refine eQ 4 (v0 := .int .i64 (mdV (m / gcV m (nt l k)) (nt l k) 1)) (v := .int .i64 (mdV (m / gcV m (nt l k)) (nt l k) 1)) hF1 (by kernel_rfl) (fun _ => by kernel_rfl) rfl fun a1 hF1 => ?_
          refine eQ 5 (v0 := .bool (mdB (m / gcV m (nt l k)) (nt l k) 1)) (v := .bool (mdB (m / gcV m (nt l k)) (nt l k) 1)) hF1 (by kernel_rfl) (fun _ => by kernel_rfl) rfl fun a1 hF1 => ?_
          refine wpQuiet_nil ?_
          intro w hM
          refine hK18 _ _ ?_
          refine wp_seq_k fun K19 hK19 => ?_
          refine wp_region_lit ?_
          refine sB 1 [(24, .int .i64 (mdV (m / gcV m (nt l k)) (nt l k) 1))] hF1 (by kernel_rfl) fun a1 hF1 => ?_
          refine wl (sStore (i := 2) (off := 0) (cs' := #[.int .i64 (mdV (m / gcV m (nt l k)) (nt l k) 1)]) hF1 hM (by kernel_rfl) rfl rfl (by kernel_rfl) (by kernel_rfl) rfl (by kernel_rfl) fun w hM => ?_)
          refine wpList_nil ?_
          refine hK19 _ _ ?_
          refine wp_seq_k fun K20 hK20 => ?_
          refine wp_region_lit ?_
          refine sB 2 [(25, .bool (mdB (m / gcV m (nt l k)) (nt l k) 1)), (3, .bool (mdB (m / gcV m (nt l k)) (nt l k) 1))] hF1 (by kernel_rfl) fun a1 hF1 => ?_
          refine wpList_nil ?_
          refine hK20 _ _ ?_
          refine wp_ret ?_
          refine hR12 _ _ ?_
          refine ret_of hF1 hM (.tmp rfl (.nil)) ⟨_, rfl, ?_⟩
          intro a hF
          cases hz6 : (mdB (m / gcV m (nt l k)) (nt l k) 1)
          · skip
            replace hF := hF.c hF (i := 17) (v := .bool false) rfl (congrArg Value.bool hz6)
            refine sB 1 [(18, .bool true)] hF (by kernel_rfl) fun a hF => ?_
            refine wpList_nil ?_
            refine hK11 _ _ ?_
            refine cT hF (by kernel_rfl) (by kernel_rfl) ?_
            refine wp_seq_k fun K21 hK21 => ?_
            refine wp_region_lit ?_
            refine sB 2 [(2, .int .i64 0), (3, .bool false)] hF (by kernel_rfl) fun a hF => ?_
            refine wpList_nil ?_
            refine hK21 _ _ ?_
            refine wp_ret ?_
            refine hR0 _ _ ?_
            refine ret_of hF hM (.tmp rfl (.tmp rfl (.nil))) ?_
            have hd := lc_none (hL.bad (by omega) (by omega) hz6)
            exact ⟨ret_eq (by rw [hd.1, hd.2]; rfl), hM.bel⟩
          · skip
            replace hF := hF.c hF (i := 17) (v := .bool true) rfl (congrArg Value.bool hz6)
            refine sB 1 [(18, .bool false)] hF (by kernel_rfl) fun a hF => ?_
            refine wpList_nil ?_
            refine hK11 _ _ ?_
            refine cF hF (by kernel_rfl) (by kernel_rfl) ?_
            refine wp_skip ?_
            refine hK9 _ _ ?_
            refine wp_region_lit ?_
            refine wl (eP 19 (v0 := .int .i64 (IntKind.i64.wrap ((k : Int) + 1))) (v := .int .i64 ((k : Int) + 1)) hF (by kernel_rfl) (fun _ => by kernel_rfl) (wi (by omega)) fun a hF => ?_)
            refine sB 1 [(11, .int .i64 ((k : Int) + 1))] hF (by kernel_rfl) fun a hF => ?_
            refine wpList_nil ?_
            have hnx := hL.next (by omega) (by omega) hz6
            refine hK6 _ _ ⟨(k + 1, mdV (m / gcV m (nt l k)) (nt l k) 1), ⟨((((((Fr.nil hF).c hF (i := 10) rfl rfl).c hF (i := 9) rfl rfl).c hF (i := 5) rfl rfl).c hF (i := 4) rfl rfl).c hF (i := 11) rfl (vi (show ((k : Int) + 1 : Int) = ((k + 1) : Int) from by omega))), (hM.sub ((Sub.nil.c (k := 2) rfl rfl).c (k := 1) rfl rfl)), (show ((k + 1) : Int) ≤ (l.length : Int) from by omega), (show LcAt l (k + 1) (mdV (m / gcV m (nt l k)) (nt l k) 1) from by exact hnx)⟩, (show l.length - (k + 1) < l.length - k from by omega)⟩
        · skip
          refine wp_region_lit ?_
          refine sB 1 [(6, .int .i64 (nt l k))] hF1 (by kernel_rfl) fun a1 hF1 => ?_
          refine wl (eP 7 (v0 := .bool (decide (nt l k < 1))) (v := .bool false) hF1 (by kernel_rfl) (fun _ => by kernel_rfl) (bF hz4) fun a1 hF1 => ?_)
          refine sB 2 [(8, .bool false), (9, .int .i64 (nt l k))] hF1 (by kernel_rfl) fun a1 hF1 => ?_
          refine wl (eN 10 5 (t := 3) (fun b => .slice (some ⟨b, 0, none⟩) 1 1) #[.int .i64 (nt l k)] hF1 hM (by kernel_rfl) (fun _ => by kernel_rfl) fun bb4 a1 w hF1 hM => ?_)
          refine wl (eM 11 (v := .bool false) hF1 hM (by kernel_rfl) (yld_call (f := 34) (args := #[.slice (some ⟨bb4, 0, none⟩) 1 1]) hF1 (by kernel_rfl) (fun _ => by kernel_rfl) (fun w hM => inRange_no (some ⟨bb4, 0, none⟩) [nt l k] 1 w (hM.roRow (k := 5) rfl) (by simp) (by intro hh; simp at hh; omega))) fun a1 w hF1 hM => ?_)
          refine sB 2 [(12, .bool true), (13, .bool true)] hF1 (by kernel_rfl) fun a1 hF1 => ?_
          refine wpList_nil ?_
          refine hK15 _ _ ?_
          refine cT hF1 (by kernel_rfl) (by kernel_rfl) ?_
          refine wp_seq_k fun K22 hK22 => ?_
          refine wp_region_lit ?_
          refine sB 1 [(3, .bool false)] hF1 (by kernel_rfl) fun a1 hF1 => ?_
          refine wpList_nil ?_
          refine hK22 _ _ ?_
          refine wp_ret ?_
          refine hR12 _ _ ?_
          refine ret_of hF1 hM (.tmp rfl (.nil)) ⟨_, rfl, ?_⟩
          intro a hF
          refine sB 1 [(18, .bool true)] hF (by kernel_rfl) fun a hF => ?_
          refine wpList_nil ?_
          refine hK11 _ _ ?_
          refine cT hF (by kernel_rfl) (by kernel_rfl) ?_
          refine wp_seq_k fun K23 hK23 => ?_
          refine wp_region_lit ?_
          refine sB 2 [(2, .int .i64 0), (3, .bool false)] hF (by kernel_rfl) fun a hF => ?_
          refine wpList_nil ?_
          refine hK23 _ _ ?_
          refine wp_ret ?_
          refine hR0 _ _ ?_
          refine ret_of hF hM (.tmp rfl (.tmp rfl (.nil))) ?_
          have hd := lc_none (hL.arg (by omega) (by omega))
          exact ⟨ret_eq (by rw [hd.1, hd.2]; rfl), hM.bel⟩
    · skip
      replace hF := hF.c hF (i := 12) (v := .bool false) rfl (bF hz3)
      refine cF hF (by kernel_rfl) (by kernel_rfl) ?_
      refine wp_exit ?_
      refine hK4 _ _ ?_
      refine wp_seq_k fun K24 hK24 => ?_
      refine wp_region_lit ?_
      refine wl (eL 20 2 0 (v := .int .i64 m) hF hM (by kernel_rfl) rfl rfl (by kernel_rfl) (by kernel_rfl) fun a w hF hM => ?_)
      refine sB 2 [(2, .int .i64 m), (3, .bool true)] hF (by kernel_rfl) fun a hF => ?_
      refine wpList_nil ?_
      refine hK24 _ _ ?_
      refine wp_ret ?_
      refine hR0 _ _ ?_
      refine ret_of hF hM (.tmp rfl (.tmp rfl (.nil))) ?_
      have hd := hL.done (by omega)
      exact ⟨ret_eq (by rw [hd.1, hd.2]; rfl), hM.bel⟩

end Go.Proofs.YtjfjcjbjdbjlgaaDoor
