/-
  The examples of the shaper.
-/
import Derived.Test.YtaekcgapbkmepaaShapeC
namespace Go.Proofs.Ytaekcgapbkmepaa
open Go.RowKit
set_option linter.unusedVariables false
set_option linter.unusedSimpArgs false

theorem take_next {l m : List Int} {k : Nat} (h1 : k < l.length) (h2 : k < m.length) (h : l.take k = m.take k) (e : nt l k = nt m k) : l.take (k + 1) = m.take (k + 1) := by
  rw [List.take_add_one, List.take_add_one, h, nt_some h1, nt_some h2, e]
theorem take_all {l m : List Int} {k : Nat} (h1 : l.length = k) (h2 : m.length = k) (h : l.take k = m.take k) : l = m := by
  rwa [List.take_of_length_le (by omega), List.take_of_length_le (by omega)] at h
theorem same_w (A : Option Addr) (l : List Int) (c : Nat) (B : Option Addr) (m : List Int) (d : Nat) (w0 : World) (hA : Ro w0 A (l.map (Value.int .i64))) (hB : Ro w0 B (m.map (Value.int .i64))) (hm : (l.length : Int) ≤ 1000000) :
    Calls Try.prog 21 #[.slice A l.length c, .slice B m.length d] w0 (Ret w0 (.bool (decide (l = m)))) := by
  refine enterK 26 Try.func21 rfl rfl rfl ?_
  intro a hF Q0 hR0 hN0
  have hM := Mem.start w0
  replace hM := hM.addOld 1 hA (Nat.le_refl _)
  replace hM := hM.addOld 2 hB (Nat.le_refl _)
  refine wp_seq_k fun K1 hK1 => ?_
  refine wp_region_lit ?_
  refine sB 1 [(4, .bool false)] hF (by kernel_rfl) fun a hF => ?_
  refine wpList_nil ?_
  refine hK1 _ _ ?_
  refine wp_seq_k fun K2 hK2 => ?_
  refine wp_seq_k fun K3 hK3 => ?_
  refine wp_region_lit ?_
  refine sB 5 [(6, .slice A l.length c), (7, .int .i64 (l.length : Int)), (8, .slice B m.length d), (9, .int .i64 (m.length : Int)), (10, .bool (!decide ((l.length : Int) = (m.length : Int))))] hF (by kernel_rfl) fun a hF => ?_
  refine wpList_nil ?_
  refine hK3 _ _ ?_
  by_cases hz1 : (l.length : Int) = (m.length : Int)
  · skip
    replace hF := hF.c hF (i := 10) (v := .bool false) rfl (nT hz1)
    refine cF hF (by kernel_rfl) (by kernel_rfl) ?_
    refine wp_skip ?_
    refine hK2 _ _ ?_
    refine wp_seq_k fun K4 hK4 => ?_
    refine wp_seq_k fun K5 hK5 => ?_
    refine wp_region_lit ?_
    refine sB 1 [(5, .int .i64 0)] hF (by kernel_rfl) fun a hF => ?_
    refine wpList_nil ?_
    refine hK5 _ _ ?_
    refine wp_block ?_
    refine wp_loop_k (G := Nat) (fun gg a w => Fr 26 [(5, some (.int .i64 (gg : Int))), (0, some (.slice A l.length c)), (1, some (.slice B m.length d))] a ∧ Mem w0.heap.size w0 [(1, some (.ro A (l.map (Value.int .i64)))), (2, some (.ro B (m.map (Value.int .i64))))] w ∧ ((gg : Int) ≤ (l.length : Int)) ∧ (l.take gg = m.take gg)) (fun gg => l.length - gg) (0) ?_ ?_
    · refine ⟨((((Fr.nil hF).c hF (i := 1) rfl rfl).c hF (i := 0) rfl rfl).c hF (i := 5) rfl (vi (show (0 : Int) = (0 : Int) from by omega))), (hM.sub ((Sub.nil.c (k := 2) rfl rfl).c (k := 1) rfl rfl)), (show (0 : Int) ≤ (l.length : Int) from by omega), (show l.take 0 = m.take 0 from by simp)⟩
    · intro gg a w hI
      intro K6 hK6
      obtain ⟨k, rfl⟩ : ∃ x, x = gg := ⟨_, rfl⟩
      try dsimp only at hI hK6
      obtain ⟨hF, hM, hz2, hz3⟩ := hI
      refine wp_seq_k fun K7 hK7 => ?_
      refine wp_seq_k fun K8 hK8 => ?_
      refine wp_region_lit ?_
      refine sB 4 [(11, .int .i64 (k : Int)), (12, .slice A l.length c), (13, .int .i64 (l.length : Int)), (14, .bool (decide ((k : Int) < (l.length : Int))))] hF (by kernel_rfl) fun a hF => ?_
      refine wpList_nil ?_
      refine hK8 _ _ ?_
      by_cases hz4 : (k : Int) < (l.length : Int)
      · skip
        replace hF := hF.c hF (i := 14) (v := .bool true) rfl (bT hz4)
        refine cT hF (by kernel_rfl) (by kernel_rfl) ?_
        refine wp_skip ?_
        refine hK7 _ _ ?_
        refine wp_seq_k fun K9 hK9 => ?_
        refine wp_block ?_
        refine wp_seq_k fun K10 hK10 => ?_
        refine rQ hM (by kernel_rfl) (by kernel_rfl) ?_
        refine eQ 17 (v0 := .slice A l.length c) (v := .slice A l.length c) hF (by kernel_rfl) (fun _ => by kernel_rfl) rfl fun a hF => ?_
        refine eQ 18 (v0 := .int .i64 (k : Int)) (v := .int .i64 (k : Int)) hF (by kernel_rfl) (fun _ => by kernel_rfl) rfl fun a hF => ?_
        refine eQ2 19 (v := .pointer (some (ea A (k)))) hF (by kernel_rfl) (yld_ix (kd := .i64) (e := 3) (len := l.length) (cap := c) (i := (k : Int)) (size := 1) (A := A) hF rfl (by kernel_rfl) (by kernel_rfl) (by kernel_rfl) (by kernel_rfl) (by kernel_rfl) (roK 1 rfl) (by omega) (by omega) (by rw [List.length_map]; omega)) fun a hF => ?_
        refine eQ2 20 (v := .int .i64 (nt l k)) hF (by kernel_rfl) (yld_ro1 (A := A) (j := k) hF rfl (by kernel_rfl) (by kernel_rfl) (roK 1 rfl) (by kernel_rfl) (nt_at (by omega))) fun a hF => ?_
        refine eQ 21 (v0 := .slice B m.length d) (v := .slice B m.length d) hF (by kernel_rfl) (fun _ => by kernel_rfl) rfl fun a hF => ?_
        refine eQ 22 (v0 := .int .i64 (k : Int)) (v := .int .i64 (k : Int)) hF (by kernel_rfl) (fun _ => by kernel_rfl) rfl fun a hF => ?_
        refine eQ2 23 (v := .pointer (some (ea B (k)))) hF (by kernel_rfl) (yld_ix (kd := .i64) (e := 3) (len := m.length) (cap := d) (i := (k : Int)) (size := 1) (A := B) hF rfl (by kernel_rfl) (by kernel_rfl) (by kernel_rfl) (by kernel_rfl) (by kernel_rfl) (roK 2 rfl) (by omega) (by omega) (by rw [List.length_map]; omega)) fun a hF => ?_
        refine eQ2 24 (v := .int .i64 (nt m k)) hF (by kernel_rfl) (yld_ro1 (A := B) (j := k) hF rfl (by kernel_rfl) (by kernel_rfl) (roK 2 rfl) (by kernel_rfl) (nt_at (by omega))) fun a hF => ?_
        refine eQ 25 (v0 := .bool (!decide (nt l k = nt m k))) (v := .bool (!decide (nt l k = nt m k))) hF (by kernel_rfl) (fun _ => by kernel_rfl) rfl fun a hF => ?_
        refine wpQuiet_nil ?_
        intro w hM
        refine hK10 _ _ ?_
        by_cases hz5 : nt l k = nt m k
        · skip
          replace hF := hF.c hF (i := 25) (v := .bool false) rfl (nT hz5)
          refine cF hF (by kernel_rfl) (by kernel_rfl) ?_
          refine wp_skip ?_
          refine hK9 _ _ ?_
          refine wp_region_lit ?_
          refine sB 1 [(15, .int .i64 (k : Int))] hF (by kernel_rfl) fun a hF => ?_
          refine wl (eP 16 (v0 := .int .i64 (IntKind.i64.wrap ((k : Int) + 1))) (v := .int .i64 ((k : Int) + 1)) hF (by kernel_rfl) (fun _ => by kernel_rfl) (wi (by omega)) fun a hF => ?_)
          refine sB 1 [(5, .int .i64 ((k : Int) + 1))] hF (by kernel_rfl) fun a hF => ?_
          refine wpList_nil ?_
          refine hK6 _ _ ⟨(k + 1), ⟨((((Fr.nil hF).c hF (i := 1) rfl rfl).c hF (i := 0) rfl rfl).c hF (i := 5) rfl (vi (show ((k : Int) + 1 : Int) = ((k + 1) : Int) from by omega))), (hM.sub ((Sub.nil.c (k := 2) rfl rfl).c (k := 1) rfl rfl)), (show ((k + 1) : Int) ≤ (l.length : Int) from by omega), (show l.take (k + 1) = m.take (k + 1) from by exact take_next (by omega) (by omega) (by assumption) (by assumption))⟩, (show l.length - (k + 1) < l.length - k from by omega)⟩
        · skip
          replace hF := hF.c hF (i := 25) (v := .bool true) rfl (nF hz5)
          refine cT hF (by kernel_rfl) (by kernel_rfl) ?_
          refine wp_seq_k fun K11 hK11 => ?_
          refine wp_region_lit ?_
          refine sB 1 [(4, .bool false)] hF (by kernel_rfl) fun a hF => ?_
          refine wpList_nil ?_
          refine hK11 _ _ ?_
          refine wp_ret ?_
          refine hR0 _ _ ?_
          refine ret_of hF hM (.tmp rfl (.nil)) ?_
          exact ⟨ret_bool (decide_eq_false (fun e => by subst e; first | omega | contradiction)).symm, hM.bel⟩
      · skip
        replace hF := hF.c hF (i := 14) (v := .bool false) rfl (bF hz4)
        refine cF hF (by kernel_rfl) (by kernel_rfl) ?_
        refine wp_exit ?_
        refine hK4 _ _ ?_
        refine wp_seq_k fun K12 hK12 => ?_
        refine wp_region_lit ?_
        refine sB 1 [(4, .bool true)] hF (by kernel_rfl) fun a hF => ?_
        refine wpList_nil ?_
        refine hK12 _ _ ?_
        refine wp_ret ?_
        refine hR0 _ _ ?_
        refine ret_of hF hM (.tmp rfl (.nil)) ?_
        exact ⟨ret_bool (decide_eq_true (take_all (k := k) (by omega) (by omega) (by assumption))).symm, hM.bel⟩
  · skip
    replace hF := hF.c hF (i := 10) (v := .bool true) rfl (nF hz1)
    refine cT hF (by kernel_rfl) (by kernel_rfl) ?_
    refine wp_seq_k fun K13 hK13 => ?_
    refine wp_region_lit ?_
    refine sB 1 [(4, .bool false)] hF (by kernel_rfl) fun a hF => ?_
    refine wpList_nil ?_
    refine hK13 _ _ ?_
    refine wp_ret ?_
    refine hR0 _ _ ?_
    refine ret_of hF hM (.tmp rfl (.nil)) ?_
    exact ⟨ret_bool (decide_eq_false (fun e => by subst e; first | omega | contradiction)).symm, hM.bel⟩

theorem same_yes (A : Option Addr) (l : List Int) (c : Nat) (B : Option Addr) (m : List Int) (d : Nat) (w : World) (hA : Ro w A (l.map (Value.int .i64))) (hB : Ro w B (m.map (Value.int .i64))) (hm : (l.length : Int) ≤ 1000000) (h : l = m) :
    Calls Try.prog 21 #[.slice A l.length c, .slice B m.length d] w (Ret w (.bool true)) := by
  have := same_w A l c B m d w hA hB hm
  rwa [decide_eq_true h] at this
set_option maxRecDepth 100000 in
set_option maxHeartbeats 8000000 in
theorem works34_w (w0 : World) :
    Calls Try.prog 16 #[] w0 (Ret w0 (.bool true)) := by
  refine enterK 143 Try.func16 rfl rfl rfl ?_
  intro a hF Q0 hR0 hN0
  have hM := Mem.start w0
  refine wp_seq_k fun K1 hK1 => ?_
  refine wp_region_lit ?_
  refine sB 1 [(0, .bool false)] hF (by kernel_rfl) fun a hF => ?_
  refine wpList_nil ?_
  refine hK1 _ _ ?_
  refine wp_seq_k fun K2 hK2 => ?_
  refine wp_region_lit ?_
  refine wl (sC (f := 23) (args := #[]) hF (by kernel_rfl) rfl (by decide) (by kernel_rfl) (fun _ => by kernel_rfl) ?_)
  refine enterK 2 Try.func23 rfl rfl rfl ?_
  intro a1 hF1 QR3 hR3 hNR3
  refine wp_seq_k fun K4 hK4 => ?_
  refine wp_region_lit ?_
  refine wl (eN 0 1 (t := 23) (fun b => .pointer (some ⟨b, 0, none⟩)) #[.int .i64 0, .int .i64 0] hF1 hM (by kernel_rfl) (fun _ => by kernel_rfl) fun bb1 a1 w hF1 hM => ?_)
  refine wpList_nil ?_
  refine hK4 _ _ ?_
  refine wp_seq_k fun K5 hK5 => ?_
  refine wp_region_lit ?_
  refine sB 1 [(1, .agg #[.int .i64 100, .int .i64 131072])] hF1 (by kernel_rfl) fun a1 hF1 => ?_
  refine wl (sStore (i := 1) (off := 0) (cs' := #[.int .i64 100, .int .i64 131072]) hF1 hM (by kernel_rfl) rfl rfl (by kernel_rfl) (by kernel_rfl) rfl (by kernel_rfl) fun w hM => ?_)
  refine wpList_nil ?_
  refine hK5 _ _ ?_
  refine wp_ret ?_
  refine hR3 _ _ ?_
  refine ret_of hF1 hM (.cell (i := 1) rfl rfl (v := .agg #[.int .i64 100, .int .i64 131072]) (by kernel_rfl) (.nil)) ⟨_, rfl, ?_⟩
  intro a hF
  refine wl (eN 1 2 (t := 23) (fun b => .pointer (some ⟨b, 0, none⟩)) #[.int .i64 0, .int .i64 0] hF hM (by kernel_rfl) (fun _ => by kernel_rfl) fun bb2 a w hF hM => ?_)
  refine wl (sStore (i := 2) (off := 0) (cs' := #[.int .i64 100, .int .i64 131072]) hF hM (by kernel_rfl) rfl rfl (by kernel_rfl) (by kernel_rfl) rfl (by kernel_rfl) fun w hM => ?_)
  refine wpList_nil ?_
  refine hK2 _ _ ?_
  refine wp_seq_k fun K6 hK6 => ?_
  refine wp_region_lit ?_
  refine wl (eL 25 2 0 (v := .agg #[.int .i64 100, .int .i64 131072]) hF hM (by kernel_rfl) rfl rfl (by kernel_rfl) (by kernel_rfl) fun a w hF hM => ?_)
  refine wl (eM 26 (v := .tuple #[.agg #[.int .i64 0, .int .i64 104857600], .int .i64 0]) hF hM (by kernel_rfl) (Yld.to (yld_call (f := 10) (args := #[.agg #[.int .i64 100, .int .i64 131072]]) hF (by kernel_rfl) (fun _ => by kernel_rfl) (fun w hM => shNew_w 100 131072 w)) (by kernel_rfl)) fun a w hF hM => ?_)
  refine sB 3 [(24, .tuple #[.agg #[.int .i64 0, .int .i64 104857600], .int .i64 0]), (27, .agg #[.int .i64 0, .int .i64 104857600]), (28, .int .i64 0)] hF (by kernel_rfl) fun a hF => ?_
  refine wl (eN 2 3 (t := 29) (fun b => .pointer (some ⟨b, 0, none⟩)) #[.int .i64 0, .int .i64 0] hF hM (by kernel_rfl) (fun _ => by kernel_rfl) fun bb3 a w hF hM => ?_)
  refine wl (sStore (i := 3) (off := 0) (cs' := #[.int .i64 0, .int .i64 104857600]) hF hM (by kernel_rfl) rfl rfl (by kernel_rfl) (by kernel_rfl) rfl (by kernel_rfl) fun w hM => ?_)
  refine sB 1 [(3, .int .i64 0)] hF (by kernel_rfl) fun a hF => ?_
  refine wpList_nil ?_
  refine hK6 _ _ ?_
  refine wp_seq_k fun K7 hK7 => ?_
  refine wp_region_lit ?_
  refine wl (eL 30 2 0 (v := .agg #[.int .i64 100, .int .i64 131072]) hF hM (by kernel_rfl) rfl rfl (by kernel_rfl) (by kernel_rfl) fun a w hF hM => ?_)
  refine wl (eL 31 3 0 (v := .agg #[.int .i64 0, .int .i64 104857600]) hF hM (by kernel_rfl) rfl rfl (by kernel_rfl) (by kernel_rfl) fun a w hF hM => ?_)
  refine wl (eM 32 (v := .tuple #[.int .i64 5, .agg #[.int .i64 5, .int .i64 0], .int .i64 0]) hF hM (by kernel_rfl) (Yld.to (yld_call (f := 14) (args := #[.agg #[.int .i64 100, .int .i64 131072], .agg #[.int .i64 0, .int .i64 104857600], .int .i64 5, .int .i64 100]) hF (by kernel_rfl) (fun _ => by kernel_rfl) (fun w hM => shElig_w 100 131072 0 104857600 5 100 w)) (by kernel_rfl)) fun a w hF hM => ?_)
  refine sB 4 [(29, .tuple #[.int .i64 5, .agg #[.int .i64 5, .int .i64 0], .int .i64 0]), (33, .int .i64 5), (34, .agg #[.int .i64 5, .int .i64 0]), (35, .int .i64 0)] hF (by kernel_rfl) fun a hF => ?_
  refine wl (eN 5 4 (t := 29) (fun b => .pointer (some ⟨b, 0, none⟩)) #[.int .i64 0, .int .i64 0] hF hM (by kernel_rfl) (fun _ => by kernel_rfl) fun bb4 a w hF hM => ?_)
  refine sB 1 [(4, .int .i64 5)] hF (by kernel_rfl) fun a hF => ?_
  refine wl (sStore (i := 4) (off := 0) (cs' := #[.int .i64 5, .int .i64 0]) hF hM (by kernel_rfl) rfl rfl (by kernel_rfl) (by kernel_rfl) rfl (by kernel_rfl) fun w hM => ?_)
  refine sB 1 [(6, .int .i64 0)] hF (by kernel_rfl) fun a hF => ?_
  refine wpList_nil ?_
  refine hK7 _ _ ?_
  refine wp_seq_k fun K8 hK8 => ?_
  refine wp_region_lit ?_
  refine wl (eL 37 2 0 (v := .agg #[.int .i64 100, .int .i64 131072]) hF hM (by kernel_rfl) rfl rfl (by kernel_rfl) (by kernel_rfl) fun a w hF hM => ?_)
  refine wl (eL 38 4 0 (v := .agg #[.int .i64 5, .int .i64 0]) hF hM (by kernel_rfl) rfl rfl (by kernel_rfl) (by kernel_rfl) fun a w hF hM => ?_)
  refine wl (eM 39 (v := .tuple #[.int .i64 13, .agg #[.int .i64 13, .int .i64 0], .int .i64 0]) hF hM (by kernel_rfl) (Yld.to (yld_call (f := 14) (args := #[.agg #[.int .i64 100, .int .i64 131072], .agg #[.int .i64 5, .int .i64 0], .int .i64 5, .int .i64 1]) hF (by kernel_rfl) (fun _ => by kernel_rfl) (fun w hM => shElig_w 100 131072 5 0 5 1 w)) (by kernel_rfl)) fun a w hF hM => ?_)
  refine sB 4 [(36, .tuple #[.int .i64 13, .agg #[.int .i64 13, .int .i64 0], .int .i64 0]), (40, .int .i64 13), (41, .agg #[.int .i64 13, .int .i64 0]), (42, .int .i64 0)] hF (by kernel_rfl) fun a hF => ?_
  refine wl (eN 8 5 (t := 29) (fun b => .pointer (some ⟨b, 0, none⟩)) #[.int .i64 0, .int .i64 0] hF hM (by kernel_rfl) (fun _ => by kernel_rfl) fun bb5 a w hF hM => ?_)
  refine sB 1 [(7, .int .i64 13)] hF (by kernel_rfl) fun a hF => ?_
  refine wl (sStore (i := 5) (off := 0) (cs' := #[.int .i64 13, .int .i64 0]) hF hM (by kernel_rfl) rfl rfl (by kernel_rfl) (by kernel_rfl) rfl (by kernel_rfl) fun w hM => ?_)
  refine sB 1 [(9, .int .i64 0)] hF (by kernel_rfl) fun a hF => ?_
  refine wpList_nil ?_
  refine hK8 _ _ ?_
  refine wp_seq_k fun K9 hK9 => ?_
  refine wp_region_lit ?_
  refine wl (eL 44 2 0 (v := .agg #[.int .i64 100, .int .i64 131072]) hF hM (by kernel_rfl) rfl rfl (by kernel_rfl) (by kernel_rfl) fun a w hF hM => ?_)
  refine wl (eL 45 5 0 (v := .agg #[.int .i64 13, .int .i64 0]) hF hM (by kernel_rfl) rfl rfl (by kernel_rfl) (by kernel_rfl) fun a w hF hM => ?_)
  refine wl (eM 46 (v := .tuple #[.int .i64 29, .agg #[.int .i64 29, .int .i64 0], .int .i64 0]) hF hM (by kernel_rfl) (Yld.to (yld_call (f := 14) (args := #[.agg #[.int .i64 100, .int .i64 131072], .agg #[.int .i64 13, .int .i64 0], .int .i64 20, .int .i64 2]) hF (by kernel_rfl) (fun _ => by kernel_rfl) (fun w hM => shElig_w 100 131072 13 0 20 2 w)) (by kernel_rfl)) fun a w hF hM => ?_)
  refine sB 4 [(43, .tuple #[.int .i64 29, .agg #[.int .i64 29, .int .i64 0], .int .i64 0]), (47, .int .i64 29), (48, .agg #[.int .i64 29, .int .i64 0]), (49, .int .i64 0)] hF (by kernel_rfl) fun a hF => ?_
  refine wl (eN 11 6 (t := 29) (fun b => .pointer (some ⟨b, 0, none⟩)) #[.int .i64 0, .int .i64 0] hF hM (by kernel_rfl) (fun _ => by kernel_rfl) fun bb6 a w hF hM => ?_)
  refine sB 1 [(10, .int .i64 29)] hF (by kernel_rfl) fun a hF => ?_
  refine wl (sStore (i := 6) (off := 0) (cs' := #[.int .i64 29, .int .i64 0]) hF hM (by kernel_rfl) rfl rfl (by kernel_rfl) (by kernel_rfl) rfl (by kernel_rfl) fun w hM => ?_)
  refine sB 1 [(12, .int .i64 0)] hF (by kernel_rfl) fun a hF => ?_
  refine wpList_nil ?_
  refine hK9 _ _ ?_
  refine wp_seq_k fun K10 hK10 => ?_
  refine wp_region_lit ?_
  refine wl (eL 51 2 0 (v := .agg #[.int .i64 100, .int .i64 131072]) hF hM (by kernel_rfl) rfl rfl (by kernel_rfl) (by kernel_rfl) fun a w hF hM => ?_)
  refine wl (eL 52 6 0 (v := .agg #[.int .i64 29, .int .i64 0]) hF hM (by kernel_rfl) rfl rfl (by kernel_rfl) (by kernel_rfl) fun a w hF hM => ?_)
  refine wl (eM 53 (v := .tuple #[.int .i64 1000, .agg #[.int .i64 1000, .int .i64 0], .int .i64 0]) hF hM (by kernel_rfl) (Yld.to (yld_call (f := 14) (args := #[.agg #[.int .i64 100, .int .i64 131072], .agg #[.int .i64 29, .int .i64 0], .int .i64 1000, .int .i64 100]) hF (by kernel_rfl) (fun _ => by kernel_rfl) (fun w hM => shElig_w 100 131072 29 0 1000 100 w)) (by kernel_rfl)) fun a w hF hM => ?_)
  refine sB 4 [(50, .tuple #[.int .i64 1000, .agg #[.int .i64 1000, .int .i64 0], .int .i64 0]), (54, .int .i64 1000), (55, .agg #[.int .i64 1000, .int .i64 0]), (56, .int .i64 0)] hF (by kernel_rfl) fun a hF => ?_
  refine wl (eN 14 7 (t := 29) (fun b => .pointer (some ⟨b, 0, none⟩)) #[.int .i64 0, .int .i64 0] hF hM (by kernel_rfl) (fun _ => by kernel_rfl) fun bb7 a w hF hM => ?_)
  refine sB 1 [(13, .int .i64 1000)] hF (by kernel_rfl) fun a hF => ?_
  refine wl (sStore (i := 7) (off := 0) (cs' := #[.int .i64 1000, .int .i64 0]) hF hM (by kernel_rfl) rfl rfl (by kernel_rfl) (by kernel_rfl) rfl (by kernel_rfl) fun w hM => ?_)
  refine sB 1 [(15, .int .i64 0)] hF (by kernel_rfl) fun a hF => ?_
  refine wpList_nil ?_
  refine hK10 _ _ ?_
  refine wp_seq_k fun K11 hK11 => ?_
  refine wp_region_lit ?_
  refine wl (eL 58 2 0 (v := .agg #[.int .i64 100, .int .i64 131072]) hF hM (by kernel_rfl) rfl rfl (by kernel_rfl) (by kernel_rfl) fun a w hF hM => ?_)
  refine wl (eL 59 7 0 (v := .agg #[.int .i64 1000, .int .i64 0]) hF hM (by kernel_rfl) rfl rfl (by kernel_rfl) (by kernel_rfl) fun a w hF hM => ?_)
  refine wl (eM 60 (v := .tuple #[.int .i64 0, .agg #[.int .i64 0, .int .i64 0], .int .i64 4]) hF hM (by kernel_rfl) (Yld.to (yld_call (f := 14) (args := #[.agg #[.int .i64 100, .int .i64 131072], .agg #[.int .i64 1000, .int .i64 0], .int .i64 1000, .int .i64 101]) hF (by kernel_rfl) (fun _ => by kernel_rfl) (fun w hM => shElig_w 100 131072 1000 0 1000 101 w)) (by kernel_rfl)) fun a w hF hM => ?_)
  refine sB 4 [(57, .tuple #[.int .i64 0, .agg #[.int .i64 0, .int .i64 0], .int .i64 4]), (61, .int .i64 0), (62, .agg #[.int .i64 0, .int .i64 0]), (63, .int .i64 4)] hF (by kernel_rfl) fun a hF => ?_
  refine wl (eN 17 8 (t := 29) (fun b => .pointer (some ⟨b, 0, none⟩)) #[.int .i64 0, .int .i64 0] hF hM (by kernel_rfl) (fun _ => by kernel_rfl) fun bb8 a w hF hM => ?_)
  refine sB 1 [(16, .int .i64 0)] hF (by kernel_rfl) fun a hF => ?_
  refine wl (sStore (i := 8) (off := 0) (cs' := #[.int .i64 0, .int .i64 0]) hF hM (by kernel_rfl) rfl rfl (by kernel_rfl) (by kernel_rfl) rfl (by kernel_rfl) fun w hM => ?_)
  refine sB 1 [(18, .int .i64 4)] hF (by kernel_rfl) fun a hF => ?_
  refine wpList_nil ?_
  refine hK11 _ _ ?_
  refine wp_seq_k fun K12 hK12 => ?_
  refine wp_region_lit ?_
  refine wl (eL 65 2 0 (v := .agg #[.int .i64 100, .int .i64 131072]) hF hM (by kernel_rfl) rfl rfl (by kernel_rfl) (by kernel_rfl) fun a w hF hM => ?_)
  refine sB 1 [(66, .agg #[.int .i64 1099511627776, .int .i64 0])] hF (by kernel_rfl) fun a hF => ?_
  refine wl (eM 67 (v := .tuple #[.int .i64 0, .agg #[.int .i64 0, .int .i64 0], .int .i64 6]) hF hM (by kernel_rfl) (Yld.to (yld_call (f := 14) (args := #[.agg #[.int .i64 100, .int .i64 131072], .agg #[.int .i64 1099511627776, .int .i64 0], .int .i64 1099511627776, .int .i64 100]) hF (by kernel_rfl) (fun _ => by kernel_rfl) (fun w hM => shElig_w 100 131072 1099511627776 0 1099511627776 100 w)) (by kernel_rfl)) fun a w hF hM => ?_)
  refine sB 4 [(64, .tuple #[.int .i64 0, .agg #[.int .i64 0, .int .i64 0], .int .i64 6]), (68, .int .i64 0), (69, .agg #[.int .i64 0, .int .i64 0]), (70, .int .i64 6)] hF (by kernel_rfl) fun a hF => ?_
  refine wl (eN 20 9 (t := 29) (fun b => .pointer (some ⟨b, 0, none⟩)) #[.int .i64 0, .int .i64 0] hF hM (by kernel_rfl) (fun _ => by kernel_rfl) fun bb9 a w hF hM => ?_)
  refine sB 1 [(19, .int .i64 0)] hF (by kernel_rfl) fun a hF => ?_
  refine wl (sStore (i := 9) (off := 0) (cs' := #[.int .i64 0, .int .i64 0]) hF hM (by kernel_rfl) rfl rfl (by kernel_rfl) (by kernel_rfl) rfl (by kernel_rfl) fun w hM => ?_)
  refine sB 1 [(21, .int .i64 6)] hF (by kernel_rfl) fun a hF => ?_
  refine wpList_nil ?_
  refine hK12 _ _ ?_
  refine wp_seq_k fun K13 hK13 => ?_
  refine wp_region_lit ?_
  refine sB 1 [(71, .int .i64 0)] hF (by kernel_rfl) fun a hF => ?_
  refine wl (eP 72 (v0 := .bool (decide (0 = 0))) (v := .bool true) hF (by kernel_rfl) (fun _ => by kernel_rfl) (bT (by omega)) fun a hF => ?_)
  refine sB 2 [(73, .bool true), (74, .int .i64 0)] hF (by kernel_rfl) fun a hF => ?_
  refine wl (eP 75 (v0 := .bool (decide (0 = 0))) (v := .bool true) hF (by kernel_rfl) (fun _ => by kernel_rfl) (bT (by omega)) fun a hF => ?_)
  refine sB 3 [(76, .bool true), (77, .bool true), (78, .int .i64 0)] hF (by kernel_rfl) fun a hF => ?_
  refine wl (eP 79 (v0 := .bool (decide (0 = 0))) (v := .bool true) hF (by kernel_rfl) (fun _ => by kernel_rfl) (bT (by omega)) fun a hF => ?_)
  refine sB 3 [(80, .bool true), (81, .bool true), (82, .int .i64 0)] hF (by kernel_rfl) fun a hF => ?_
  refine wl (eP 83 (v0 := .bool (decide (0 = 0))) (v := .bool true) hF (by kernel_rfl) (fun _ => by kernel_rfl) (bT (by omega)) fun a hF => ?_)
  refine sB 3 [(84, .bool true), (85, .bool true), (86, .int .i64 0)] hF (by kernel_rfl) fun a hF => ?_
  refine wl (eP 87 (v0 := .bool (decide (0 = 0))) (v := .bool true) hF (by kernel_rfl) (fun _ => by kernel_rfl) (bT (by omega)) fun a hF => ?_)
  refine sB 3 [(88, .bool true), (89, .bool true), (90, .int .i64 4)] hF (by kernel_rfl) fun a hF => ?_
  refine wl (eP 91 (v0 := .bool (decide (4 = 4))) (v := .bool true) hF (by kernel_rfl) (fun _ => by kernel_rfl) (bT (by omega)) fun a hF => ?_)
  refine sB 3 [(92, .bool true), (93, .bool true), (94, .int .i64 6)] hF (by kernel_rfl) fun a hF => ?_
  refine wl (eP 95 (v0 := .bool (decide (6 = 6))) (v := .bool true) hF (by kernel_rfl) (fun _ => by kernel_rfl) (bT (by omega)) fun a hF => ?_)
  refine sB 2 [(96, .bool true), (22, .bool true)] hF (by kernel_rfl) fun a hF => ?_
  refine wpList_nil ?_
  refine hK13 _ _ ?_
  refine wp_seq_k fun K14 hK14 => ?_
  refine wp_region_lit ?_
  refine sB 3 [(97, .bool true), (98, .bool true), (99, .int .i64 5)] hF (by kernel_rfl) fun a hF => ?_
  refine wl (eP 100 (v0 := .bool (decide (5 = 5))) (v := .bool true) hF (by kernel_rfl) (fun _ => by kernel_rfl) (bT (by omega)) fun a hF => ?_)
  refine sB 2 [(101, .bool true), (102, .bool true)] hF (by kernel_rfl) fun a hF => ?_
  refine wl (eL 103 4 0 (v := .agg #[.int .i64 5, .int .i64 0]) hF hM (by kernel_rfl) rfl rfl (by kernel_rfl) (by kernel_rfl) fun a w hF hM => ?_)
  refine sB 1 [(104, .agg #[.int .i64 5, .int .i64 0])] hF (by kernel_rfl) fun a hF => ?_
  refine wl (eM 105 (v := .bool true) hF hM (by kernel_rfl) ((yld_eql (C := Mem _ _ _) [5, 0] [5, 0] hF rfl (by kernel_rfl) (by kernel_rfl) (by kernel_rfl) rfl (by kernel_rfl) (by kernel_rfl) (by kernel_rfl) rfl rfl).to (bT (by decide))) fun a w hF hM => ?_)
  refine sB 3 [(106, .bool true), (107, .bool true), (108, .int .i64 13)] hF (by kernel_rfl) fun a hF => ?_
  refine wl (eP 109 (v0 := .bool (decide (13 = 13))) (v := .bool true) hF (by kernel_rfl) (fun _ => by kernel_rfl) (bT (by omega)) fun a hF => ?_)
  refine sB 2 [(110, .bool true), (111, .bool true)] hF (by kernel_rfl) fun a hF => ?_
  refine wl (eL 112 5 0 (v := .agg #[.int .i64 13, .int .i64 0]) hF hM (by kernel_rfl) rfl rfl (by kernel_rfl) (by kernel_rfl) fun a w hF hM => ?_)
  refine sB 1 [(113, .agg #[.int .i64 13, .int .i64 0])] hF (by kernel_rfl) fun a hF => ?_
  refine wl (eM 114 (v := .bool true) hF hM (by kernel_rfl) ((yld_eql (C := Mem _ _ _) [13, 0] [13, 0] hF rfl (by kernel_rfl) (by kernel_rfl) (by kernel_rfl) rfl (by kernel_rfl) (by kernel_rfl) (by kernel_rfl) rfl rfl).to (bT (by decide))) fun a w hF hM => ?_)
  refine sB 3 [(115, .bool true), (116, .bool true), (117, .int .i64 29)] hF (by kernel_rfl) fun a hF => ?_
  refine wl (eP 118 (v0 := .bool (decide (29 = 29))) (v := .bool true) hF (by kernel_rfl) (fun _ => by kernel_rfl) (bT (by omega)) fun a hF => ?_)
  refine sB 2 [(119, .bool true), (120, .bool true)] hF (by kernel_rfl) fun a hF => ?_
  refine wl (eL 121 6 0 (v := .agg #[.int .i64 29, .int .i64 0]) hF hM (by kernel_rfl) rfl rfl (by kernel_rfl) (by kernel_rfl) fun a w hF hM => ?_)
  refine sB 1 [(122, .agg #[.int .i64 29, .int .i64 0])] hF (by kernel_rfl) fun a hF => ?_
  refine wl (eM 123 (v := .bool true) hF hM (by kernel_rfl) ((yld_eql (C := Mem _ _ _) [29, 0] [29, 0] hF rfl (by kernel_rfl) (by kernel_rfl) (by kernel_rfl) rfl (by kernel_rfl) (by kernel_rfl) (by kernel_rfl) rfl rfl).to (bT (by decide))) fun a w hF hM => ?_)
  refine sB 3 [(124, .bool true), (125, .bool true), (126, .int .i64 1000)] hF (by kernel_rfl) fun a hF => ?_
  refine wl (eP 127 (v0 := .bool (decide (1000 = 1000))) (v := .bool true) hF (by kernel_rfl) (fun _ => by kernel_rfl) (bT (by omega)) fun a hF => ?_)
  refine sB 2 [(128, .bool true), (129, .bool true)] hF (by kernel_rfl) fun a hF => ?_
  refine wl (eL 130 7 0 (v := .agg #[.int .i64 1000, .int .i64 0]) hF hM (by kernel_rfl) rfl rfl (by kernel_rfl) (by kernel_rfl) fun a w hF hM => ?_)
  refine sB 1 [(131, .agg #[.int .i64 1000, .int .i64 0])] hF (by kernel_rfl) fun a hF => ?_
  refine wl (eM 132 (v := .bool true) hF hM (by kernel_rfl) ((yld_eql (C := Mem _ _ _) [1000, 0] [1000, 0] hF rfl (by kernel_rfl) (by kernel_rfl) (by kernel_rfl) rfl (by kernel_rfl) (by kernel_rfl) (by kernel_rfl) rfl rfl).to (bT (by decide))) fun a w hF hM => ?_)
  refine sB 2 [(133, .bool true), (134, .bool true)] hF (by kernel_rfl) fun a hF => ?_
  refine wl (eL 135 2 0 (v := .agg #[.int .i64 100, .int .i64 131072]) hF hM (by kernel_rfl) rfl rfl (by kernel_rfl) (by kernel_rfl) fun a w hF hM => ?_)
  refine sB 3 [(136, .agg #[.int .i64 0, .int .i64 60]), (137, .agg #[.int .i64 0, .int .i64 60]), (138, .agg #[.int .i64 100, .int .i64 40])] hF (by kernel_rfl) fun a hF => ?_
  refine wl (eN 139 10 (t := 31) (fun b => .slice (some ⟨b, 0, none⟩) 3 3) #[.int .i64 0, .int .i64 60, .int .i64 0, .int .i64 60, .int .i64 100, .int .i64 40] hF hM (by kernel_rfl) (fun _ => by kernel_rfl) fun bb10 a w hF hM => ?_)
  refine wl (eN 140 11 (t := 3) (fun b => .slice (some ⟨b, 0, none⟩) 3 3) #[.int .i64 0, .int .i64 160, .int .i64 480] hF hM (by kernel_rfl) (fun _ => by kernel_rfl) fun bb11 a w hF hM => ?_)
  refine wl (sC (f := 24) (args := #[.agg #[.int .i64 100, .int .i64 131072], .slice (some ⟨bb10, 0, none⟩) 3 3, .slice (some ⟨bb11, 0, none⟩) 3 3]) hF (by kernel_rfl) rfl (by decide) (by kernel_rfl) (fun _ => by kernel_rfl) ?_)
  refine enterK 22 Try.func24 rfl rfl rfl ?_
  intro a1 hF1 QR15 hR15 hNR15
  refine wp_seq_k fun K16 hK16 => ?_
  refine wp_region_lit ?_
  refine wl (eN 3 12 (t := 23) (fun b => .pointer (some ⟨b, 0, none⟩)) #[.int .i64 100, .int .i64 131072] hF1 hM (by kernel_rfl) (fun _ => by kernel_rfl) fun bb12 a1 w hF1 hM => ?_)
  refine sB 1 [(6, .bool false)] hF1 (by kernel_rfl) fun a1 hF1 => ?_
  refine wpList_nil ?_
  refine hK16 _ _ ?_
  refine wp_seq_k fun K17 hK17 => ?_
  refine wp_region_lit ?_
  refine wl (eL 10 12 0 (v := .agg #[.int .i64 100, .int .i64 131072]) hF1 hM (by kernel_rfl) rfl rfl (by kernel_rfl) (by kernel_rfl) fun a1 w hF1 hM => ?_)
  refine sB 1 [(11, .slice (some ⟨bb10, 0, none⟩) 3 3)] hF1 (by kernel_rfl) fun a1 hF1 => ?_
  refine wl (sOwn 13 (f := 19) (args := #[.agg #[.int .i64 100, .int .i64 131072], .slice (some ⟨bb10, 0, none⟩) 3 3]) (mk := fun v => .tuple #[v, .int .i64 0]) (e := 3) (size := 1) (m := 3) (xs := (([0, 160, 480]).map (Value.int .i64))) hF1 hM (by kernel_rfl) rfl (by decide) (by kernel_rfl) (fun _ => by kernel_rfl) (shRun_lit (by decide : shUp 100 131072 [(0, 60), (0, 60), (100, 40)] 3 = [0, 160, 480]) (shRun_ok 100 131072 (some ⟨bb10, 0, none⟩) [(0, 60), (0, 60), (100, 40)] _ w (hM.roRow (k := 10) rfl) (by decide))) fun AA13 cc13 a1 w hF1 hM => ?_)
  refine sB 5 [(9, .tuple #[.slice AA13 3 cc13, .int .i64 0]), (13, .slice AA13 3 cc13), (14, .int .i64 0), (7, .slice AA13 3 cc13), (8, .int .i64 0)] hF1 (by kernel_rfl) fun a1 hF1 => ?_
  refine wpList_nil ?_
  refine hK17 _ _ ?_
  refine wp_seq_k fun K18 hK18 => ?_
  refine wp_region_lit ?_
  refine sB 1 [(15, .int .i64 0)] hF1 (by kernel_rfl) fun a1 hF1 => ?_
  refine wl (eP 16 (v0 := .bool (decide (0 = 0))) (v := .bool true) hF1 (by kernel_rfl) (fun _ => by kernel_rfl) (bT (by omega)) fun a1 hF1 => ?_)
  refine sB 3 [(17, .bool true), (18, .slice AA13 3 cc13), (19, .slice (some ⟨bb11, 0, none⟩) 3 3)] hF1 (by kernel_rfl) fun a1 hF1 => ?_
  refine wl (eM 20 (v := .bool true) hF1 hM (by kernel_rfl) (yld_call (f := 21) (args := #[.slice AA13 3 cc13, .slice (some ⟨bb11, 0, none⟩) 3 3]) hF1 (by kernel_rfl) (fun _ => by kernel_rfl) (fun w hM => same_yes AA13 ([0, 160, 480]) cc13 (some ⟨bb11, 0, none⟩) [0, 160, 480] 3 w (ro_of_own (hM.ok 13 _ rfl)) (hM.roRow (k := 11) rfl) (by decide) (by decide))) fun a1 w hF1 hM => ?_)
  refine sB 2 [(21, .bool true), (6, .bool true)] hF1 (by kernel_rfl) fun a1 hF1 => ?_
  refine wpList_nil ?_
  refine hK18 _ _ ?_
  refine wp_ret ?_
  refine hR15 _ _ ?_
  refine ret_of hF1 hM (.tmp rfl (.nil)) ⟨_, rfl, ?_⟩
  intro a hF
  refine sB 2 [(142, .bool true), (0, .bool true)] hF (by kernel_rfl) fun a hF => ?_
  refine wpList_nil ?_
  refine hK14 _ _ ?_
  refine wp_ret ?_
  refine hR0 _ _ ?_
  refine ret_of hF hM (.tmp rfl (.nil)) ?_
  exact ⟨rfl, hM.bel⟩

end Go.Proofs.Ytaekcgapbkmepaa
