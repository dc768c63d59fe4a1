/-
  The examples of the meter.
-/
import Derived.Test.YtncllmponigkgaaMeterC
namespace Go.Proofs.Ytncllmponigkgaa
open Go.RowKit
set_option linter.unusedVariables false
set_option linter.unusedSimpArgs false

theorem take_next {l m : List Int} {k : Nat} (h1 : k < l.length) (h2 : k < m.length) (h : l.take k = m.take k) (e : nt l k = nt m k) : l.take (k + 1) = m.take (k + 1) := by
  rw [List.take_add_one, List.take_add_one, h, nt_some h1, nt_some h2, e]
theorem take_all {l m : List Int} {k : Nat} (h1 : l.length = k) (h2 : m.length = k) (h : l.take k = m.take k) : l = m := by
  rwa [List.take_of_length_le (by omega), List.take_of_length_le (by omega)] at h
theorem same_w (A : Option Addr) (l : List Int) (c : Nat) (B : Option Addr) (m : List Int) (d : Nat) (w0 : World) (hA : Ro w0 A (l.map (Value.int .i64))) (hB : Ro w0 B (m.map (Value.int .i64))) (hm : (l.length : Int) ≤ 1000000) :
    Calls Try.prog 21 #[.slice A l.length c, .slice B m.length d] w0 (Ret w0 (.bool (decide (l = m)))) := by
  refine enterK 26 Try.func21 rfl rfl rfl ?_
  intro a hF Q0 hR0 hN0
  have hM := Mem.start w0
  replace hM := hM.addOld 1 hA (Nat.le_refl _)
  replace hM := hM.addOld 2 hB (Nat.le_refl _)
  refine wp_seq_k fun K1 hK1 => ?_
  refine wp_region_lit ?_
  refine sB 1 [(4, .bool false)] hF (by kernel_rfl) fun a hF => ?_
  refine wpList_nil ?_
  refine hK1 _ _ ?_
  refine wp_seq_k fun K2 hK2 => ?_
  refine wp_seq_k fun K3 hK3 => ?_
  refine wp_region_lit ?_
  refine sB 5 [(6, .slice A l.length c), (7, .int .i64 (l.length : Int)), (8, .slice B m.length d), (9, .int .i64 (m.length : Int)), (10, .bool (!decide ((l.length : Int) = (m.length : Int))))] hF (by kernel_rfl) fun a hF => ?_
  refine wpList_nil ?_
  refine hK3 _ _ ?_
  by_cases hz1 : (l.length : Int) = (m.length : Int)
  · skip
    replace hF := hF.c hF (i := 10) (v := .bool false) rfl (nT hz1)
    refine cF hF (by kernel_rfl) (by kernel_rfl) ?_
    refine wp_skip ?_
    refine hK2 _ _ ?_
    refine wp_seq_k fun K4 hK4 => ?_
    refine wp_seq_k fun K5 hK5 => ?_
    refine wp_region_lit ?_
    refine sB 1 [(5, .int .i64 0)] hF (by kernel_rfl) fun a hF => ?_
    refine wpList_nil ?_
    refine hK5 _ _ ?_
    refine wp_block ?_
    refine wp_loop_k (G := Nat) (fun gg a w => Fr 26 [(5, some (.int .i64 (gg : Int))), (0, some (.slice A l.length c)), (1, some (.slice B m.length d))] a ∧ Mem w0.heap.size w0 [(1, some (.ro A (l.map (Value.int .i64)))), (2, some (.ro B (m.map (Value.int .i64))))] w ∧ ((gg : Int) ≤ (l.length : Int)) ∧ (l.take gg = m.take gg)) (fun gg => l.length - gg) (0) ?_ ?_
    · refine ⟨((((Fr.nil hF).c hF (i := 1) rfl rfl).c hF (i := 0) rfl rfl).c hF (i := 5) rfl (vi (show (0 : Int) = (0 : Int) from by omega))), (hM.sub ((Sub.nil.c (k := 2) rfl rfl).c (k := 1) rfl rfl)), (show (0 : Int) ≤ (l.length : Int) from by omega), (show l.take 0 = m.take 0 from by simp)⟩
    · intro gg a w hI
      intro K6 hK6
      obtain ⟨k, rfl⟩ : ∃ x, x = gg := ⟨_, rfl⟩
      try dsimp only at hI hK6
      obtain ⟨hF, hM, hz2, hz3⟩ := hI
      refine wp_seq_k fun K7 hK7 => ?_
      refine wp_seq_k fun K8 hK8 => ?_
      refine wp_region_lit ?_
      refine sB 4 [(11, .int .i64 (k : Int)), (12, .slice A l.length c), (13, .int .i64 (l.length : Int)), (14, .bool (decide ((k : Int) < (l.length : Int))))] hF (by kernel_rfl) fun a hF => ?_
      refine wpList_nil ?_
      refine hK8 _ _ ?_
      by_cases hz4 : (k : Int) < (l.length : Int)
      · skip
        replace hF := hF.c hF (i := 14) (v := .bool true) rfl (bT hz4)
        refine cT hF (by kernel_rfl) (by kernel_rfl) ?_
        refine wp_skip ?_
        refine hK7 _ _ ?_
        refine wp_seq_k fun K9 hK9 => ?_
        refine wp_block ?_
        refine wp_seq_k fun K10 hK10 => ?_
        refine rQ hM (by kernel_rfl) (by kernel_rfl) ?_
        refine eQ 17 (v0 := .slice A l.length c) (v := .slice A l.length c) hF (by kernel_rfl) (fun _ => by kernel_rfl) rfl fun a hF => ?_
        refine eQ 18 (v0 := .int .i64 (k : Int)) (v := .int .i64 (k : Int)) hF (by kernel_rfl) (fun _ => by kernel_rfl) rfl fun a hF => ?_
        refine eQ2 19 (v := .pointer (some (ea A (k)))) hF (by kernel_rfl) (yld_ix (kd := .i64) (e := 3) (len := l.length) (cap := c) (i := (k : Int)) (size := 1) (A := A) hF rfl (by kernel_rfl) (by kernel_rfl) (by kernel_rfl) (by kernel_rfl) (by kernel_rfl) (roK 1 rfl) (by omega) (by omega) (by rw [List.length_map]; omega)) fun a hF => ?_
        refine eQ2 20 (v := .int .i64 (nt l k)) hF (by kernel_rfl) (yld_ro1 (A := A) (j := k) hF rfl (by kernel_rfl) (by kernel_rfl) (roK 1 rfl) (by kernel_rfl) (nt_at (by omega))) fun a hF => ?_
        refine eQ 21 (v0 := .slice B m.length d) (v := .slice B m.length d) hF (by kernel_rfl) (fun _ => by kernel_rfl) rfl fun a hF => ?_
        refine eQ 22 (v0 := .int .i64 (k : Int)) (v := .int .i64 (k : Int)) hF (by kernel_rfl) (fun _ => by kernel_rfl) rfl fun a hF => ?_
        refine eQ2 23 (v := .pointer (some (ea B (k)))) hF (by kernel_rfl) (yld_ix (kd := .i64) (e := 3) (len := m.length) (cap := d) (i := (k : Int)) (size := 1) (A := B) hF rfl (by kernel_rfl) (by kernel_rfl) (by kernel_rfl) (by kernel_rfl) (by kernel_rfl) (roK 2 rfl) (by omega) (by omega) (by rw [List.length_map]; omega)) fun a hF => ?_
        refine eQ2 24 (v := .int .i64 (nt m k)) hF (by kernel_rfl) (yld_ro1 (A := B) (j := k) hF rfl (by kernel_rfl) (by kernel_rfl) (roK 2 rfl) (by kernel_rfl) (nt_at (by omega))) fun a hF => ?_
        refine eQ 25 (v0 := .bool (!decide (nt l k = nt m k))) (v := .bool (!decide (nt l k = nt m k))) hF (by kernel_rfl) (fun _ => by kernel_rfl) rfl fun a hF => ?_
        refine wpQuiet_nil ?_
        intro w hM
        refine hK10 _ _ ?_
        by_cases hz5 : nt l k = nt m k
        · skip
          replace hF := hF.c hF (i := 25) (v := .bool false) rfl (nT hz5)
          refine cF hF (by kernel_rfl) (by kernel_rfl) ?_
          refine wp_skip ?_
          refine hK9 _ _ ?_
          refine wp_region_lit ?_
          refine sB 1 [(15, .int .i64 (k : Int))] hF (by kernel_rfl) fun a hF => ?_
          refine wl (eP 16 (v0 := .int .i64 (IntKind.i64.wrap ((k : Int) + 1))) (v := .int .i64 ((k : Int) + 1)) hF (by kernel_rfl) (fun _ => by kernel_rfl) (wi (by omega)) fun a hF => ?_)
          refine sB 1 [(5, .int .i64 ((k : Int) + 1))] hF (by kernel_rfl) fun a hF => ?_
          refine wpList_nil ?_
          refine hK6 _ _ ⟨(k + 1), ⟨((((Fr.nil hF).c hF (i := 1) rfl rfl).c hF (i := 0) rfl rfl).c hF (i := 5) rfl (vi (show ((k : Int) + 1 : Int) = ((k + 1) : Int) from by omega))), (hM.sub ((Sub.nil.c (k := 2) rfl rfl).c (k := 1) rfl rfl)), (show ((k + 1) : Int) ≤ (l.length : Int) from by omega), (show l.take (k + 1) = m.take (k + 1) from by exact take_next (by omega) (by omega) (by assumption) (by assumption))⟩, (show l.length - (k + 1) < l.length - k from by omega)⟩
        · skip
          replace hF := hF.c hF (i := 25) (v := .bool true) rfl (nF hz5)
          refine cT hF (by kernel_rfl) (by kernel_rfl) ?_
          refine wp_seq_k fun K11 hK11 => ?_
          refine wp_region_lit ?_
          refine sB 1 [(4, .bool false)] hF (by kernel_rfl) fun a hF => ?_
          refine wpList_nil ?_
          refine hK11 _ _ ?_
          refine wp_ret ?_
          refine hR0 _ _ ?_
          refine ret_of hF hM (.tmp rfl (.nil)) ?_
          exact ⟨ret_bool (decide_eq_false (fun e => by subst e; first | omega | contradiction)).symm, hM.bel⟩
      · skip
        replace hF := hF.c hF (i := 14) (v := .bool false) rfl (bF hz4)
        refine cF hF (by kernel_rfl) (by kernel_rfl) ?_
        refine wp_exit ?_
        refine hK4 _ _ ?_
        refine wp_seq_k fun K12 hK12 => ?_
        refine wp_region_lit ?_
        refine sB 1 [(4, .bool true)] hF (by kernel_rfl) fun a hF => ?_
        refine wpList_nil ?_
        refine hK12 _ _ ?_
        refine wp_ret ?_
        refine hR0 _ _ ?_
        refine ret_of hF hM (.tmp rfl (.nil)) ?_
        exact ⟨ret_bool (decide_eq_true (take_all (k := k) (by omega) (by omega) (by assumption))).symm, hM.bel⟩
  · skip
    replace hF := hF.c hF (i := 10) (v := .bool true) rfl (nF hz1)
    refine cT hF (by kernel_rfl) (by kernel_rfl) ?_
    refine wp_seq_k fun K13 hK13 => ?_
    refine wp_region_lit ?_
    refine sB 1 [(4, .bool false)] hF (by kernel_rfl) fun a hF => ?_
    refine wpList_nil ?_
    refine hK13 _ _ ?_
    refine wp_ret ?_
    refine hR0 _ _ ?_
    refine ret_of hF hM (.tmp rfl (.nil)) ?_
    exact ⟨ret_bool (decide_eq_false (fun e => by subst e; first | omega | contradiction)).symm, hM.bel⟩

theorem same_yes (A : Option Addr) (l : List Int) (c : Nat) (B : Option Addr) (m : List Int) (d : Nat) (w : World) (hA : Ro w A (l.map (Value.int .i64))) (hB : Ro w B (m.map (Value.int .i64))) (hm : (l.length : Int) ≤ 1000000) (h : l = m) :
    Calls Try.prog 21 #[.slice A l.length c, .slice B m.length d] w (Ret w (.bool true)) := by
  have := same_w A l c B m d w hA hB hm
  rwa [decide_eq_true h] at this
set_option maxRecDepth 100000 in
theorem works_w (w0 : World) :
    Calls Try.prog 17 #[] w0 (Ret w0 (.bool true)) := by
  refine enterK 95 Try.func17 rfl rfl rfl ?_
  intro a hF Q0 hR0 hN0
  have hM := Mem.start w0
  refine wp_seq_k fun K1 hK1 => ?_
  refine wp_region_lit ?_
  refine sB 1 [(0, .bool false)] hF (by kernel_rfl) fun a hF => ?_
  refine wpList_nil ?_
  refine hK1 _ _ ?_
  refine wp_seq_k fun K2 hK2 => ?_
  refine wp_region_lit ?_
  refine wl (sC (f := 22) (args := #[]) hF (by kernel_rfl) rfl (by decide) (by kernel_rfl) (fun _ => by kernel_rfl) ?_)
  refine enterK 4 Try.func22 rfl rfl rfl ?_
  intro a1 hF1 QR3 hR3 hNR3
  refine wp_seq_k fun K4 hK4 => ?_
  refine wp_region_lit ?_
  refine wl (eN 0 1 (t := 23) (fun b => .pointer (some ⟨b, 0, none⟩)) #[.int .i64 0, .int .i64 0] hF1 hM (by kernel_rfl) (fun _ => by kernel_rfl) fun bb1 a1 w hF1 hM => ?_)
  refine wl (eN 1 2 (t := 23) (fun b => .pointer (some ⟨b, 0, none⟩)) #[.int .i64 0, .int .i64 0] hF1 hM (by kernel_rfl) (fun _ => by kernel_rfl) fun bb2 a1 w hF1 hM => ?_)
  refine wpList_nil ?_
  refine hK4 _ _ ?_
  refine wp_seq_k fun K5 hK5 => ?_
  refine wp_region_lit ?_
  refine sB 2 [(2, .agg #[.int .i64 100, .int .i64 131072]), (3, .agg #[.int .i64 150, .int .i64 262144])] hF1 (by kernel_rfl) fun a1 hF1 => ?_
  refine wl (sStore (i := 1) (off := 0) (cs' := #[.int .i64 100, .int .i64 131072]) hF1 hM (by kernel_rfl) rfl rfl (by kernel_rfl) (by kernel_rfl) rfl (by kernel_rfl) fun w hM => ?_)
  refine wl (sStore (i := 2) (off := 0) (cs' := #[.int .i64 150, .int .i64 262144]) hF1 hM (by kernel_rfl) rfl rfl (by kernel_rfl) (by kernel_rfl) rfl (by kernel_rfl) fun w hM => ?_)
  refine wpList_nil ?_
  refine hK5 _ _ ?_
  refine wp_ret ?_
  refine hR3 _ _ ?_
  refine ret_of hF1 hM (.cell (i := 1) rfl rfl (v := .agg #[.int .i64 100, .int .i64 131072]) (by kernel_rfl) (.cell (i := 2) rfl rfl (v := .agg #[.int .i64 150, .int .i64 262144]) (by kernel_rfl) (.nil))) ⟨_, rfl, ?_⟩
  intro a hF
  refine sB 3 [(14, .tuple #[.agg #[.int .i64 100, .int .i64 131072], .agg #[.int .i64 150, .int .i64 262144]]), (16, .agg #[.int .i64 100, .int .i64 131072]), (17, .agg #[.int .i64 150, .int .i64 262144])] hF (by kernel_rfl) fun a hF => ?_
  refine wl (eN 1 3 (t := 23) (fun b => .pointer (some ⟨b, 0, none⟩)) #[.int .i64 0, .int .i64 0] hF hM (by kernel_rfl) (fun _ => by kernel_rfl) fun bb3 a w hF hM => ?_)
  refine wl (eN 2 4 (t := 23) (fun b => .pointer (some ⟨b, 0, none⟩)) #[.int .i64 0, .int .i64 0] hF hM (by kernel_rfl) (fun _ => by kernel_rfl) fun bb4 a w hF hM => ?_)
  refine wl (sStore (i := 3) (off := 0) (cs' := #[.int .i64 100, .int .i64 131072]) hF hM (by kernel_rfl) rfl rfl (by kernel_rfl) (by kernel_rfl) rfl (by kernel_rfl) fun w hM => ?_)
  refine wl (sStore (i := 4) (off := 0) (cs' := #[.int .i64 150, .int .i64 262144]) hF hM (by kernel_rfl) rfl rfl (by kernel_rfl) (by kernel_rfl) rfl (by kernel_rfl) fun w hM => ?_)
  refine wpList_nil ?_
  refine hK2 _ _ ?_
  refine wp_seq_k fun K6 hK6 => ?_
  refine wp_region_lit ?_
  refine wl (eL 19 3 0 (v := .agg #[.int .i64 100, .int .i64 131072]) hF hM (by kernel_rfl) rfl rfl (by kernel_rfl) (by kernel_rfl) fun a w hF hM => ?_)
  refine wl (eL 20 4 0 (v := .agg #[.int .i64 150, .int .i64 262144]) hF hM (by kernel_rfl) rfl rfl (by kernel_rfl) (by kernel_rfl) fun a w hF hM => ?_)
  refine wl (eM 21 (v := .tuple #[.agg #[.int .i64 0, .int .i64 104857600, .int .i64 157286400], .int .i64 0]) hF hM (by kernel_rfl) (yld_call (f := 11) (args := #[.agg #[.int .i64 100, .int .i64 131072], .agg #[.int .i64 150, .int .i64 262144]]) hF (by kernel_rfl) (fun _ => by kernel_rfl) (fun w hM => meterNew_ok 100 131072 150 262144 w (by decide))) fun a w hF hM => ?_)
  refine sB 3 [(18, .tuple #[.agg #[.int .i64 0, .int .i64 104857600, .int .i64 157286400], .int .i64 0]), (22, .agg #[.int .i64 0, .int .i64 104857600, .int .i64 157286400]), (23, .int .i64 0)] hF (by kernel_rfl) fun a hF => ?_
  refine wl (eN 3 5 (t := 31) (fun b => .pointer (some ⟨b, 0, none⟩)) #[.int .i64 0, .int .i64 0, .int .i64 0] hF hM (by kernel_rfl) (fun _ => by kernel_rfl) fun bb5 a w hF hM => ?_)
  refine wl (sStore (i := 5) (off := 0) (cs' := #[.int .i64 0, .int .i64 104857600, .int .i64 157286400]) hF hM (by kernel_rfl) rfl rfl (by kernel_rfl) (by kernel_rfl) rfl (by kernel_rfl) fun w hM => ?_)
  refine sB 1 [(4, .int .i64 0)] hF (by kernel_rfl) fun a hF => ?_
  refine wpList_nil ?_
  refine hK6 _ _ ?_
  refine wp_seq_k fun K7 hK7 => ?_
  refine wp_region_lit ?_
  refine wl (eL 25 4 0 (v := .agg #[.int .i64 150, .int .i64 262144]) hF hM (by kernel_rfl) rfl rfl (by kernel_rfl) (by kernel_rfl) fun a w hF hM => ?_)
  refine wl (eL 26 3 0 (v := .agg #[.int .i64 100, .int .i64 131072]) hF hM (by kernel_rfl) rfl rfl (by kernel_rfl) (by kernel_rfl) fun a w hF hM => ?_)
  refine wl (eM 27 (v := .tuple #[.agg #[.int .i64 0, .int .i64 0, .int .i64 0], .int .i64 2]) hF hM (by kernel_rfl) (Yld.to (yld_call (f := 11) (args := #[.agg #[.int .i64 150, .int .i64 262144], .agg #[.int .i64 100, .int .i64 131072]]) hF (by kernel_rfl) (fun _ => by kernel_rfl) (fun w hM => meterNew_w 150 262144 100 131072 w)) (by kernel_rfl)) fun a w hF hM => ?_)
  refine sB 3 [(24, .tuple #[.agg #[.int .i64 0, .int .i64 0, .int .i64 0], .int .i64 2]), (28, .agg #[.int .i64 0, .int .i64 0, .int .i64 0]), (29, .int .i64 2)] hF (by kernel_rfl) fun a hF => ?_
  refine wl (eN 5 6 (t := 31) (fun b => .pointer (some ⟨b, 0, none⟩)) #[.int .i64 0, .int .i64 0, .int .i64 0] hF hM (by kernel_rfl) (fun _ => by kernel_rfl) fun bb6 a w hF hM => ?_)
  refine wl (sStore (i := 6) (off := 0) (cs' := #[.int .i64 0, .int .i64 0, .int .i64 0]) hF hM (by kernel_rfl) rfl rfl (by kernel_rfl) (by kernel_rfl) rfl (by kernel_rfl) fun w hM => ?_)
  refine sB 1 [(6, .int .i64 2)] hF (by kernel_rfl) fun a hF => ?_
  refine wpList_nil ?_
  refine hK7 _ _ ?_
  refine wp_seq_k fun K8 hK8 => ?_
  refine wp_region_lit ?_
  refine wl (eL 31 3 0 (v := .agg #[.int .i64 100, .int .i64 131072]) hF hM (by kernel_rfl) rfl rfl (by kernel_rfl) (by kernel_rfl) fun a w hF hM => ?_)
  refine wl (eL 32 4 0 (v := .agg #[.int .i64 150, .int .i64 262144]) hF hM (by kernel_rfl) rfl rfl (by kernel_rfl) (by kernel_rfl) fun a w hF hM => ?_)
  refine wl (eL 33 5 0 (v := .agg #[.int .i64 0, .int .i64 104857600, .int .i64 157286400]) hF hM (by kernel_rfl) rfl rfl (by kernel_rfl) (by kernel_rfl) fun a w hF hM => ?_)
  refine wl (eM 34 (v := .tuple #[.int .i64 0, .agg #[.int .i64 0, .int .i64 41943040, .int .i64 94371840], .int .i64 0]) hF hM (by kernel_rfl) (Yld.to (yld_call (f := 15) (args := #[.agg #[.int .i64 100, .int .i64 131072], .agg #[.int .i64 150, .int .i64 262144], .agg #[.int .i64 0, .int .i64 104857600, .int .i64 157286400], .int .i64 0, .int .i64 60]) hF (by kernel_rfl) (fun _ => by kernel_rfl) (fun w hM => meterMark_w 100 131072 150 262144 0 104857600 157286400 0 60 w)) (by kernel_rfl)) fun a w hF hM => ?_)
  refine sB 4 [(30, .tuple #[.int .i64 0, .agg #[.int .i64 0, .int .i64 41943040, .int .i64 94371840], .int .i64 0]), (35, .int .i64 0), (36, .agg #[.int .i64 0, .int .i64 41943040, .int .i64 94371840]), (37, .int .i64 0)] hF (by kernel_rfl) fun a hF => ?_
  refine wl (eN 8 7 (t := 31) (fun b => .pointer (some ⟨b, 0, none⟩)) #[.int .i64 0, .int .i64 0, .int .i64 0] hF hM (by kernel_rfl) (fun _ => by kernel_rfl) fun bb7 a w hF hM => ?_)
  refine sB 1 [(7, .int .i64 0)] hF (by kernel_rfl) fun a hF => ?_
  refine wl (sStore (i := 7) (off := 0) (cs' := #[.int .i64 0, .int .i64 41943040, .int .i64 94371840]) hF hM (by kernel_rfl) rfl rfl (by kernel_rfl) (by kernel_rfl) rfl (by kernel_rfl) fun w hM => ?_)
  refine sB 1 [(9, .int .i64 0)] hF (by kernel_rfl) fun a hF => ?_
  refine wpList_nil ?_
  refine hK8 _ _ ?_
  refine wp_seq_k fun K9 hK9 => ?_
  refine wp_region_lit ?_
  refine wl (eL 39 3 0 (v := .agg #[.int .i64 100, .int .i64 131072]) hF hM (by kernel_rfl) rfl rfl (by kernel_rfl) (by kernel_rfl) fun a w hF hM => ?_)
  refine wl (eL 40 4 0 (v := .agg #[.int .i64 150, .int .i64 262144]) hF hM (by kernel_rfl) rfl rfl (by kernel_rfl) (by kernel_rfl) fun a w hF hM => ?_)
  refine sB 1 [(41, .agg #[.int .i64 5, .int .i64 0, .int .i64 0])] hF (by kernel_rfl) fun a hF => ?_
  refine wl (eM 42 (v := .tuple #[.int .i64 0, .agg #[.int .i64 0, .int .i64 0, .int .i64 0], .int .i64 2]) hF hM (by kernel_rfl) (Yld.to (yld_call (f := 15) (args := #[.agg #[.int .i64 100, .int .i64 131072], .agg #[.int .i64 150, .int .i64 262144], .agg #[.int .i64 5, .int .i64 0, .int .i64 0], .int .i64 4, .int .i64 1]) hF (by kernel_rfl) (fun _ => by kernel_rfl) (fun w hM => meterMark_w 100 131072 150 262144 5 0 0 4 1 w)) (by kernel_rfl)) fun a w hF hM => ?_)
  refine sB 4 [(38, .tuple #[.int .i64 0, .agg #[.int .i64 0, .int .i64 0, .int .i64 0], .int .i64 2]), (43, .int .i64 0), (44, .agg #[.int .i64 0, .int .i64 0, .int .i64 0]), (45, .int .i64 2)] hF (by kernel_rfl) fun a hF => ?_
  refine wl (eN 11 8 (t := 31) (fun b => .pointer (some ⟨b, 0, none⟩)) #[.int .i64 0, .int .i64 0, .int .i64 0] hF hM (by kernel_rfl) (fun _ => by kernel_rfl) fun bb8 a w hF hM => ?_)
  refine sB 1 [(10, .int .i64 0)] hF (by kernel_rfl) fun a hF => ?_
  refine wl (sStore (i := 8) (off := 0) (cs' := #[.int .i64 0, .int .i64 0, .int .i64 0]) hF hM (by kernel_rfl) rfl rfl (by kernel_rfl) (by kernel_rfl) rfl (by kernel_rfl) fun w hM => ?_)
  refine sB 1 [(12, .int .i64 2)] hF (by kernel_rfl) fun a hF => ?_
  refine wpList_nil ?_
  refine hK9 _ _ ?_
  refine wp_seq_k fun K10 hK10 => ?_
  refine wp_region_lit ?_
  refine sB 1 [(46, .int .i64 0)] hF (by kernel_rfl) fun a hF => ?_
  refine wl (eP 47 (v0 := .bool (decide (0 = 0))) (v := .bool true) hF (by kernel_rfl) (fun _ => by kernel_rfl) (bT (by omega)) fun a hF => ?_)
  refine sB 2 [(48, .bool true), (49, .int .i64 2)] hF (by kernel_rfl) fun a hF => ?_
  refine wl (eP 50 (v0 := .bool (decide (2 = 2))) (v := .bool true) hF (by kernel_rfl) (fun _ => by kernel_rfl) (bT (by omega)) fun a hF => ?_)
  refine sB 3 [(51, .bool true), (52, .bool true), (53, .int .i64 0)] hF (by kernel_rfl) fun a hF => ?_
  refine wl (eP 54 (v0 := .bool (decide (0 = 0))) (v := .bool true) hF (by kernel_rfl) (fun _ => by kernel_rfl) (bT (by omega)) fun a hF => ?_)
  refine sB 3 [(55, .bool true), (56, .bool true), (57, .int .i64 2)] hF (by kernel_rfl) fun a hF => ?_
  refine wl (eP 58 (v0 := .bool (decide (2 = 2))) (v := .bool true) hF (by kernel_rfl) (fun _ => by kernel_rfl) (bT (by omega)) fun a hF => ?_)
  refine sB 2 [(59, .bool true), (60, .bool true)] hF (by kernel_rfl) fun a hF => ?_
  refine wl (eL 61 5 0 (v := .agg #[.int .i64 0, .int .i64 104857600, .int .i64 157286400]) hF hM (by kernel_rfl) rfl rfl (by kernel_rfl) (by kernel_rfl) fun a w hF hM => ?_)
  refine sB 1 [(62, .agg #[.int .i64 0, .int .i64 104857600, .int .i64 157286400])] hF (by kernel_rfl) fun a hF => ?_
  refine wl (eM 63 (v := .bool true) hF hM (by kernel_rfl) ((yld_eql (C := Mem _ _ _) [0, 104857600, 157286400] [0, 104857600, 157286400] hF rfl (by kernel_rfl) (by kernel_rfl) (by kernel_rfl) rfl (by kernel_rfl) (by kernel_rfl) (by kernel_rfl) rfl rfl).to (bT (by decide))) fun a w hF hM => ?_)
  refine sB 3 [(64, .bool true), (65, .bool true), (66, .int .i64 0)] hF (by kernel_rfl) fun a hF => ?_
  refine wl (eP 67 (v0 := .bool (decide (0 = 0))) (v := .bool true) hF (by kernel_rfl) (fun _ => by kernel_rfl) (bT (by omega)) fun a hF => ?_)
  refine sB 2 [(68, .bool true), (69, .bool true)] hF (by kernel_rfl) fun a hF => ?_
  refine wl (eL 70 7 0 (v := .agg #[.int .i64 0, .int .i64 41943040, .int .i64 94371840]) hF hM (by kernel_rfl) rfl rfl (by kernel_rfl) (by kernel_rfl) fun a w hF hM => ?_)
  refine sB 1 [(71, .agg #[.int .i64 0, .int .i64 41943040, .int .i64 94371840])] hF (by kernel_rfl) fun a hF => ?_
  refine wl (eM 72 (v := .bool true) hF hM (by kernel_rfl) ((yld_eql (C := Mem _ _ _) [0, 41943040, 94371840] [0, 41943040, 94371840] hF rfl (by kernel_rfl) (by kernel_rfl) (by kernel_rfl) rfl (by kernel_rfl) (by kernel_rfl) (by kernel_rfl) rfl rfl).to (bT (by decide))) fun a w hF hM => ?_)
  refine sB 2 [(73, .bool true), (13, .bool true)] hF (by kernel_rfl) fun a hF => ?_
  refine wpList_nil ?_
  refine hK10 _ _ ?_
  refine wp_seq_k fun K11 hK11 => ?_
  refine wp_region_lit ?_
  refine sB 2 [(74, .bool true), (75, .bool true)] hF (by kernel_rfl) fun a hF => ?_
  refine wl (eL 76 3 0 (v := .agg #[.int .i64 100, .int .i64 131072]) hF hM (by kernel_rfl) rfl rfl (by kernel_rfl) (by kernel_rfl) fun a w hF hM => ?_)
  refine wl (eL 77 4 0 (v := .agg #[.int .i64 150, .int .i64 262144]) hF hM (by kernel_rfl) rfl rfl (by kernel_rfl) (by kernel_rfl) fun a w hF hM => ?_)
  refine sB 3 [(78, .agg #[.int .i64 0, .int .i64 100]), (79, .agg #[.int .i64 0, .int .i64 50]), (80, .agg #[.int .i64 0, .int .i64 1])] hF (by kernel_rfl) fun a hF => ?_
  refine wl (eN 81 9 (t := 33) (fun b => .slice (some ⟨b, 0, none⟩) 3 3) #[.int .i64 0, .int .i64 100, .int .i64 0, .int .i64 50, .int .i64 0, .int .i64 1] hF hM (by kernel_rfl) (fun _ => by kernel_rfl) fun bb9 a w hF hM => ?_)
  refine wl (eN 82 10 (t := 3) (fun b => .slice (some ⟨b, 0, none⟩) 3 3) #[.int .i64 0, .int .i64 1, .int .i64 2] hF hM (by kernel_rfl) (fun _ => by kernel_rfl) fun bb10 a w hF hM => ?_)
  refine wl (sC (f := 23) (args := #[.agg #[.int .i64 100, .int .i64 131072], .agg #[.int .i64 150, .int .i64 262144], .slice (some ⟨bb9, 0, none⟩) 3 3, .slice (some ⟨bb10, 0, none⟩) 3 3]) hF (by kernel_rfl) rfl (by decide) (by kernel_rfl) (fun _ => by kernel_rfl) ?_)
  refine enterK 25 Try.func23 rfl rfl rfl ?_
  intro a1 hF1 QR12 hR12 hNR12
  refine wp_seq_k fun K13 hK13 => ?_
  refine wp_region_lit ?_
  refine wl (eN 4 11 (t := 23) (fun b => .pointer (some ⟨b, 0, none⟩)) #[.int .i64 100, .int .i64 131072] hF1 hM (by kernel_rfl) (fun _ => by kernel_rfl) fun bb11 a1 w hF1 hM => ?_)
  refine wl (eN 5 12 (t := 23) (fun b => .pointer (some ⟨b, 0, none⟩)) #[.int .i64 150, .int .i64 262144] hF1 hM (by kernel_rfl) (fun _ => by kernel_rfl) fun bb12 a1 w hF1 hM => ?_)
  refine sB 1 [(8, .bool false)] hF1 (by kernel_rfl) fun a1 hF1 => ?_
  refine wpList_nil ?_
  refine hK13 _ _ ?_
  refine wp_seq_k fun K14 hK14 => ?_
  refine wp_region_lit ?_
  refine wl (eL 12 11 0 (v := .agg #[.int .i64 100, .int .i64 131072]) hF1 hM (by kernel_rfl) rfl rfl (by kernel_rfl) (by kernel_rfl) fun a1 w hF1 hM => ?_)
  refine wl (eL 13 12 0 (v := .agg #[.int .i64 150, .int .i64 262144]) hF1 hM (by kernel_rfl) rfl rfl (by kernel_rfl) (by kernel_rfl) fun a1 w hF1 hM => ?_)
  refine sB 1 [(14, .slice (some ⟨bb9, 0, none⟩) 3 3)] hF1 (by kernel_rfl) fun a1 hF1 => ?_
  refine wl (sOwn 13 (f := 19) (args := #[.agg #[.int .i64 100, .int .i64 131072], .agg #[.int .i64 150, .int .i64 262144], .slice (some ⟨bb9, 0, none⟩) 3 3]) (mk := fun v => .tuple #[v, .int .i64 0]) (e := 3) (size := 1) (m := 3) (xs := ((mrunF 100 131072 150 262144 [(0, 100), (0, 50), (0, 1)]).map (Value.int .i64))) hF1 hM (by kernel_rfl) rfl (by decide) (by kernel_rfl) (fun _ => by kernel_rfl) (meterRun_ok 100 131072 150 262144 (some ⟨bb9, 0, none⟩) [(0, 100), (0, 50), (0, 1)] 3 w (hM.roRow (k := 9) rfl) (by decide) (by decide)) fun AA13 cc13 a1 w hF1 hM => ?_)
  refine sB 5 [(11, .tuple #[.slice AA13 3 cc13, .int .i64 0]), (16, .slice AA13 3 cc13), (17, .int .i64 0), (9, .slice AA13 3 cc13), (10, .int .i64 0)] hF1 (by kernel_rfl) fun a1 hF1 => ?_
  refine wpList_nil ?_
  refine hK14 _ _ ?_
  refine wp_seq_k fun K15 hK15 => ?_
  refine wp_region_lit ?_
  refine sB 1 [(18, .int .i64 0)] hF1 (by kernel_rfl) fun a1 hF1 => ?_
  refine wl (eP 19 (v0 := .bool (decide (0 = 0))) (v := .bool true) hF1 (by kernel_rfl) (fun _ => by kernel_rfl) (bT (by omega)) fun a1 hF1 => ?_)
  refine sB 3 [(20, .bool true), (21, .slice AA13 3 cc13), (22, .slice (some ⟨bb10, 0, none⟩) 3 3)] hF1 (by kernel_rfl) fun a1 hF1 => ?_
  refine wl (eM 23 (v := .bool true) hF1 hM (by kernel_rfl) (yld_call (f := 21) (args := #[.slice AA13 3 cc13, .slice (some ⟨bb10, 0, none⟩) 3 3]) hF1 (by kernel_rfl) (fun _ => by kernel_rfl) (fun w hM => same_yes AA13 (mrunF 100 131072 150 262144 [(0, 100), (0, 50), (0, 1)]) cc13 (some ⟨bb10, 0, none⟩) [0, 1, 2] 3 w (ro_of_own (hM.ok 13 _ rfl)) (hM.roRow (k := 10) rfl) (by decide) (by decide))) fun a1 w hF1 hM => ?_)
  refine sB 2 [(24, .bool true), (8, .bool true)] hF1 (by kernel_rfl) fun a1 hF1 => ?_
  refine wpList_nil ?_
  refine hK15 _ _ ?_
  refine wp_ret ?_
  refine hR12 _ _ ?_
  refine ret_of hF1 hM (.tmp rfl (.nil)) ⟨_, rfl, ?_⟩
  intro a hF
  refine sB 2 [(84, .bool true), (85, .bool true)] hF (by kernel_rfl) fun a hF => ?_
  refine wl (eL 86 3 0 (v := .agg #[.int .i64 100, .int .i64 131072]) hF hM (by kernel_rfl) rfl rfl (by kernel_rfl) (by kernel_rfl) fun a w hF hM => ?_)
  refine wl (eL 87 4 0 (v := .agg #[.int .i64 150, .int .i64 262144]) hF hM (by kernel_rfl) rfl rfl (by kernel_rfl) (by kernel_rfl) fun a w hF hM => ?_)
  refine sB 3 [(88, .agg #[.int .i64 0, .int .i64 100]), (89, .agg #[.int .i64 400, .int .i64 50]), (90, .agg #[.int .i64 400, .int .i64 50])] hF (by kernel_rfl) fun a hF => ?_
  refine wl (eN 91 14 (t := 33) (fun b => .slice (some ⟨b, 0, none⟩) 3 3) #[.int .i64 0, .int .i64 100, .int .i64 400, .int .i64 50, .int .i64 400, .int .i64 50] hF hM (by kernel_rfl) (fun _ => by kernel_rfl) fun bb14 a w hF hM => ?_)
  refine wl (eN 92 15 (t := 3) (fun b => .slice (some ⟨b, 0, none⟩) 3 3) #[.int .i64 0, .int .i64 0, .int .i64 1] hF hM (by kernel_rfl) (fun _ => by kernel_rfl) fun bb15 a w hF hM => ?_)
  refine wl (sC (f := 23) (args := #[.agg #[.int .i64 100, .int .i64 131072], .agg #[.int .i64 150, .int .i64 262144], .slice (some ⟨bb14, 0, none⟩) 3 3, .slice (some ⟨bb15, 0, none⟩) 3 3]) hF (by kernel_rfl) rfl (by decide) (by kernel_rfl) (fun _ => by kernel_rfl) ?_)
  refine enterK 25 Try.func23 rfl rfl rfl ?_
  intro a1 hF1 QR16 hR16 hNR16
  refine wp_seq_k fun K17 hK17 => ?_
  refine wp_region_lit ?_
  refine wl (eN 4 16 (t := 23) (fun b => .pointer (some ⟨b, 0, none⟩)) #[.int .i64 100, .int .i64 131072] hF1 hM (by kernel_rfl) (fun _ => by kernel_rfl) fun bb16 a1 w hF1 hM => ?_)
  refine wl (eN 5 17 (t := 23) (fun b => .pointer (some ⟨b, 0, none⟩)) #[.int .i64 150, .int .i64 262144] hF1 hM (by kernel_rfl) (fun _ => by kernel_rfl) fun bb17 a1 w hF1 hM => ?_)
  refine sB 1 [(8, .bool false)] hF1 (by kernel_rfl) fun a1 hF1 => ?_
  refine wpList_nil ?_
  refine hK17 _ _ ?_
  refine wp_seq_k fun K18 hK18 => ?_
  refine wp_region_lit ?_
  refine wl (eL 12 16 0 (v := .agg #[.int .i64 100, .int .i64 131072]) hF1 hM (by kernel_rfl) rfl rfl (by kernel_rfl) (by kernel_rfl) fun a1 w hF1 hM => ?_)
  refine wl (eL 13 17 0 (v := .agg #[.int .i64 150, .int .i64 262144]) hF1 hM (by kernel_rfl) rfl rfl (by kernel_rfl) (by kernel_rfl) fun a1 w hF1 hM => ?_)
  refine sB 1 [(14, .slice (some ⟨bb14, 0, none⟩) 3 3)] hF1 (by kernel_rfl) fun a1 hF1 => ?_
  refine wl (sOwn 18 (f := 19) (args := #[.agg #[.int .i64 100, .int .i64 131072], .agg #[.int .i64 150, .int .i64 262144], .slice (some ⟨bb14, 0, none⟩) 3 3]) (mk := fun v => .tuple #[v, .int .i64 0]) (e := 3) (size := 1) (m := 3) (xs := ((mrunF 100 131072 150 262144 [(0, 100), (400, 50), (400, 50)]).map (Value.int .i64))) hF1 hM (by kernel_rfl) rfl (by decide) (by kernel_rfl) (fun _ => by kernel_rfl) (meterRun_ok 100 131072 150 262144 (some ⟨bb14, 0, none⟩) [(0, 100), (400, 50), (400, 50)] 3 w (hM.roRow (k := 14) rfl) (by decide) (by decide)) fun AA18 cc18 a1 w hF1 hM => ?_)
  refine sB 5 [(11, .tuple #[.slice AA18 3 cc18, .int .i64 0]), (16, .slice AA18 3 cc18), (17, .int .i64 0), (9, .slice AA18 3 cc18), (10, .int .i64 0)] hF1 (by kernel_rfl) fun a1 hF1 => ?_
  refine wpList_nil ?_
  refine hK18 _ _ ?_
  refine wp_seq_k fun K19 hK19 => ?_
  refine wp_region_lit ?_
  refine sB 1 [(18, .int .i64 0)] hF1 (by kernel_rfl) fun a1 hF1 => ?_
  refine wl (eP 19 (v0 := .bool (decide (0 = 0))) (v := .bool true) hF1 (by kernel_rfl) (fun _ => by kernel_rfl) (bT (by omega)) fun a1 hF1 => ?_)
  refine sB 3 [(20, .bool true), (21, .slice AA18 3 cc18), (22, .slice (some ⟨bb15, 0, none⟩) 3 3)] hF1 (by kernel_rfl) fun a1 hF1 => ?_
  refine wl (eM 23 (v := .bool true) hF1 hM (by kernel_rfl) (yld_call (f := 21) (args := #[.slice AA18 3 cc18, .slice (some ⟨bb15, 0, none⟩) 3 3]) hF1 (by kernel_rfl) (fun _ => by kernel_rfl) (fun w hM => same_yes AA18 (mrunF 100 131072 150 262144 [(0, 100), (400, 50), (400, 50)]) cc18 (some ⟨bb15, 0, none⟩) [0, 0, 1] 3 w (ro_of_own (hM.ok 18 _ rfl)) (hM.roRow (k := 15) rfl) (by decide) (by decide))) fun a1 w hF1 hM => ?_)
  refine sB 2 [(24, .bool true), (8, .bool true)] hF1 (by kernel_rfl) fun a1 hF1 => ?_
  refine wpList_nil ?_
  refine hK19 _ _ ?_
  refine wp_ret ?_
  refine hR16 _ _ ?_
  refine ret_of hF1 hM (.tmp rfl (.nil)) ⟨_, rfl, ?_⟩
  intro a hF
  refine sB 2 [(94, .bool true), (0, .bool true)] hF (by kernel_rfl) fun a hF => ?_
  refine wpList_nil ?_
  refine hK11 _ _ ?_
  refine wp_ret ?_
  refine hR0 _ _ ?_
  refine ret_of hF hM (.tmp rfl (.nil)) ?_
  exact ⟨rfl, hM.bel⟩

end Go.Proofs.Ytncllmponigkgaa
