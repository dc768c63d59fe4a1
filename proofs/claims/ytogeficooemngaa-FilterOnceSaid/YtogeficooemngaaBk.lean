/-
  Contracts of bucket.inside, bucket.CheckTrace and the reference RightTrace.
-/
import Derived.Test.YtogeficooemngaaProg
import Derived.Test.YtogeficooemngaaEng
import Derived.Test.YtogeficooemngaaTracePlain
namespace Go.Proofs.Ytogeficooemngaa
open Go.RowKit
set_option linter.unusedVariables false
set_option linter.unusedSimpArgs false

theorem tr_next {l : List (Int × Int)} {k : Nat} {la : Int} (hk : k < l.length) (h : trOk 0 l = trOk la (l.drop k)) (hc : la ≤ (pr l k).1 ∧ (pr l k).1 ≤ 1099511627776 ∧ 1 ≤ (pr l k).2 ∧ (pr l k).2 ≤ 1048576) : trOk 0 l = trOk (pr l k).1 (l.drop (k + 1)) :=
  trOk_next (a := (pr l k).1) (s := (pr l k).2) (pr_some hk) h hc
theorem drop_pr {l : List (Int × Int)} {k : Nat} (hk : k < l.length) : l.drop k = ((pr l k).1, (pr l k).2) :: l.drop (k + 1) := drop_at (pr_some hk)
theorem tr_here {l : List (Int × Int)} {k : Nat} {la : Int} (hk : k < l.length) (h : trOk la (l.drop k) = true) : la ≤ (pr l k).1 ∧ (pr l k).1 ≤ 1099511627776 ∧ 1 ≤ (pr l k).2 ∧ (pr l k).2 ≤ 1048576 ∧ trOk (pr l k).1 (l.drop (k + 1)) = true := by
  rw [drop_at (pr_some hk), trOk, Bool.and_eq_true, decide_eq_true_eq] at h
  obtain ⟨⟨h1, h2, h3, h4⟩, h5⟩ := h
  exact ⟨h1, h2, h3, h4, h5⟩
theorem trE_ok {l : List (Int × Int)} (h : trE l = 0) : l.length ≤ 200 ∧ trOk 0 l = true := by
  unfold trE trB at h
  split at h
  · rename_i hb
    simp only [Bool.and_eq_true, decide_eq_true_eq] at hb
    exact hb
  · cases h
theorem trE_no' {l : List (Int × Int)} (h : ¬ trE l = 0) : trE l = 131 := by
  unfold trE at *
  split at h
  · exact absurd rfl h
  · rename_i hb
    rw [if_neg hb]
theorem tr_stop {l : List (Int × Int)} {k : Nat} {la : Int} (hk : k < l.length) (h : trOk 0 l = trOk la (l.drop k)) (hc : ¬ (la ≤ (pr l k).1 ∧ (pr l k).1 ≤ 1099511627776 ∧ 1 ≤ (pr l k).2 ∧ (pr l k).2 ≤ 1048576)) : trOk 0 l = false :=
  trOk_stop (a := (pr l k).1) (s := (pr l k).2) (pr_some hk) h hc

theorem inside_yes (x lo hi : Int) (w0 : World) (h1 : lo ≤ x) (h2 : x ≤ hi) :
    Calls Try.prog 64 #[.int .i64 x, .int .i64 lo, .int .i64 hi] w0 (Ret w0 (.bool true)) := by
 refine enterK 15 Try.func64 rfl rfl rfl ?_
 intro a hF Q0 hR0 hN0
 have hM := Mem.start w0
 refine wp_seq_k fun K1 hK1 => ?_
 refine wp_region_lit ?_
 refine sB 1 [(6, .bool false)] hF (by kernel_rfl) fun a hF => ?_
 refine wpList_nil ?_
 refine hK1 _ _ ?_
 refine wp_seq_k fun K2 hK2 => ?_
 refine wp_region_lit ?_
 refine sB 2 [(7, .int .i64 lo), (8, .int .i64 x)] hF (by kernel_rfl) fun a hF => ?_
 refine wl (eP 9 (v0 := .bool (decide (lo ≤ x))) (v := .bool true) hF (by kernel_rfl) (fun _ => by kernel_rfl) (bT (by omega)) fun a hF => ?_)
 refine sB 3 [(10, .bool true), (11, .int .i64 x), (12, .int .i64 hi)] hF (by kernel_rfl) fun a hF => ?_
 refine wl (eP 13 (v0 := .bool (decide (x ≤ hi))) (v := .bool true) hF (by kernel_rfl) (fun _ => by kernel_rfl) (bT (by omega)) fun a hF => ?_)
 refine sB 2 [(14, .bool true), (6, .bool true)] hF (by kernel_rfl) fun a hF => ?_
 refine wpList_nil ?_
 refine hK2 _ _ ?_
 refine wp_ret ?_
 refine hR0 _ _ ?_
 refine ret_of hF hM (.tmp rfl (.nil)) ?_
 exact ⟨rfl, hM.bel⟩

theorem inside_no (x lo hi : Int) (w0 : World) (hx : ¬ lo ≤ x ∨ ¬ x ≤ hi) :
    Calls Try.prog 64 #[.int .i64 x, .int .i64 lo, .int .i64 hi] w0 (Ret w0 (.bool false)) := by
 refine enterK 15 Try.func64 rfl rfl rfl ?_
 intro a hF Q0 hR0 hN0
 have hM := Mem.start w0
 refine wp_seq_k fun K1 hK1 => ?_
 refine wp_region_lit ?_
 refine sB 1 [(6, .bool false)] hF (by kernel_rfl) fun a hF => ?_
 refine wpList_nil ?_
 refine hK1 _ _ ?_
 refine wp_seq_k fun K2 hK2 => ?_
 by_cases hz1 : lo ≤ x
 ·skip
  refine wp_region_lit ?_
  refine sB 2 [(7, .int .i64 lo), (8, .int .i64 x)] hF (by kernel_rfl) fun a hF => ?_
  refine wl (eP 9 (v0 := .bool (decide (lo ≤ x))) (v := .bool true) hF (by kernel_rfl) (fun _ => by kernel_rfl) (bT hz1) fun a hF => ?_)
  refine sB 6 [(10, .bool true), (11, .int .i64 x), (12, .int .i64 hi), (13, .bool (decide (x ≤ hi))), (14, .bool (decide (x ≤ hi))), (6, .bool (decide (x ≤ hi)))] hF (by kernel_rfl) fun a hF => ?_
  refine wpList_nil ?_
  refine hK2 _ _ ?_
  refine wp_ret ?_
  refine hR0 _ _ ?_
  refine ret_of hF hM (.tmp rfl (.nil)) ?_
  exact ⟨ret_bool (decide_eq_false (by omega)), hM.bel⟩
 ·skip
  refine wp_region_lit ?_
  refine sB 2 [(7, .int .i64 lo), (8, .int .i64 x)] hF (by kernel_rfl) fun a hF => ?_
  refine wl (eP 9 (v0 := .bool (decide (lo ≤ x))) (v := .bool false) hF (by kernel_rfl) (fun _ => by kernel_rfl) (bF hz1) fun a hF => ?_)
  refine sB 6 [(10, .bool false), (11, undef), (12, undef), (13, undef), (14, .bool false), (6, .bool false)] hF (by kernel_rfl) fun a hF => ?_
  refine wpList_nil ?_
  refine hK2 _ _ ?_
  refine wp_ret ?_
  refine hR0 _ _ ?_
  refine ret_of hF hM (.tmp rfl (.nil)) ?_
  exact ⟨rfl, hM.bel⟩

theorem checkTrace_w (A : Option Addr) (l : List (Int × Int)) (c : Nat) (w0 : World) (hA : Ro w0 A (flat2 l)) :
    Calls Try.prog 62 #[.slice A l.length c] w0 (Ret w0 (.int .i64 (trE l))) := by
 refine enterK 29 Try.func62 rfl rfl rfl ?_
 intro a hF Q0 hR0 hN0
 have hM := Mem.start w0
 replace hM := hM.addOld 1 hA (Nat.le_refl _)
 refine wp_seq_k fun K1 hK1 => ?_
 refine wp_region_lit ?_
 refine sB 1 [(2, .int .i64 0)] hF (by kernel_rfl) fun a hF => ?_
 refine wpList_nil ?_
 refine hK1 _ _ ?_
 refine wp_seq_k fun K2 hK2 => ?_
 refine wp_seq_k fun K3 hK3 => ?_
 refine wp_region_lit ?_
 refine sB 3 [(6, .slice A l.length c), (7, .int .i64 (l.length : Int)), (8, .bool (decide (200 < (l.length : Int))))] hF (by kernel_rfl) fun a hF => ?_
 refine wpList_nil ?_
 refine hK3 _ _ ?_
 by_cases hz1 : 200 < (l.length : Int)
 ·skip
  replace hF := hF.c hF (i := 8) (v := .bool true) rfl (bT hz1)
  refine cT hF (by kernel_rfl) (by kernel_rfl) ?_
  refine wp_seq_k fun K4 hK4 => ?_
  refine wp_region_lit ?_
  refine sB 1 [(2, .int .i64 131)] hF (by kernel_rfl) fun a hF => ?_
  refine wpList_nil ?_
  refine hK4 _ _ ?_
  refine wp_ret ?_
  refine hR0 _ _ ?_
  refine ret_of hF hM (.tmp rfl (.nil)) ?_
  exact ⟨ret_int (by first | exact (trE_long (by omega)).symm | exact (trE_no (tr_stop (k := k) (by omega) (by assumption) (by omega))).symm), hM.bel⟩
 ·skip
  replace hF := hF.c hF (i := 8) (v := .bool false) rfl (bF hz1)
  refine cF hF (by kernel_rfl) (by kernel_rfl) ?_
  refine wp_skip ?_
  refine hK2 _ _ ?_
  refine wp_seq_k fun K5 hK5 => ?_
  refine wp_region_lit ?_
  refine sB 1 [(3, .int .i64 0)] hF (by kernel_rfl) fun a hF => ?_
  refine wpList_nil ?_
  refine hK5 _ _ ?_
  refine wp_seq_k fun K6 hK6 => ?_
  refine wp_seq_k fun K7 hK7 => ?_
  refine wp_region_lit ?_
  refine sB 3 [(9, .slice A l.length c), (10, .int .i64 (l.length : Int)), (11, .int .i64 0)] hF (by kernel_rfl) fun a hF => ?_
  refine wpList_nil ?_
  refine hK7 _ _ ?_
  refine wp_block ?_
  refine wp_loop_k (G := Nat × Int) (fun gg a w => Fr 29 [(3, some (.int .i64 gg.2)), (11, some (.int .i64 (gg.1 : Int))), (9, some (.slice A l.length c)), (10, some (.int .i64 (l.length : Int)))] a ∧ Mem w0.heap.size w0 [(1, some (.ro A (flat2 l)))] w ∧ ((gg.1 : Int) ≤ (l.length : Int)) ∧ (trOk 0 l = trOk gg.2 (l.drop gg.1))) (fun gg => l.length - gg.1) (0, 0) ?_ ?_
  ·refine ⟨(((((Fr.nil hF).c hF (i := 10) rfl rfl).c hF (i := 9) rfl rfl).c hF (i := 11) rfl (vi (show (0 : Int) = (0 : Int) from by omega))).c hF (i := 3) rfl rfl), (hM.sub (Sub.nil.c (k := 1) rfl rfl)), (show (0 : Int) ≤ (l.length : Int) from by omega), (show trOk 0 l = trOk 0 (l.drop 0) from by simp)⟩
  ·intro gg a w hI
   intro K8 hK8
   obtain ⟨k, la⟩ := gg
   try dsimp only at hI hK8
   obtain ⟨hF, hM, hz2, hz3⟩ := hI
   refine wp_seq_k fun K9 hK9 => ?_
   refine wp_region_lit ?_
   refine sB 1 [(12, .bool (decide ((k : Int) < (l.length : Int))))] hF (by kernel_rfl) fun a hF => ?_
   refine wpList_nil ?_
   refine hK9 _ _ ?_
   refine wp_seq_k fun K10 hK10 => ?_
   by_cases hz4 : (k : Int) < (l.length : Int)
   ·skip
    replace hF := hF.c hF (i := 12) (v := .bool true) rfl (bT hz4)
    refine cT hF (by kernel_rfl) (by kernel_rfl) ?_
    refine wp_skip ?_
    refine hK10 _ _ ?_
    refine wp_seq_k fun K11 hK11 => ?_
    refine wp_block ?_
    refine wp_seq_k fun K12 hK12 => ?_
    refine wp_region_lit ?_
    refine wl (eM 13 (v := .pointer (some (ea A (k * 2)))) hF hM (by kernel_rfl) (yld_ix (kd := .i64) (e := 72) (len := l.length) (cap := c) (i := (k : Int)) (size := 2) (A := A) hF rfl (by kernel_rfl) (by kernel_rfl) (by kernel_rfl) (by kernel_rfl) (by kernel_rfl) (roK 1 rfl) (by omega) (by omega) (by rw [flat2_length]; omega)) fun a w hF hM => ?_)
    refine wl (eM 14 (v := .agg #[.int .i64 (pr l k).1, .int .i64 (pr l k).2]) hF hM (by kernel_rfl) (yld_roM (A := A) (j := k * 2) (us := [.int .i64 (pr l k).1, .int .i64 (pr l k).2]) hF rfl (by kernel_rfl) (by kernel_rfl) (roK 1 rfl) (by kernel_rfl) rfl (pr_both (k := k) (by omega) (by omega))) fun a w hF hM => ?_)
    refine wl (eN 5 2 (t := 72) (fun b => .pointer (some ⟨b, 0, none⟩)) #[.int .i64 0, .int .i64 0] hF hM (by kernel_rfl) (fun _ => by kernel_rfl) fun bb1 a w hF hM => ?_)
    refine wl (sStore (i := 2) (off := 0) (cs' := #[.int .i64 (pr l k).1, .int .i64 (pr l k).2]) hF hM (by kernel_rfl) rfl rfl (by kernel_rfl) (by kernel_rfl) rfl (by kernel_rfl) fun w hM => ?_)
    refine wpList_nil ?_
    refine hK12 _ _ ?_
    refine wp_seq_k fun K13 hK13 => ?_
    refine wp_seq_k fun K14 hK14 => ?_
    by_cases hz5 : la ≤ (pr l k).1
    ·skip
     by_cases hz6 : (pr l k).1 ≤ 1099511627776
     ·skip
      by_cases hz7 : 1 ≤ (pr l k).2
      ·skip
       by_cases hz8 : (pr l k).2 ≤ 1048576
       ·skip
        refine wp_region_lit ?_
        refine sB 1 [(15, .pointer (some ⟨bb1, 0, none⟩))] hF (by kernel_rfl) fun a hF => ?_
        refine wl (eL 16 2 0 (v := .int .i64 (pr l k).1) hF hM (by kernel_rfl) rfl rfl (by kernel_rfl) (by kernel_rfl) fun a w hF hM => ?_)
        refine sB 1 [(17, .int .i64 la)] hF (by kernel_rfl) fun a hF => ?_
        refine wl (eM 18 (v := .bool true) hF hM (by kernel_rfl) (yld_call (f := 64) (args := #[.int .i64 (pr l k).1, .int .i64 la, .int .i64 1099511627776]) hF (by kernel_rfl) (fun _ => by kernel_rfl) (fun w hM => inside_yes (pr l k).1 la 1099511627776 w hz5 hz6)) fun a w hF hM => ?_)
        refine sB 3 [(19, .bool false), (20, .bool false), (21, .pointer (some ⟨bb1, 1, none⟩))] hF (by kernel_rfl) fun a hF => ?_
        refine wl (eL 22 2 1 (v := .int .i64 (pr l k).2) hF hM (by kernel_rfl) rfl rfl (by kernel_rfl) (by kernel_rfl) fun a w hF hM => ?_)
        refine wl (eM 23 (v := .bool true) hF hM (by kernel_rfl) (yld_call (f := 64) (args := #[.int .i64 (pr l k).2, .int .i64 1, .int .i64 1048576]) hF (by kernel_rfl) (fun _ => by kernel_rfl) (fun w hM => inside_yes (pr l k).2 1 1048576 w hz7 hz8)) fun a w hF hM => ?_)
        refine sB 2 [(24, .bool false), (25, .bool false)] hF (by kernel_rfl) fun a hF => ?_
        refine wpList_nil ?_
        refine hK14 _ _ ?_
        refine cF hF (by kernel_rfl) (by kernel_rfl) ?_
        refine wp_skip ?_
        refine hK13 _ _ ?_
        refine wp_region_lit ?_
        refine sB 1 [(26, .pointer (some ⟨bb1, 0, none⟩))] hF (by kernel_rfl) fun a hF => ?_
        refine wl (eL 27 2 0 (v := .int .i64 (pr l k).1) hF hM (by kernel_rfl) rfl rfl (by kernel_rfl) (by kernel_rfl) fun a w hF hM => ?_)
        refine sB 1 [(3, .int .i64 (pr l k).1)] hF (by kernel_rfl) fun a hF => ?_
        refine wpList_nil ?_
        refine hK11 _ _ ?_
        refine wp_region_lit ?_
        refine wl (eP 28 (v0 := .int .i64 (IntKind.i64.wrap ((k : Int) + 1))) (v := .int .i64 ((k : Int) + 1)) hF (by kernel_rfl) (fun _ => by kernel_rfl) (wi (by omega)) fun a hF => ?_)
        refine sB 1 [(11, .int .i64 ((k : Int) + 1))] hF (by kernel_rfl) fun a hF => ?_
        refine wpList_nil ?_
        refine hK8 _ _ ⟨(k + 1, (pr l k).1), ⟨(((((Fr.nil hF).c hF (i := 10) rfl rfl).c hF (i := 9) rfl rfl).c hF (i := 11) rfl (vi (show ((k : Int) + 1 : Int) = ((k + 1) : Int) from by omega))).c hF (i := 3) rfl rfl), (hM.sub (Sub.nil.c (k := 1) rfl rfl)), (show ((k + 1) : Int) ≤ (l.length : Int) from by omega), (show trOk 0 l = trOk (pr l k).1 (l.drop (k + 1)) from by exact tr_next (by omega) (by assumption) (by omega))⟩, (show l.length - (k + 1) < l.length - k from by omega)⟩
       ·skip
        refine wp_region_lit ?_
        refine sB 1 [(15, .pointer (some ⟨bb1, 0, none⟩))] hF (by kernel_rfl) fun a hF => ?_
        refine wl (eL 16 2 0 (v := .int .i64 (pr l k).1) hF hM (by kernel_rfl) rfl rfl (by kernel_rfl) (by kernel_rfl) fun a w hF hM => ?_)
        refine sB 1 [(17, .int .i64 la)] hF (by kernel_rfl) fun a hF => ?_
        refine wl (eM 18 (v := .bool true) hF hM (by kernel_rfl) (yld_call (f := 64) (args := #[.int .i64 (pr l k).1, .int .i64 la, .int .i64 1099511627776]) hF (by kernel_rfl) (fun _ => by kernel_rfl) (fun w hM => inside_yes (pr l k).1 la 1099511627776 w hz5 hz6)) fun a w hF hM => ?_)
        refine sB 3 [(19, .bool false), (20, .bool false), (21, .pointer (some ⟨bb1, 1, none⟩))] hF (by kernel_rfl) fun a hF => ?_
        refine wl (eL 22 2 1 (v := .int .i64 (pr l k).2) hF hM (by kernel_rfl) rfl rfl (by kernel_rfl) (by kernel_rfl) fun a w hF hM => ?_)
        refine wl (eM 23 (v := .bool false) hF hM (by kernel_rfl) (yld_call (f := 64) (args := #[.int .i64 (pr l k).2, .int .i64 1, .int .i64 1048576]) hF (by kernel_rfl) (fun _ => by kernel_rfl) (fun w hM => inside_no (pr l k).2 1 1048576 w (.inr hz8))) fun a w hF hM => ?_)
        refine sB 2 [(24, .bool true), (25, .bool true)] hF (by kernel_rfl) fun a hF => ?_
        refine wpList_nil ?_
        refine hK14 _ _ ?_
        refine cT hF (by kernel_rfl) (by kernel_rfl) ?_
        refine wp_seq_k fun K15 hK15 => ?_
        refine wp_region_lit ?_
        refine sB 1 [(2, .int .i64 131)] hF (by kernel_rfl) fun a hF => ?_
        refine wpList_nil ?_
        refine hK15 _ _ ?_
        refine wp_ret ?_
        refine hR0 _ _ ?_
        refine ret_of hF hM (.tmp rfl (.nil)) ?_
        exact ⟨ret_int (by first | exact (trE_long (by omega)).symm | exact (trE_no (tr_stop (k := k) (by omega) (by assumption) (by omega))).symm), hM.bel⟩
      ·skip
       refine wp_region_lit ?_
       refine sB 1 [(15, .pointer (some ⟨bb1, 0, none⟩))] hF (by kernel_rfl) fun a hF => ?_
       refine wl (eL 16 2 0 (v := .int .i64 (pr l k).1) hF hM (by kernel_rfl) rfl rfl (by kernel_rfl) (by kernel_rfl) fun a w hF hM => ?_)
       refine sB 1 [(17, .int .i64 la)] hF (by kernel_rfl) fun a hF => ?_
       refine wl (eM 18 (v := .bool true) hF hM (by kernel_rfl) (yld_call (f := 64) (args := #[.int .i64 (pr l k).1, .int .i64 la, .int .i64 1099511627776]) hF (by kernel_rfl) (fun _ => by kernel_rfl) (fun w hM => inside_yes (pr l k).1 la 1099511627776 w hz5 hz6)) fun a w hF hM => ?_)
       refine sB 3 [(19, .bool false), (20, .bool false), (21, .pointer (some ⟨bb1, 1, none⟩))] hF (by kernel_rfl) fun a hF => ?_
       refine wl (eL 22 2 1 (v := .int .i64 (pr l k).2) hF hM (by kernel_rfl) rfl rfl (by kernel_rfl) (by kernel_rfl) fun a w hF hM => ?_)
       refine wl (eM 23 (v := .bool false) hF hM (by kernel_rfl) (yld_call (f := 64) (args := #[.int .i64 (pr l k).2, .int .i64 1, .int .i64 1048576]) hF (by kernel_rfl) (fun _ => by kernel_rfl) (fun w hM => inside_no (pr l k).2 1 1048576 w (.inl hz7))) fun a w hF hM => ?_)
       refine sB 2 [(24, .bool true), (25, .bool true)] hF (by kernel_rfl) fun a hF => ?_
       refine wpList_nil ?_
       refine hK14 _ _ ?_
       refine cT hF (by kernel_rfl) (by kernel_rfl) ?_
       refine wp_seq_k fun K16 hK16 => ?_
       refine wp_region_lit ?_
       refine sB 1 [(2, .int .i64 131)] hF (by kernel_rfl) fun a hF => ?_
       refine wpList_nil ?_
       refine hK16 _ _ ?_
       refine wp_ret ?_
       refine hR0 _ _ ?_
       refine ret_of hF hM (.tmp rfl (.nil)) ?_
       exact ⟨ret_int (by first | exact (trE_long (by omega)).symm | exact (trE_no (tr_stop (k := k) (by omega) (by assumption) (by omega))).symm), hM.bel⟩
     ·skip
      refine wp_region_lit ?_
      refine sB 1 [(15, .pointer (some ⟨bb1, 0, none⟩))] hF (by kernel_rfl) fun a hF => ?_
      refine wl (eL 16 2 0 (v := .int .i64 (pr l k).1) hF hM (by kernel_rfl) rfl rfl (by kernel_rfl) (by kernel_rfl) fun a w hF hM => ?_)
      refine sB 1 [(17, .int .i64 la)] hF (by kernel_rfl) fun a hF => ?_
      refine wl (eM 18 (v := .bool false) hF hM (by kernel_rfl) (yld_call (f := 64) (args := #[.int .i64 (pr l k).1, .int .i64 la, .int .i64 1099511627776]) hF (by kernel_rfl) (fun _ => by kernel_rfl) (fun w hM => inside_no (pr l k).1 la 1099511627776 w (.inr hz6))) fun a w hF hM => ?_)
      refine sB 7 [(19, .bool true), (20, .bool true), (21, undef), (22, undef), (23, undef), (24, undef), (25, .bool true)] hF (by kernel_rfl) fun a hF => ?_
      refine wpList_nil ?_
      refine hK14 _ _ ?_
      refine cT hF (by kernel_rfl) (by kernel_rfl) ?_
      refine wp_seq_k fun K17 hK17 => ?_
      refine wp_region_lit ?_
      refine sB 1 [(2, .int .i64 131)] hF (by kernel_rfl) fun a hF => ?_
      refine wpList_nil ?_
      refine hK17 _ _ ?_
      refine wp_ret ?_
      refine hR0 _ _ ?_
      refine ret_of hF hM (.tmp rfl (.nil)) ?_
      exact ⟨ret_int (by first | exact (trE_long (by omega)).symm | exact (trE_no (tr_stop (k := k) (by omega) (by assumption) (by omega))).symm), hM.bel⟩
    ·skip
     refine wp_region_lit ?_
     refine sB 1 [(15, .pointer (some ⟨bb1, 0, none⟩))] hF (by kernel_rfl) fun a hF => ?_
     refine wl (eL 16 2 0 (v := .int .i64 (pr l k).1) hF hM (by kernel_rfl) rfl rfl (by kernel_rfl) (by kernel_rfl) fun a w hF hM => ?_)
     refine sB 1 [(17, .int .i64 la)] hF (by kernel_rfl) fun a hF => ?_
     refine wl (eM 18 (v := .bool false) hF hM (by kernel_rfl) (yld_call (f := 64) (args := #[.int .i64 (pr l k).1, .int .i64 la, .int .i64 1099511627776]) hF (by kernel_rfl) (fun _ => by kernel_rfl) (fun w hM => inside_no (pr l k).1 la 1099511627776 w (.inl hz5))) fun a w hF hM => ?_)
     refine sB 7 [(19, .bool true), (20, .bool true), (21, undef), (22, undef), (23, undef), (24, undef), (25, .bool true)] hF (by kernel_rfl) fun a hF => ?_
     refine wpList_nil ?_
     refine hK14 _ _ ?_
     refine cT hF (by kernel_rfl) (by kernel_rfl) ?_
     refine wp_seq_k fun K18 hK18 => ?_
     refine wp_region_lit ?_
     refine sB 1 [(2, .int .i64 131)] hF (by kernel_rfl) fun a hF => ?_
     refine wpList_nil ?_
     refine hK18 _ _ ?_
     refine wp_ret ?_
     refine hR0 _ _ ?_
     refine ret_of hF hM (.tmp rfl (.nil)) ?_
     exact ⟨ret_int (by first | exact (trE_long (by omega)).symm | exact (trE_no (tr_stop (k := k) (by omega) (by assumption) (by omega))).symm), hM.bel⟩
   ·skip
    replace hF := hF.c hF (i := 12) (v := .bool false) rfl (bF hz4)
    refine cF hF (by kernel_rfl) (by kernel_rfl) ?_
    refine wp_exit ?_
    refine hK6 _ _ ?_
    refine wp_seq_k fun K19 hK19 => ?_
    refine wp_region_lit ?_
    refine sB 1 [(2, .int .i64 0)] hF (by kernel_rfl) fun a hF => ?_
    refine wpList_nil ?_
    refine hK19 _ _ ?_
    refine wp_ret ?_
    refine hR0 _ _ ?_
    refine ret_of hF hM (.tmp rfl (.nil)) ?_
    exact ⟨ret_int (trE_yes (by omega) (trOk_end (k := k) (by omega) (by assumption))).symm, hM.bel⟩

end Go.Proofs.Ytogeficooemngaa
