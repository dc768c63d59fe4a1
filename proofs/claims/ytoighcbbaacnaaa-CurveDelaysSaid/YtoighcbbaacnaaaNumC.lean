/-
  Contracts of package num: ranges, products, quotients.
-/
import Derived.Test.YtoighcbbaacnaaaDiv64W
import Derived.Test.YtoighcbbaacnaaaNumPlain
namespace Go.Proofs.Ytoighcbbaacnaaa
open Go.RowKit
set_option linter.unusedVariables false
set_option linter.unusedSimpArgs false

theorem in_next {l : List Int} {k : Nat} (h : ∀ j, j < k → -1125899906842624 ≤ nt l j ∧ nt l j ≤ 1125899906842624) (hk : -1125899906842624 ≤ nt l k ∧ nt l k ≤ 1125899906842624) : ∀ j, j < k + 1 → -1125899906842624 ≤ nt l j ∧ nt l j ≤ 1125899906842624 := fun j hj => by
  by_cases e : j = k
  · subst e; exact hk
  · exact h j (by omega)
theorem in_mem {l : List Int} (h : ∀ x ∈ l, -1125899906842624 ≤ x ∧ x ≤ 1125899906842624) {k : Nat} (hk : k < l.length) : -1125899906842624 ≤ nt l k ∧ nt l k ≤ 1125899906842624 := h _ (List.mem_of_getElem? (nt_some hk))
theorem in_all {l : List Int} {k : Nat} (h : ∀ j, j < k → -1125899906842624 ≤ nt l j ∧ nt l j ≤ 1125899906842624) (hk : l.length ≤ k) : ∀ x ∈ l, -1125899906842624 ≤ x ∧ x ≤ 1125899906842624 := fun x hx => by
  obtain ⟨j, hj, e⟩ := List.mem_iff_getElem.1 hx
  have := h j (by omega)
  have e2 := nt_some hj
  rw [List.getElem?_eq_getElem hj, e] at e2
  rw [Option.some.inj e2]
  exact this
theorem inRange_yes (A : Option Addr) (l : List Int) (c : Nat) (w0 : World) (hA : Ro w0 A (l.map (Value.int .i64))) (hm : l.length ≤ 1000000) (h : ∀ x ∈ l, -1125899906842624 ≤ x ∧ x ≤ 1125899906842624) :
    Calls Try.prog 65 #[.slice A l.length c] w0 (Ret w0 (.bool true)) := by
  refine enterK 18 Try.func65 rfl rfl rfl ?_
  intro a hF Q0 hR0 hN0
  have hM := Mem.start w0
  replace hM := hM.addOld 1 hA (Nat.le_refl _)
  refine wp_seq_k fun K1 hK1 => ?_
  refine wp_region_lit ?_
  refine sB 1 [(2, .bool false)] hF (by kernel_rfl) fun a hF => ?_
  refine wpList_nil ?_
  refine hK1 _ _ ?_
  refine wp_seq_k fun K2 hK2 => ?_
  refine wp_seq_k fun K3 hK3 => ?_
  refine wp_region_lit ?_
  refine sB 3 [(5, .slice A l.length c), (6, .int .i64 (l.length : Int)), (7, .int .i64 0)] hF (by kernel_rfl) fun a hF => ?_
  refine wpList_nil ?_
  refine hK3 _ _ ?_
  refine wp_block ?_
  refine wp_loop_k (G := Nat) (fun gg a w => Fr 18 [(7, some (.int .i64 (gg : Int))), (5, some (.slice A l.length c)), (6, some (.int .i64 (l.length : Int)))] a ∧ Mem w0.heap.size w0 [(1, some (.ro A (l.map (Value.int .i64))))] w ∧ ((gg : Int) ≤ (l.length : Int)) ∧ (∀ j, j < gg → -1125899906842624 ≤ nt l j ∧ nt l j ≤ 1125899906842624)) (fun gg => l.length - gg) (0) ?_ ?_
  · refine ⟨((((Fr.nil hF).c hF (i := 6) rfl rfl).c hF (i := 5) rfl rfl).c hF (i := 7) rfl (vi (show (0 : Int) = (0 : Int) from by omega))), (hM.sub (Sub.nil.c (k := 1) rfl rfl)), (show (0 : Int) ≤ (l.length : Int) from by omega), (show ∀ j, j < 0 → -1125899906842624 ≤ nt l j ∧ nt l j ≤ 1125899906842624 from by exact fun j hj => by omega)⟩
  · intro gg a w hI
    intro K4 hK4
    obtain ⟨k, rfl⟩ : ∃ x, x = gg := ⟨_, rfl⟩
    try dsimp only at hI hK4
    obtain ⟨hF, hM, hz1, hz2⟩ := hI
    refine wp_seq_k fun K5 hK5 => ?_
    refine wp_region_lit ?_
    refine sB 1 [(8, .bool (decide ((k : Int) < (l.length : Int))))] hF (by kernel_rfl) fun a hF => ?_
    refine wpList_nil ?_
    refine hK5 _ _ ?_
    refine wp_seq_k fun K6 hK6 => ?_
    by_cases hz3 : (k : Int) < (l.length : Int)
    · skip
      replace hF := hF.c hF (i := 8) (v := .bool true) rfl (bT hz3)
      refine cT hF (by kernel_rfl) (by kernel_rfl) ?_
      refine wp_skip ?_
      refine hK6 _ _ ?_
      refine wp_seq_k fun K7 hK7 => ?_
      refine wp_block ?_
      refine wp_seq_k fun K8 hK8 => ?_
      refine wp_region_lit ?_
      refine wl (eM 9 (v := .pointer (some (ea A (k)))) hF hM (by kernel_rfl) (yld_ix (kd := .i64) (e := 3) (len := l.length) (cap := c) (i := (k : Int)) (size := 1) (A := A) hF rfl (by kernel_rfl) (by kernel_rfl) (by kernel_rfl) (by kernel_rfl) (by kernel_rfl) (roK 1 rfl) (by omega) (by omega) (by rw [List.length_map]; omega)) fun a w hF hM => ?_)
      refine wl (eM 10 (v := .int .i64 (nt l k)) hF hM (by kernel_rfl) (yld_ro1 (A := A) (j := k) hF rfl (by kernel_rfl) (by kernel_rfl) (roK 1 rfl) (by kernel_rfl) (nt_at (by omega))) fun a w hF hM => ?_)
      refine sB 1 [(4, .int .i64 (nt l k))] hF (by kernel_rfl) fun a hF => ?_
      refine wpList_nil ?_
      refine hK8 _ _ ?_
      refine wp_seq_k fun K9 hK9 => ?_
      by_cases hz4 : nt l k < -1125899906842624
      · skip
        refine wp_region_lit ?_
        refine sB 1 [(11, .int .i64 (nt l k))] hF (by kernel_rfl) fun a hF => ?_
        refine wl (eP 12 (v0 := .bool (decide (nt l k < -1125899906842624))) (v := .bool true) hF (by kernel_rfl) (fun _ => by kernel_rfl) (bT hz4) fun a hF => ?_)
        refine sB 4 [(13, .bool true), (14, undef), (15, undef), (16, .bool true)] hF (by kernel_rfl) fun a hF => ?_
        refine wpList_nil ?_
        refine hK9 _ _ ?_
        refine cT hF (by kernel_rfl) (by kernel_rfl) ?_
        refine wp_seq_k fun K10 hK10 => ?_
        refine wp_region_lit ?_
        refine sB 1 [(2, .bool false)] hF (by kernel_rfl) fun a hF => ?_
        refine wpList_nil ?_
        refine hK10 _ _ ?_
        refine wp_ret ?_
        refine hR0 _ _ ?_
        refine ret_of hF hM (.tmp rfl (.nil)) ?_
        have := in_mem h (k := k) (by omega); exfalso; omega
      · skip
        refine wp_region_lit ?_
        refine sB 1 [(11, .int .i64 (nt l k))] hF (by kernel_rfl) fun a hF => ?_
        refine wl (eP 12 (v0 := .bool (decide (nt l k < -1125899906842624))) (v := .bool false) hF (by kernel_rfl) (fun _ => by kernel_rfl) (bF hz4) fun a hF => ?_)
        refine sB 4 [(13, .bool false), (14, .int .i64 (nt l k)), (15, .bool (decide (1125899906842624 < nt l k))), (16, .bool (decide (1125899906842624 < nt l k)))] hF (by kernel_rfl) fun a hF => ?_
        refine wpList_nil ?_
        refine hK9 _ _ ?_
        by_cases hz5 : 1125899906842624 < nt l k
        · skip
          replace hF := hF.c hF (i := 15) (v := .bool true) rfl (bT hz5)
          replace hF := hF.c hF (i := 16) (v := .bool true) rfl (bT hz5)
          refine cT hF (by kernel_rfl) (by kernel_rfl) ?_
          refine wp_seq_k fun K11 hK11 => ?_
          refine wp_region_lit ?_
          refine sB 1 [(2, .bool false)] hF (by kernel_rfl) fun a hF => ?_
          refine wpList_nil ?_
          refine hK11 _ _ ?_
          refine wp_ret ?_
          refine hR0 _ _ ?_
          refine ret_of hF hM (.tmp rfl (.nil)) ?_
          have := in_mem h (k := k) (by omega); exfalso; omega
        · skip
          replace hF := hF.c hF (i := 15) (v := .bool false) rfl (bF hz5)
          replace hF := hF.c hF (i := 16) (v := .bool false) rfl (bF hz5)
          refine cF hF (by kernel_rfl) (by kernel_rfl) ?_
          refine wp_skip ?_
          refine hK7 _ _ ?_
          refine wp_region_lit ?_
          refine wl (eP 17 (v0 := .int .i64 (IntKind.i64.wrap ((k : Int) + 1))) (v := .int .i64 ((k : Int) + 1)) hF (by kernel_rfl) (fun _ => by kernel_rfl) (wi (by omega)) fun a hF => ?_)
          refine sB 1 [(7, .int .i64 ((k : Int) + 1))] hF (by kernel_rfl) fun a hF => ?_
          refine wpList_nil ?_
          refine hK4 _ _ ⟨(k + 1), ⟨((((Fr.nil hF).c hF (i := 6) rfl rfl).c hF (i := 5) rfl rfl).c hF (i := 7) rfl (vi (show ((k : Int) + 1 : Int) = ((k + 1) : Int) from by omega))), (hM.sub (Sub.nil.c (k := 1) rfl rfl)), (show ((k + 1) : Int) ≤ (l.length : Int) from by omega), (show ∀ j, j < (k + 1) → -1125899906842624 ≤ nt l j ∧ nt l j ≤ 1125899906842624 from by exact in_next (by assumption) (by omega))⟩, (show l.length - (k + 1) < l.length - k from by omega)⟩
    · skip
      replace hF := hF.c hF (i := 8) (v := .bool false) rfl (bF hz3)
      refine cF hF (by kernel_rfl) (by kernel_rfl) ?_
      refine wp_exit ?_
      refine hK2 _ _ ?_
      refine wp_seq_k fun K12 hK12 => ?_
      refine wp_region_lit ?_
      refine sB 1 [(2, .bool true)] hF (by kernel_rfl) fun a hF => ?_
      refine wpList_nil ?_
      refine hK12 _ _ ?_
      refine wp_ret ?_
      refine hR0 _ _ ?_
      refine ret_of hF hM (.tmp rfl (.nil)) ?_
      exact ⟨rfl, hM.bel⟩

theorem inRange_no (A : Option Addr) (l : List Int) (c : Nat) (w0 : World) (hA : Ro w0 A (l.map (Value.int .i64))) (hm : l.length ≤ 1000000) (h : ¬ ∀ x ∈ l, -1125899906842624 ≤ x ∧ x ≤ 1125899906842624) :
    Calls Try.prog 65 #[.slice A l.length c] w0 (Ret w0 (.bool false)) := by
  refine enterK 18 Try.func65 rfl rfl rfl ?_
  intro a hF Q0 hR0 hN0
  have hM := Mem.start w0
  replace hM := hM.addOld 1 hA (Nat.le_refl _)
  refine wp_seq_k fun K1 hK1 => ?_
  refine wp_region_lit ?_
  refine sB 1 [(2, .bool false)] hF (by kernel_rfl) fun a hF => ?_
  refine wpList_nil ?_
  refine hK1 _ _ ?_
  refine wp_seq_k fun K2 hK2 => ?_
  refine wp_seq_k fun K3 hK3 => ?_
  refine wp_region_lit ?_
  refine sB 3 [(5, .slice A l.length c), (6, .int .i64 (l.length : Int)), (7, .int .i64 0)] hF (by kernel_rfl) fun a hF => ?_
  refine wpList_nil ?_
  refine hK3 _ _ ?_
  refine wp_block ?_
  refine wp_loop_k (G := Nat) (fun gg a w => Fr 18 [(7, some (.int .i64 (gg : Int))), (5, some (.slice A l.length c)), (6, some (.int .i64 (l.length : Int)))] a ∧ Mem w0.heap.size w0 [(1, some (.ro A (l.map (Value.int .i64))))] w ∧ ((gg : Int) ≤ (l.length : Int)) ∧ (∀ j, j < gg → -1125899906842624 ≤ nt l j ∧ nt l j ≤ 1125899906842624)) (fun gg => l.length - gg) (0) ?_ ?_
  · refine ⟨((((Fr.nil hF).c hF (i := 6) rfl rfl).c hF (i := 5) rfl rfl).c hF (i := 7) rfl (vi (show (0 : Int) = (0 : Int) from by omega))), (hM.sub (Sub.nil.c (k := 1) rfl rfl)), (show (0 : Int) ≤ (l.length : Int) from by omega), (show ∀ j, j < 0 → -1125899906842624 ≤ nt l j ∧ nt l j ≤ 1125899906842624 from by exact fun j hj => by omega)⟩
  · intro gg a w hI
    intro K4 hK4
    obtain ⟨k, rfl⟩ : ∃ x, x = gg := ⟨_, rfl⟩
    try dsimp only at hI hK4
    obtain ⟨hF, hM, hz1, hz2⟩ := hI
    refine wp_seq_k fun K5 hK5 => ?_
    refine wp_region_lit ?_
    refine sB 1 [(8, .bool (decide ((k : Int) < (l.length : Int))))] hF (by kernel_rfl) fun a hF => ?_
    refine wpList_nil ?_
    refine hK5 _ _ ?_
    refine wp_seq_k fun K6 hK6 => ?_
    by_cases hz3 : (k : Int) < (l.length : Int)
    · skip
      replace hF := hF.c hF (i := 8) (v := .bool true) rfl (bT hz3)
      refine cT hF (by kernel_rfl) (by kernel_rfl) ?_
      refine wp_skip ?_
      refine hK6 _ _ ?_
      refine wp_seq_k fun K7 hK7 => ?_
      refine wp_block ?_
      refine wp_seq_k fun K8 hK8 => ?_
      refine wp_region_lit ?_
      refine wl (eM 9 (v := .pointer (some (ea A (k)))) hF hM (by kernel_rfl) (yld_ix (kd := .i64) (e := 3) (len := l.length) (cap := c) (i := (k : Int)) (size := 1) (A := A) hF rfl (by kernel_rfl) (by kernel_rfl) (by kernel_rfl) (by kernel_rfl) (by kernel_rfl) (roK 1 rfl) (by omega) (by omega) (by rw [List.length_map]; omega)) fun a w hF hM => ?_)
      refine wl (eM 10 (v := .int .i64 (nt l k)) hF hM (by kernel_rfl) (yld_ro1 (A := A) (j := k) hF rfl (by kernel_rfl) (by kernel_rfl) (roK 1 rfl) (by kernel_rfl) (nt_at (by omega))) fun a w hF hM => ?_)
      refine sB 1 [(4, .int .i64 (nt l k))] hF (by kernel_rfl) fun a hF => ?_
      refine wpList_nil ?_
      refine hK8 _ _ ?_
      refine wp_seq_k fun K9 hK9 => ?_
      by_cases hz4 : nt l k < -1125899906842624
      · skip
        refine wp_region_lit ?_
        refine sB 1 [(11, .int .i64 (nt l k))] hF (by kernel_rfl) fun a hF => ?_
        refine wl (eP 12 (v0 := .bool (decide (nt l k < -1125899906842624))) (v := .bool true) hF (by kernel_rfl) (fun _ => by kernel_rfl) (bT hz4) fun a hF => ?_)
        refine sB 4 [(13, .bool true), (14, undef), (15, undef), (16, .bool true)] hF (by kernel_rfl) fun a hF => ?_
        refine wpList_nil ?_
        refine hK9 _ _ ?_
        refine cT hF (by kernel_rfl) (by kernel_rfl) ?_
        refine wp_seq_k fun K10 hK10 => ?_
        refine wp_region_lit ?_
        refine sB 1 [(2, .bool false)] hF (by kernel_rfl) fun a hF => ?_
        refine wpList_nil ?_
        refine hK10 _ _ ?_
        refine wp_ret ?_
        refine hR0 _ _ ?_
        refine ret_of hF hM (.tmp rfl (.nil)) ?_
        exact ⟨rfl, hM.bel⟩
      · skip
        refine wp_region_lit ?_
        refine sB 1 [(11, .int .i64 (nt l k))] hF (by kernel_rfl) fun a hF => ?_
        refine wl (eP 12 (v0 := .bool (decide (nt l k < -1125899906842624))) (v := .bool false) hF (by kernel_rfl) (fun _ => by kernel_rfl) (bF hz4) fun a hF => ?_)
        refine sB 4 [(13, .bool false), (14, .int .i64 (nt l k)), (15, .bool (decide (1125899906842624 < nt l k))), (16, .bool (decide (1125899906842624 < nt l k)))] hF (by kernel_rfl) fun a hF => ?_
        refine wpList_nil ?_
        refine hK9 _ _ ?_
        by_cases hz5 : 1125899906842624 < nt l k
        · skip
          replace hF := hF.c hF (i := 15) (v := .bool true) rfl (bT hz5)
          replace hF := hF.c hF (i := 16) (v := .bool true) rfl (bT hz5)
          refine cT hF (by kernel_rfl) (by kernel_rfl) ?_
          refine wp_seq_k fun K11 hK11 => ?_
          refine wp_region_lit ?_
          refine sB 1 [(2, .bool false)] hF (by kernel_rfl) fun a hF => ?_
          refine wpList_nil ?_
          refine hK11 _ _ ?_
          refine wp_ret ?_
          refine hR0 _ _ ?_
          refine ret_of hF hM (.tmp rfl (.nil)) ?_
          exact ⟨rfl, hM.bel⟩
        · skip
          replace hF := hF.c hF (i := 15) (v := .bool false) rfl (bF hz5)
          replace hF := hF.c hF (i := 16) (v := .bool false) rfl (bF hz5)
          refine cF hF (by kernel_rfl) (by kernel_rfl) ?_
          refine wp_skip ?_
          refine hK7 _ _ ?_
          refine wp_region_lit ?_
          refine wl (eP 17 (v0 := .int .i64 (IntKind.i64.wrap ((k : Int) + 1))) (v := .int .i64 ((k : Int) + 1)) hF (by kernel_rfl) (fun _ => by kernel_rfl) (wi (by omega)) fun a hF => ?_)
          refine sB 1 [(7, .int .i64 ((k : Int) + 1))] hF (by kernel_rfl) fun a hF => ?_
          refine wpList_nil ?_
          refine hK4 _ _ ⟨(k + 1), ⟨((((Fr.nil hF).c hF (i := 6) rfl rfl).c hF (i := 5) rfl rfl).c hF (i := 7) rfl (vi (show ((k : Int) + 1 : Int) = ((k + 1) : Int) from by omega))), (hM.sub (Sub.nil.c (k := 1) rfl rfl)), (show ((k + 1) : Int) ≤ (l.length : Int) from by omega), (show ∀ j, j < (k + 1) → -1125899906842624 ≤ nt l j ∧ nt l j ≤ 1125899906842624 from by exact in_next (by assumption) (by omega))⟩, (show l.length - (k + 1) < l.length - k from by omega)⟩
    · skip
      replace hF := hF.c hF (i := 8) (v := .bool false) rfl (bF hz3)
      refine cF hF (by kernel_rfl) (by kernel_rfl) ?_
      refine wp_exit ?_
      refine hK2 _ _ ?_
      refine wp_seq_k fun K12 hK12 => ?_
      refine wp_region_lit ?_
      refine sB 1 [(2, .bool true)] hF (by kernel_rfl) fun a hF => ?_
      refine wpList_nil ?_
      refine hK12 _ _ ?_
      refine wp_ret ?_
      refine hR0 _ _ ?_
      refine ret_of hF hM (.tmp rfl (.nil)) ?_
      exact absurd (in_all (k := k) (by assumption) (by omega)) h

theorem magnitude_w (x : Int) (w0 : World) (h : -1125899906842624 ≤ x ∧ x ≤ 1125899906842624) :
    Calls Try.prog 67 #[.int .i64 x] w0 (Ret w0 (.int .u64 (x.natAbs : Int))) := by
  refine enterK 10 Try.func67 rfl rfl rfl ?_
  intro a hF Q0 hR0 hN0
  have hM := Mem.start w0
  refine wp_seq_k fun K1 hK1 => ?_
  refine wp_region_lit ?_
  refine sB 1 [(2, .int .u64 0)] hF (by kernel_rfl) fun a hF => ?_
  refine wpList_nil ?_
  refine hK1 _ _ ?_
  refine wp_seq_k fun K2 hK2 => ?_
  refine wp_seq_k fun K3 hK3 => ?_
  refine wp_region_lit ?_
  refine sB 2 [(3, .int .i64 x), (4, .bool (decide (x < 0)))] hF (by kernel_rfl) fun a hF => ?_
  refine wpList_nil ?_
  refine hK3 _ _ ?_
  by_cases hz1 : x < 0
  · skip
    replace hF := hF.c hF (i := 4) (v := .bool true) rfl (bT hz1)
    refine cT hF (by kernel_rfl) (by kernel_rfl) ?_
    refine wp_seq_k fun K4 hK4 => ?_
    refine wp_region_lit ?_
    refine sB 1 [(5, .int .i64 x)] hF (by kernel_rfl) fun a hF => ?_
    refine wl (eP 6 (v0 := .int .i64 (IntKind.i64.wrap (0 - x))) (v := .int .i64 (-x)) hF (by kernel_rfl) (fun _ => by kernel_rfl) (vi (by rw [Int.zero_sub]; exact (w64 (by omega)))) fun a hF => ?_)
    refine wl (eP 7 (v0 := .int .u64 (IntKind.u64.wrap (-x))) (v := .int .u64 (-x)) hF (by kernel_rfl) (fun _ => by kernel_rfl) (vi (IntWalk.u64_in _ (by omega))) fun a hF => ?_)
    refine sB 1 [(2, .int .u64 (-x))] hF (by kernel_rfl) fun a hF => ?_
    refine wpList_nil ?_
    refine hK4 _ _ ?_
    refine wp_ret ?_
    refine hR0 _ _ ?_
    refine ret_of hF hM (.tmp rfl (.nil)) ?_
    exact ⟨ret_int (by omega), hM.bel⟩
  · skip
    replace hF := hF.c hF (i := 4) (v := .bool false) rfl (bF hz1)
    refine cF hF (by kernel_rfl) (by kernel_rfl) ?_
    refine wp_skip ?_
    refine hK2 _ _ ?_
    refine wp_seq_k fun K5 hK5 => ?_
    refine wp_region_lit ?_
    refine sB 1 [(8, .int .i64 x)] hF (by kernel_rfl) fun a hF => ?_
    refine wl (eP 9 (v0 := .int .u64 (IntKind.u64.wrap x)) (v := .int .u64 x) hF (by kernel_rfl) (fun _ => by kernel_rfl) (vi (IntWalk.u64_in _ (by omega))) fun a hF => ?_)
    refine sB 1 [(2, .int .u64 x)] hF (by kernel_rfl) fun a hF => ?_
    refine wpList_nil ?_
    refine hK5 _ _ ?_
    refine wp_ret ?_
    refine hR0 _ _ ?_
    refine ret_of hF hM (.tmp rfl (.nil)) ?_
    exact ⟨ret_int (by omega), hM.bel⟩

theorem mulDiv_w (xa xb xc : Int) (w0 : World) :
    Calls Try.prog 62 #[.int .i64 xa, .int .i64 xb, .int .i64 xc] w0 (Ret w0 (.tuple #[.int .i64 (mdV xa xb xc), .bool (mdB xa xb xc)])) := by
  obtain ⟨hiN, hhi⟩ : ∃ m : Nat, m = xa.natAbs * xb.natAbs / 18446744073709551616 := ⟨_, rfl⟩
  obtain ⟨loN, hlo⟩ : ∃ m : Nat, m = xa.natAbs * xb.natAbs % 18446744073709551616 := ⟨_, rfl⟩
  obtain ⟨M, hMM⟩ : ∃ m : Nat, m = xa.natAbs * xb.natAbs := ⟨_, rfl⟩
  have hpr : hiN * 18446744073709551616 + loN = M := by rw [← hMM] at hhi hlo; omega
  have hhl : loN < 18446744073709551616 := by omega
  refine enterK 62 Try.func62 rfl rfl rfl ?_
  intro a hF Q0 hR0 hN0
  have hM := Mem.start w0
  refine wp_seq_k fun K1 hK1 => ?_
  refine wp_region_lit ?_
  refine sB 2 [(6, .int .i64 0), (7, .bool false)] hF (by kernel_rfl) fun a hF => ?_
  refine wpList_nil ?_
  refine hK1 _ _ ?_
  refine wp_seq_k fun K2 hK2 => ?_
  refine wp_seq_k fun K3 hK3 => ?_
  by_cases hz1 : -1125899906842624 ≤ xa
  · skip
    by_cases hz2 : xa ≤ 1125899906842624
    · skip
      by_cases hz3 : -1125899906842624 ≤ xb
      · skip
        by_cases hz4 : xb ≤ 1125899906842624
        · skip
          by_cases hz5 : -1125899906842624 ≤ xc
          · skip
            by_cases hz6 : xc ≤ 1125899906842624
            · skip
              refine wp_region_lit ?_
              refine sB 3 [(13, .int .i64 xa), (14, .int .i64 xb), (15, .int .i64 xc)] hF (by kernel_rfl) fun a hF => ?_
              refine wl (eN 16 7 (t := 3) (fun b => .slice (some ⟨b, 0, none⟩) 3 3) #[.int .i64 xa, .int .i64 xb, .int .i64 xc] hF hM (by kernel_rfl) (fun _ => by kernel_rfl) fun bb7 a w hF hM => ?_)
              refine wl (eM 17 (v := .bool true) hF hM (by kernel_rfl) (yld_call (f := 65) (args := #[.slice (some ⟨bb7, 0, none⟩) 3 3]) hF (by kernel_rfl) (fun _ => by kernel_rfl) (fun w hM => inRange_yes (some ⟨bb7, 0, none⟩) [xa, xb, xc] 3 w (hM.roRow (k := 7) rfl) (by simp) (by simp; omega))) fun a w hF hM => ?_)
              refine sB 5 [(18, .bool false), (19, .bool false), (20, .int .i64 xc), (21, .bool (decide (xc < 1))), (22, .bool (decide (xc < 1)))] hF (by kernel_rfl) fun a hF => ?_
              refine wpList_nil ?_
              refine hK3 _ _ ?_
              by_cases hz7 : xc < 1
              · skip
                replace hF := hF.c hF (i := 21) (v := .bool true) rfl (bT hz7)
                replace hF := hF.c hF (i := 22) (v := .bool true) rfl (bT hz7)
                refine cT hF (by kernel_rfl) (by kernel_rfl) ?_
                refine wp_seq_k fun K4 hK4 => ?_
                refine wp_region_lit ?_
                refine sB 2 [(6, .int .i64 0), (7, .bool false)] hF (by kernel_rfl) fun a hF => ?_
                refine wpList_nil ?_
                refine hK4 _ _ ?_
                refine wp_ret ?_
                refine hR0 _ _ ?_
                refine ret_of hF hM (.tmp rfl (.tmp rfl (.nil))) ?_
                have hmd : mdB xa xb xc = false ∧ mdV xa xb xc = 0 := md_arg (by unfold inR; omega)
                exact ⟨ret_eq (by rw [hmd.1, hmd.2]; rfl), hM.bel⟩
              · skip
                replace hF := hF.c hF (i := 21) (v := .bool false) rfl (bF hz7)
                replace hF := hF.c hF (i := 22) (v := .bool false) rfl (bF hz7)
                refine cF hF (by kernel_rfl) (by kernel_rfl) ?_
                refine wp_skip ?_
                refine hK2 _ _ ?_
                refine wp_seq_k fun K5 hK5 => ?_
                have hab : xa.natAbs ≤ 1125899906842624 ∧ xb.natAbs ≤ 1125899906842624 := by omega
                have hMb : M ≤ 1267650600228229401496703205376 := by rw [hMM]; exact Nat.le_trans (Nat.mul_le_mul hab.1 hab.2) (by decide)
                have mul_s : ∀ w : World, Calls Try.prog 66 #[.int .u64 (xa.natAbs : Int), .int .u64 (xb.natAbs : Int)] w (Ret w (.tuple #[.int .u64 (hiN : Int), .int .u64 (loN : Int)])) := fun w => (bits_Mul64 xa.natAbs xb.natAbs (by omega) (by omega) w).mono fun e w' hh => ⟨by rw [hh.1, hhi, hlo], hh.2 ▸ Below.refl _ _⟩
                refine wp_region_lit ?_
                refine sB 1 [(24, .int .i64 xa)] hF (by kernel_rfl) fun a hF => ?_
                refine wl (eM 25 (v := .int .u64 (xa.natAbs : Int)) hF hM (by kernel_rfl) (yld_call (f := 67) (args := #[.int .i64 xa]) hF (by kernel_rfl) (fun _ => by kernel_rfl) (fun w hM => magnitude_w xa w (by omega))) fun a w hF hM => ?_)
                refine sB 1 [(26, .int .i64 xb)] hF (by kernel_rfl) fun a hF => ?_
                refine wl (eM 27 (v := .int .u64 (xb.natAbs : Int)) hF hM (by kernel_rfl) (yld_call (f := 67) (args := #[.int .i64 xb]) hF (by kernel_rfl) (fun _ => by kernel_rfl) (fun w hM => magnitude_w xb w (by omega))) fun a w hF hM => ?_)
                refine wl (eM 28 (v := .tuple #[.int .u64 (hiN : Int), .int .u64 (loN : Int)]) hF hM (by kernel_rfl) (yld_call (f := 66) (args := #[.int .u64 (xa.natAbs : Int), .int .u64 (xb.natAbs : Int)]) hF (by kernel_rfl) (fun _ => by kernel_rfl) (fun w hM => mul_s w)) fun a w hF hM => ?_)
                refine sB 5 [(23, .tuple #[.int .u64 (hiN : Int), .int .u64 (loN : Int)]), (29, .int .u64 (hiN : Int)), (30, .int .u64 (loN : Int)), (8, .int .u64 (hiN : Int)), (9, .int .u64 (loN : Int))] hF (by kernel_rfl) fun a hF => ?_
                refine wpList_nil ?_
                refine hK5 _ _ ?_
                refine wp_seq_k fun K6 hK6 => ?_
                refine wp_seq_k fun K7 hK7 => ?_
                refine wp_region_lit ?_
                refine sB 2 [(31, .int .u64 (hiN : Int)), (32, .int .i64 xc)] hF (by kernel_rfl) fun a hF => ?_
                refine wl (eP 33 (v0 := .int .u64 (IntKind.u64.wrap xc)) (v := .int .u64 xc) hF (by kernel_rfl) (fun _ => by kernel_rfl) (vi (IntWalk.u64_in _ (by omega))) fun a hF => ?_)
                refine sB 1 [(34, .bool (decide (xc ≤ (hiN : Int))))] hF (by kernel_rfl) fun a hF => ?_
                refine wpList_nil ?_
                refine hK7 _ _ ?_
                by_cases hz8 : xc ≤ (hiN : Int)
                · skip
                  replace hF := hF.c hF (i := 34) (v := .bool true) rfl (bT hz8)
                  refine cT hF (by kernel_rfl) (by kernel_rfl) ?_
                  refine wp_seq_k fun K8 hK8 => ?_
                  refine wp_region_lit ?_
                  refine sB 2 [(6, .int .i64 0), (7, .bool false)] hF (by kernel_rfl) fun a hF => ?_
                  refine wpList_nil ?_
                  refine hK8 _ _ ?_
                  refine wp_ret ?_
                  refine hR0 _ _ ?_
                  refine ret_of hF hM (.tmp rfl (.tmp rfl (.nil))) ?_
                  have hmd : mdB xa xb xc = false ∧ mdV xa xb xc = 0 := md_big (q := 18446744073709551616) (by omega) (by omega) (by rw [← hMM]; omega)
                  exact ⟨ret_eq (by rw [hmd.1, hmd.2]; rfl), hM.bel⟩
                · skip
                  replace hF := hF.c hF (i := 34) (v := .bool false) rfl (bF hz8)
                  refine cF hF (by kernel_rfl) (by kernel_rfl) ?_
                  refine wp_skip ?_
                  refine hK6 _ _ ?_
                  refine wp_seq_k fun K9 hK9 => ?_
                  obtain ⟨cN, hcN⟩ : ∃ m : Nat, xc = (m : Int) := ⟨xc.toNat, by omega⟩
                  obtain ⟨qN, hqN⟩ : ∃ m : Nat, m = M / cN := ⟨_, rfl⟩
                  obtain ⟨rN, hrN⟩ : ∃ m : Nat, m = M % cN := ⟨_, rfl⟩
                  have hqr := Nat.div_add_mod' M cN
                  rw [← hqN, ← hrN] at hqr
                  have hrl := Nat.mod_lt M (show cN > 0 by omega)
                  rw [← hrN] at hrl
                  have hql : qN < 18446744073709551616 := by rw [hqN, ← hpr]; exact (Nat.div_lt_iff_lt_mul (by omega)).2 (by omega)
                  have div_s : ∀ w : World, Calls Try.prog 68 #[.int .u64 (hiN : Int), .int .u64 (loN : Int), .int .u64 xc] w (Ret w (.tuple #[.int .u64 (qN : Int), .int .u64 (rN : Int)])) := fun w => by rw [hcN, hqN, hrN, ← hpr]; exact div64_w hiN loN cN w (by omega) (by omega) (by omega)
                  have hint : (qN : Int) * xc + (rN : Int) = ((xa.natAbs * xb.natAbs : Nat) : Int) := by rw [hcN, ← hMM]; exact cast_eq hqr
                  refine wp_region_lit ?_
                  refine sB 3 [(36, .int .u64 (hiN : Int)), (37, .int .u64 (loN : Int)), (38, .int .i64 xc)] hF (by kernel_rfl) fun a hF => ?_
                  refine wl (eP 39 (v0 := .int .u64 (IntKind.u64.wrap xc)) (v := .int .u64 xc) hF (by kernel_rfl) (fun _ => by kernel_rfl) (vi (IntWalk.u64_in _ (by omega))) fun a hF => ?_)
                  refine wl (eM 40 (v := .tuple #[.int .u64 (qN : Int), .int .u64 (rN : Int)]) hF hM (by kernel_rfl) (yld_call (f := 68) (args := #[.int .u64 (hiN : Int), .int .u64 (loN : Int), .int .u64 xc]) hF (by kernel_rfl) (fun _ => by kernel_rfl) (fun w hM => div_s w)) fun a w hF hM => ?_)
                  refine sB 5 [(35, .tuple #[.int .u64 (qN : Int), .int .u64 (rN : Int)]), (41, .int .u64 (qN : Int)), (42, .int .u64 (rN : Int)), (10, .int .u64 (qN : Int)), (11, .int .u64 (rN : Int))] hF (by kernel_rfl) fun a hF => ?_
                  refine wpList_nil ?_
                  refine hK9 _ _ ?_
                  refine wp_seq_k fun K10 hK10 => ?_
                  refine wp_seq_k fun K11 hK11 => ?_
                  refine wp_region_lit ?_
                  refine sB 2 [(43, .int .u64 (qN : Int)), (44, .bool (decide (1125899906842624 < (qN : Int))))] hF (by kernel_rfl) fun a hF => ?_
                  refine wpList_nil ?_
                  refine hK11 _ _ ?_
                  by_cases hz9 : 1125899906842624 < (qN : Int)
                  · skip
                    replace hF := hF.c hF (i := 44) (v := .bool true) rfl (bT hz9)
                    refine cT hF (by kernel_rfl) (by kernel_rfl) ?_
                    refine wp_seq_k fun K12 hK12 => ?_
                    refine wp_region_lit ?_
                    refine sB 2 [(6, .int .i64 0), (7, .bool false)] hF (by kernel_rfl) fun a hF => ?_
                    refine wpList_nil ?_
                    refine hK12 _ _ ?_
                    refine wp_ret ?_
                    refine hR0 _ _ ?_
                    refine ret_of hF hM (.tmp rfl (.tmp rfl (.nil))) ?_
                    have hmd : mdB xa xb xc = false ∧ mdV xa xb xc = 0 := md_big (q := (qN : Int)) (by omega) (by omega) (by omega)
                    exact ⟨ret_eq (by rw [hmd.1, hmd.2]; rfl), hM.bel⟩
                  · skip
                    replace hF := hF.c hF (i := 44) (v := .bool false) rfl (bF hz9)
                    refine cF hF (by kernel_rfl) (by kernel_rfl) ?_
                    refine wp_skip ?_
                    refine hK10 _ _ ?_
                    refine wp_seq_k fun K13 hK13 => ?_
                    refine wp_region_lit ?_
                    refine sB 1 [(45, .int .u64 (qN : Int))] hF (by kernel_rfl) fun a hF => ?_
                    refine wl (eP 46 (v0 := .int .i64 (IntKind.i64.wrap (qN : Int))) (v := .int .i64 (qN : Int)) hF (by kernel_rfl) (fun _ => by kernel_rfl) (vi (IntWalk.i64_in _ (by omega))) fun a hF => ?_)
                    refine sB 1 [(12, .int .i64 (qN : Int))] hF (by kernel_rfl) fun a hF => ?_
                    refine wpList_nil ?_
                    refine hK13 _ _ ?_
                    refine wp_seq_k fun K14 hK14 => ?_
                    refine wp_seq_k fun K15 hK15 => ?_
                    by_cases hz10 : xa < 0
                    · skip
                      by_cases hz11 : xb < 0
                      · skip
                        refine wp_region_lit ?_
                        refine sB 1 [(47, .int .i64 xa)] hF (by kernel_rfl) fun a hF => ?_
                        refine wl (eP 48 (v0 := .bool (decide (xa < 0))) (v := .bool true) hF (by kernel_rfl) (fun _ => by kernel_rfl) (bT hz10) fun a hF => ?_)
                        refine sB 1 [(49, .int .i64 xb)] hF (by kernel_rfl) fun a hF => ?_
                        refine wl (eP 50 (v0 := .bool (decide (xb < 0))) (v := .bool true) hF (by kernel_rfl) (fun _ => by kernel_rfl) (bT hz11) fun a hF => ?_)
                        refine sB 1 [(51, .bool false)] hF (by kernel_rfl) fun a hF => ?_
                        refine wpList_nil ?_
                        refine hK15 _ _ ?_
                        refine cF hF (by kernel_rfl) (by kernel_rfl) ?_
                        refine wp_skip ?_
                        refine hK14 _ _ ?_
                        refine wp_seq_k fun K16 hK16 => ?_
                        refine wp_region_lit ?_
                        refine sB 1 [(58, .int .i64 (qN : Int))] hF (by kernel_rfl) fun a hF => ?_
                        refine wl (sC (f := 69) (args := #[.int .i64 (qN : Int)]) hF (by kernel_rfl) rfl (by decide) (by kernel_rfl) (fun _ => by kernel_rfl) ?_)
                        refine enterK 9 Try.func69 rfl rfl rfl ?_
                        intro a1 hF1 QR17 hR17 hNR17
                        refine wp_seq_k fun K18 hK18 => ?_
                        refine wp_region_lit ?_
                        refine sB 2 [(2, .int .i64 0), (3, .bool false)] hF1 (by kernel_rfl) fun a1 hF1 => ?_
                        refine wpList_nil ?_
                        refine hK18 _ _ ?_
                        refine wp_seq_k fun K19 hK19 => ?_
                        refine wp_seq_k fun K20 hK20 => ?_
                        refine wp_region_lit ?_
                        refine sB 1 [(4, .int .i64 (qN : Int))] hF1 (by kernel_rfl) fun a1 hF1 => ?_
                        refine wl (eN 5 8 (t := 3) (fun b => .slice (some ⟨b, 0, none⟩) 1 1) #[.int .i64 (qN : Int)] hF1 hM (by kernel_rfl) (fun _ => by kernel_rfl) fun bb8 a1 w hF1 hM => ?_)
                        refine wl (eM 6 (v := .bool true) hF1 hM (by kernel_rfl) (yld_call (f := 65) (args := #[.slice (some ⟨bb8, 0, none⟩) 1 1]) hF1 (by kernel_rfl) (fun _ => by kernel_rfl) (fun w hM => inRange_yes (some ⟨bb8, 0, none⟩) [(qN : Int)] 1 w (hM.roRow (k := 8) rfl) (by simp) (by simp; omega))) fun a1 w hF1 hM => ?_)
                        refine sB 1 [(7, .bool false)] hF1 (by kernel_rfl) fun a1 hF1 => ?_
                        refine wpList_nil ?_
                        refine hK20 _ _ ?_
                        refine cF hF1 (by kernel_rfl) (by kernel_rfl) ?_
                        refine wp_skip ?_
                        refine hK19 _ _ ?_
                        refine wp_seq_k fun K21 hK21 => ?_
                        have hab : xa.natAbs ≤ 1125899906842624 ∧ xb.natAbs ≤ 1125899906842624 := by omega
                        have hMb : M ≤ 1267650600228229401496703205376 := by rw [hMM]; exact Nat.le_trans (Nat.mul_le_mul hab.1 hab.2) (by decide)
                        have mul_s : ∀ w : World, Calls Try.prog 66 #[.int .u64 (xa.natAbs : Int), .int .u64 (xb.natAbs : Int)] w (Ret w (.tuple #[.int .u64 (hiN : Int), .int .u64 (loN : Int)])) := fun w => (bits_Mul64 xa.natAbs xb.natAbs (by omega) (by omega) w).mono fun e w' hh => ⟨by rw [hh.1, hhi, hlo], hh.2 ▸ Below.refl _ _⟩
                        refine wp_region_lit ?_
                        refine sB 3 [(8, .int .i64 (qN : Int)), (2, .int .i64 (qN : Int)), (3, .bool true)] hF1 (by kernel_rfl) fun a1 hF1 => ?_
                        refine wpList_nil ?_
                        refine hK21 _ _ ?_
                        refine wp_ret ?_
                        refine hR17 _ _ ?_
                        refine ret_of hF1 hM (.tmp rfl (.tmp rfl (.nil))) ⟨_, rfl, ?_⟩
                        intro a hF
                        refine sB 4 [(60, .int .i64 (qN : Int)), (61, .bool true), (6, .int .i64 (qN : Int)), (7, .bool true)] hF (by kernel_rfl) fun a hF => ?_
                        refine wpList_nil ?_
                        refine hK16 _ _ ?_
                        refine wp_ret ?_
                        refine hR0 _ _ ?_
                        refine ret_of hF hM (.tmp rfl (.tmp rfl (.nil))) ?_
                        have hmd : mdB xa xb xc = true ∧ mdV xa xb xc = (qN : Int) := md_yes (by unfold inR; omega) (fl_pos (q := (qN : Int)) (r := (rN : Int)) (mul_sign_pos (by omega)) hint (by omega) (by omega)) (by unfold inR; omega)
                        exact ⟨ret_eq (by rw [hmd.1, hmd.2]; rfl), hM.bel⟩
                      · skip
                        refine wp_region_lit ?_
                        refine sB 1 [(47, .int .i64 xa)] hF (by kernel_rfl) fun a hF => ?_
                        refine wl (eP 48 (v0 := .bool (decide (xa < 0))) (v := .bool true) hF (by kernel_rfl) (fun _ => by kernel_rfl) (bT hz10) fun a hF => ?_)
                        refine sB 1 [(49, .int .i64 xb)] hF (by kernel_rfl) fun a hF => ?_
                        refine wl (eP 50 (v0 := .bool (decide (xb < 0))) (v := .bool false) hF (by kernel_rfl) (fun _ => by kernel_rfl) (bF hz11) fun a hF => ?_)
                        refine sB 1 [(51, .bool true)] hF (by kernel_rfl) fun a hF => ?_
                        refine wpList_nil ?_
                        refine hK15 _ _ ?_
                        refine cT hF (by kernel_rfl) (by kernel_rfl) ?_
                        refine wp_seq_k fun K22 hK22 => ?_
                        refine wp_region_lit ?_
                        refine sB 1 [(52, .int .i64 (qN : Int))] hF (by kernel_rfl) fun a hF => ?_
                        refine wl (eP 53 (v0 := .int .i64 (IntKind.i64.wrap (0 - (qN : Int)))) (v := .int .i64 (-(qN : Int))) hF (by kernel_rfl) (fun _ => by kernel_rfl) (vi (by rw [Int.zero_sub]; exact (w64 (by omega)))) fun a hF => ?_)
                        refine sB 1 [(12, .int .i64 (-(qN : Int)))] hF (by kernel_rfl) fun a hF => ?_
                        refine wpList_nil ?_
                        refine hK22 _ _ ?_
                        refine wp_seq_k fun K23 hK23 => ?_
                        refine wp_region_lit ?_
                        refine sB 2 [(54, .int .u64 (rN : Int)), (55, .bool (!decide ((rN : Int) = 0)))] hF (by kernel_rfl) fun a hF => ?_
                        refine wpList_nil ?_
                        refine hK23 _ _ ?_
                        by_cases hz12 : (rN : Int) = 0
                        · skip
                          replace hF := hF.c hF (i := 55) (v := .bool false) rfl (nT hz12)
                          refine cF hF (by kernel_rfl) (by kernel_rfl) ?_
                          refine wp_skip ?_
                          refine hK14 _ _ ?_
                          refine wp_seq_k fun K24 hK24 => ?_
                          refine wp_region_lit ?_
                          refine sB 1 [(58, .int .i64 (-(qN : Int)))] hF (by kernel_rfl) fun a hF => ?_
                          refine wl (sC (f := 69) (args := #[.int .i64 (-(qN : Int))]) hF (by kernel_rfl) rfl (by decide) (by kernel_rfl) (fun _ => by kernel_rfl) ?_)
                          refine enterK 9 Try.func69 rfl rfl rfl ?_
                          intro a1 hF1 QR25 hR25 hNR25
                          refine wp_seq_k fun K26 hK26 => ?_
                          refine wp_region_lit ?_
                          refine sB 2 [(2, .int .i64 0), (3, .bool false)] hF1 (by kernel_rfl) fun a1 hF1 => ?_
                          refine wpList_nil ?_
                          refine hK26 _ _ ?_
                          refine wp_seq_k fun K27 hK27 => ?_
                          refine wp_seq_k fun K28 hK28 => ?_
                          refine wp_region_lit ?_
                          refine sB 1 [(4, .int .i64 (-(qN : Int)))] hF1 (by kernel_rfl) fun a1 hF1 => ?_
                          refine wl (eN 5 9 (t := 3) (fun b => .slice (some ⟨b, 0, none⟩) 1 1) #[.int .i64 (-(qN : Int))] hF1 hM (by kernel_rfl) (fun _ => by kernel_rfl) fun bb9 a1 w hF1 hM => ?_)
                          refine wl (eM 6 (v := .bool true) hF1 hM (by kernel_rfl) (yld_call (f := 65) (args := #[.slice (some ⟨bb9, 0, none⟩) 1 1]) hF1 (by kernel_rfl) (fun _ => by kernel_rfl) (fun w hM => inRange_yes (some ⟨bb9, 0, none⟩) [-(qN : Int)] 1 w (hM.roRow (k := 9) rfl) (by simp) (by simp; omega))) fun a1 w hF1 hM => ?_)
                          refine sB 1 [(7, .bool false)] hF1 (by kernel_rfl) fun a1 hF1 => ?_
                          refine wpList_nil ?_
                          refine hK28 _ _ ?_
                          refine cF hF1 (by kernel_rfl) (by kernel_rfl) ?_
                          refine wp_skip ?_
                          refine hK27 _ _ ?_
                          refine wp_seq_k fun K29 hK29 => ?_
                          have hab : xa.natAbs ≤ 1125899906842624 ∧ xb.natAbs ≤ 1125899906842624 := by omega
                          have hMb : M ≤ 1267650600228229401496703205376 := by rw [hMM]; exact Nat.le_trans (Nat.mul_le_mul hab.1 hab.2) (by decide)
                          have mul_s : ∀ w : World, Calls Try.prog 66 #[.int .u64 (xa.natAbs : Int), .int .u64 (xb.natAbs : Int)] w (Ret w (.tuple #[.int .u64 (hiN : Int), .int .u64 (loN : Int)])) := fun w => (bits_Mul64 xa.natAbs xb.natAbs (by omega) (by omega) w).mono fun e w' hh => ⟨by rw [hh.1, hhi, hlo], hh.2 ▸ Below.refl _ _⟩
                          refine wp_region_lit ?_
                          refine sB 3 [(8, .int .i64 (-(qN : Int))), (2, .int .i64 (-(qN : Int))), (3, .bool true)] hF1 (by kernel_rfl) fun a1 hF1 => ?_
                          refine wpList_nil ?_
                          refine hK29 _ _ ?_
                          refine wp_ret ?_
                          refine hR25 _ _ ?_
                          refine ret_of hF1 hM (.tmp rfl (.tmp rfl (.nil))) ⟨_, rfl, ?_⟩
                          intro a hF
                          refine sB 4 [(60, .int .i64 (-(qN : Int))), (61, .bool true), (6, .int .i64 (-(qN : Int))), (7, .bool true)] hF (by kernel_rfl) fun a hF => ?_
                          refine wpList_nil ?_
                          refine hK24 _ _ ?_
                          refine wp_ret ?_
                          refine hR0 _ _ ?_
                          refine ret_of hF hM (.tmp rfl (.tmp rfl (.nil))) ?_
                          have hmd : mdB xa xb xc = true ∧ mdV xa xb xc = -(qN : Int) := md_yes (by unfold inR; omega) (fl_neg0 (q := (qN : Int)) (r := (rN : Int)) (mul_sign_neg (by omega)) hint (by omega) (by omega)) (by unfold inR; omega)
                          exact ⟨ret_eq (by rw [hmd.1, hmd.2]; rfl), hM.bel⟩
                        · skip
                          replace hF := hF.c hF (i := 55) (v := .bool true) rfl (nF hz12)
                          refine cT hF (by kernel_rfl) (by kernel_rfl) ?_
                          refine wp_region_lit ?_
                          refine sB 1 [(56, .int .i64 (-(qN : Int)))] hF (by kernel_rfl) fun a hF => ?_
                          refine wl (eP 57 (v0 := .int .i64 (IntKind.i64.wrap (-(qN : Int) - 1))) (v := .int .i64 (-(qN : Int) - 1)) hF (by kernel_rfl) (fun _ => by kernel_rfl) (wi (by omega)) fun a hF => ?_)
                          refine sB 1 [(12, .int .i64 (-(qN : Int) - 1))] hF (by kernel_rfl) fun a hF => ?_
                          refine wpList_nil ?_
                          refine hK14 _ _ ?_
                          refine wp_seq_k fun K30 hK30 => ?_
                          refine wp_region_lit ?_
                          refine sB 1 [(58, .int .i64 (-(qN : Int) - 1))] hF (by kernel_rfl) fun a hF => ?_
                          refine wl (sC (f := 69) (args := #[.int .i64 (-(qN : Int) - 1)]) hF (by kernel_rfl) rfl (by decide) (by kernel_rfl) (fun _ => by kernel_rfl) ?_)
                          refine enterK 9 Try.func69 rfl rfl rfl ?_
                          intro a1 hF1 QR31 hR31 hNR31
                          refine wp_seq_k fun K32 hK32 => ?_
                          refine wp_region_lit ?_
                          refine sB 2 [(2, .int .i64 0), (3, .bool false)] hF1 (by kernel_rfl) fun a1 hF1 => ?_
                          refine wpList_nil ?_
                          refine hK32 _ _ ?_
                          refine wp_seq_k fun K33 hK33 => ?_
                          refine wp_seq_k fun K34 hK34 => ?_
                          by_cases hz13 : -1125899906842624 ≤ -(qN : Int) - 1
                          · skip
                            refine wp_region_lit ?_
                            refine sB 1 [(4, .int .i64 (-(qN : Int) - 1))] hF1 (by kernel_rfl) fun a1 hF1 => ?_
                            refine wl (eN 5 11 (t := 3) (fun b => .slice (some ⟨b, 0, none⟩) 1 1) #[.int .i64 (-(qN : Int) - 1)] hF1 hM (by kernel_rfl) (fun _ => by kernel_rfl) fun bb11 a1 w hF1 hM => ?_)
                            refine wl (eM 6 (v := .bool true) hF1 hM (by kernel_rfl) (yld_call (f := 65) (args := #[.slice (some ⟨bb11, 0, none⟩) 1 1]) hF1 (by kernel_rfl) (fun _ => by kernel_rfl) (fun w hM => inRange_yes (some ⟨bb11, 0, none⟩) [-(qN : Int) - 1] 1 w (hM.roRow (k := 11) rfl) (by simp) (by simp; omega))) fun a1 w hF1 hM => ?_)
                            refine sB 1 [(7, .bool false)] hF1 (by kernel_rfl) fun a1 hF1 => ?_
                            refine wpList_nil ?_
                            refine hK34 _ _ ?_
                            refine cF hF1 (by kernel_rfl) (by kernel_rfl) ?_
                            refine wp_skip ?_
                            refine hK33 _ _ ?_
                            refine wp_seq_k fun K35 hK35 => ?_
                            have hab : xa.natAbs ≤ 1125899906842624 ∧ xb.natAbs ≤ 1125899906842624 := by omega
                            have hMb : M ≤ 1267650600228229401496703205376 := by rw [hMM]; exact Nat.le_trans (Nat.mul_le_mul hab.1 hab.2) (by decide)
                            have mul_s : ∀ w : World, Calls Try.prog 66 #[.int .u64 (xa.natAbs : Int), .int .u64 (xb.natAbs : Int)] w (Ret w (.tuple #[.int .u64 (hiN : Int), .int .u64 (loN : Int)])) := fun w => (bits_Mul64 xa.natAbs xb.natAbs (by omega) (by omega) w).mono fun e w' hh => ⟨by rw [hh.1, hhi, hlo], hh.2 ▸ Below.refl _ _⟩
                            refine wp_region_lit ?_
                            refine sB 3 [(8, .int .i64 (-(qN : Int) - 1)), (2, .int .i64 (-(qN : Int) - 1)), (3, .bool true)] hF1 (by kernel_rfl) fun a1 hF1 => ?_
                            refine wpList_nil ?_
                            refine hK35 _ _ ?_
                            refine wp_ret ?_
                            refine hR31 _ _ ?_
                            refine ret_of hF1 hM (.tmp rfl (.tmp rfl (.nil))) ⟨_, rfl, ?_⟩
                            intro a hF
                            refine sB 4 [(60, .int .i64 (-(qN : Int) - 1)), (61, .bool true), (6, .int .i64 (-(qN : Int) - 1)), (7, .bool true)] hF (by kernel_rfl) fun a hF => ?_
                            refine wpList_nil ?_
                            refine hK30 _ _ ?_
                            refine wp_ret ?_
                            refine hR0 _ _ ?_
                            refine ret_of hF hM (.tmp rfl (.tmp rfl (.nil))) ?_
                            have hmd : mdB xa xb xc = true ∧ mdV xa xb xc = -(qN : Int) - 1 := md_yes (by unfold inR; omega) (fl_neg1 (q := (qN : Int)) (r := (rN : Int)) (mul_sign_neg (by omega)) hint (by omega) (by omega)) (by unfold inR; omega)
                            exact ⟨ret_eq (by rw [hmd.1, hmd.2]; rfl), hM.bel⟩
                          · skip
                            refine wp_region_lit ?_
                            refine sB 1 [(4, .int .i64 (-(qN : Int) - 1))] hF1 (by kernel_rfl) fun a1 hF1 => ?_
                            refine wl (eN 5 12 (t := 3) (fun b => .slice (some ⟨b, 0, none⟩) 1 1) #[.int .i64 (-(qN : Int) - 1)] hF1 hM (by kernel_rfl) (fun _ => by kernel_rfl) fun bb12 a1 w hF1 hM => ?_)
                            refine wl (eM 6 (v := .bool false) hF1 hM (by kernel_rfl) (yld_call (f := 65) (args := #[.slice (some ⟨bb12, 0, none⟩) 1 1]) hF1 (by kernel_rfl) (fun _ => by kernel_rfl) (fun w hM => inRange_no (some ⟨bb12, 0, none⟩) [-(qN : Int) - 1] 1 w (hM.roRow (k := 12) rfl) (by simp) (by intro hh; simp at hh; omega))) fun a1 w hF1 hM => ?_)
                            refine sB 1 [(7, .bool true)] hF1 (by kernel_rfl) fun a1 hF1 => ?_
                            refine wpList_nil ?_
                            refine hK34 _ _ ?_
                            refine cT hF1 (by kernel_rfl) (by kernel_rfl) ?_
                            refine wp_seq_k fun K36 hK36 => ?_
                            refine wp_region_lit ?_
                            refine sB 2 [(2, .int .i64 0), (3, .bool false)] hF1 (by kernel_rfl) fun a1 hF1 => ?_
                            refine wpList_nil ?_
                            refine hK36 _ _ ?_
                            refine wp_ret ?_
                            refine hR31 _ _ ?_
                            refine ret_of hF1 hM (.tmp rfl (.tmp rfl (.nil))) ⟨_, rfl, ?_⟩
                            intro a hF
                            refine sB 4 [(60, .int .i64 0), (61, .bool false), (6, .int .i64 0), (7, .bool false)] hF (by kernel_rfl) fun a hF => ?_
                            refine wpList_nil ?_
                            refine hK30 _ _ ?_
                            refine wp_ret ?_
                            refine hR0 _ _ ?_
                            refine ret_of hF hM (.tmp rfl (.tmp rfl (.nil))) ?_
                            have hmd : mdB xa xb xc = false ∧ mdV xa xb xc = 0 := md_out (v := -(qN : Int) - 1) (fl_neg1 (q := (qN : Int)) (r := (rN : Int)) (mul_sign_neg (by omega)) hint (by omega) (by omega)) (by unfold inR; omega)
                            exact ⟨ret_eq (by rw [hmd.1, hmd.2]; rfl), hM.bel⟩
                    · skip
                      by_cases hz14 : xb < 0
                      · skip
                        refine wp_region_lit ?_
                        refine sB 1 [(47, .int .i64 xa)] hF (by kernel_rfl) fun a hF => ?_
                        refine wl (eP 48 (v0 := .bool (decide (xa < 0))) (v := .bool false) hF (by kernel_rfl) (fun _ => by kernel_rfl) (bF hz10) fun a hF => ?_)
                        refine sB 1 [(49, .int .i64 xb)] hF (by kernel_rfl) fun a hF => ?_
                        refine wl (eP 50 (v0 := .bool (decide (xb < 0))) (v := .bool true) hF (by kernel_rfl) (fun _ => by kernel_rfl) (bT hz14) fun a hF => ?_)
                        refine sB 1 [(51, .bool true)] hF (by kernel_rfl) fun a hF => ?_
                        refine wpList_nil ?_
                        refine hK15 _ _ ?_
                        refine cT hF (by kernel_rfl) (by kernel_rfl) ?_
                        refine wp_seq_k fun K37 hK37 => ?_
                        refine wp_region_lit ?_
                        refine sB 1 [(52, .int .i64 (qN : Int))] hF (by kernel_rfl) fun a hF => ?_
                        refine wl (eP 53 (v0 := .int .i64 (IntKind.i64.wrap (0 - (qN : Int)))) (v := .int .i64 (-(qN : Int))) hF (by kernel_rfl) (fun _ => by kernel_rfl) (vi (by rw [Int.zero_sub]; exact (w64 (by omega)))) fun a hF => ?_)
                        refine sB 1 [(12, .int .i64 (-(qN : Int)))] hF (by kernel_rfl) fun a hF => ?_
                        refine wpList_nil ?_
                        refine hK37 _ _ ?_
                        refine wp_seq_k fun K38 hK38 => ?_
                        refine wp_region_lit ?_
                        refine sB 2 [(54, .int .u64 (rN : Int)), (55, .bool (!decide ((rN : Int) = 0)))] hF (by kernel_rfl) fun a hF => ?_
                        refine wpList_nil ?_
                        refine hK38 _ _ ?_
                        by_cases hz15 : (rN : Int) = 0
                        · skip
                          replace hF := hF.c hF (i := 55) (v := .bool false) rfl (nT hz15)
                          refine cF hF (by kernel_rfl) (by kernel_rfl) ?_
                          refine wp_skip ?_
                          refine hK14 _ _ ?_
                          refine wp_seq_k fun K39 hK39 => ?_
                          refine wp_region_lit ?_
                          refine sB 1 [(58, .int .i64 (-(qN : Int)))] hF (by kernel_rfl) fun a hF => ?_
                          refine wl (sC (f := 69) (args := #[.int .i64 (-(qN : Int))]) hF (by kernel_rfl) rfl (by decide) (by kernel_rfl) (fun _ => by kernel_rfl) ?_)
                          refine enterK 9 Try.func69 rfl rfl rfl ?_
                          intro a1 hF1 QR40 hR40 hNR40
                          refine wp_seq_k fun K41 hK41 => ?_
                          refine wp_region_lit ?_
                          refine sB 2 [(2, .int .i64 0), (3, .bool false)] hF1 (by kernel_rfl) fun a1 hF1 => ?_
                          refine wpList_nil ?_
                          refine hK41 _ _ ?_
                          refine wp_seq_k fun K42 hK42 => ?_
                          refine wp_seq_k fun K43 hK43 => ?_
                          refine wp_region_lit ?_
                          refine sB 1 [(4, .int .i64 (-(qN : Int)))] hF1 (by kernel_rfl) fun a1 hF1 => ?_
                          refine wl (eN 5 13 (t := 3) (fun b => .slice (some ⟨b, 0, none⟩) 1 1) #[.int .i64 (-(qN : Int))] hF1 hM (by kernel_rfl) (fun _ => by kernel_rfl) fun bb13 a1 w hF1 hM => ?_)
                          refine wl (eM 6 (v := .bool true) hF1 hM (by kernel_rfl) (yld_call (f := 65) (args := #[.slice (some ⟨bb13, 0, none⟩) 1 1]) hF1 (by kernel_rfl) (fun _ => by kernel_rfl) (fun w hM => inRange_yes (some ⟨bb13, 0, none⟩) [-(qN : Int)] 1 w (hM.roRow (k := 13) rfl) (by simp) (by simp; omega))) fun a1 w hF1 hM => ?_)
                          refine sB 1 [(7, .bool false)] hF1 (by kernel_rfl) fun a1 hF1 => ?_
                          refine wpList_nil ?_
                          refine hK43 _ _ ?_
                          refine cF hF1 (by kernel_rfl) (by kernel_rfl) ?_
                          refine wp_skip ?_
                          refine hK42 _ _ ?_
                          refine wp_seq_k fun K44 hK44 => ?_
                          have hab : xa.natAbs ≤ 1125899906842624 ∧ xb.natAbs ≤ 1125899906842624 := by omega
                          have hMb : M ≤ 1267650600228229401496703205376 := by rw [hMM]; exact Nat.le_trans (Nat.mul_le_mul hab.1 hab.2) (by decide)
                          have mul_s : ∀ w : World, Calls Try.prog 66 #[.int .u64 (xa.natAbs : Int), .int .u64 (xb.natAbs : Int)] w (Ret w (.tuple #[.int .u64 (hiN : Int), .int .u64 (loN : Int)])) := fun w => (bits_Mul64 xa.natAbs xb.natAbs (by omega) (by omega) w).mono fun e w' hh => ⟨by rw [hh.1, hhi, hlo], hh.2 ▸ Below.refl _ _⟩
                          refine wp_region_lit ?_
                          refine sB 3 [(8, .int .i64 (-(qN : Int))), (2, .int .i64 (-(qN : Int))), (3, .bool true)] hF1 (by kernel_rfl) fun a1 hF1 => ?_
                          refine wpList_nil ?_
                          refine hK44 _ _ ?_
                          refine wp_ret ?_
                          refine hR40 _ _ ?_
                          refine ret_of hF1 hM (.tmp rfl (.tmp rfl (.nil))) ⟨_, rfl, ?_⟩
                          intro a hF
                          refine sB 4 [(60, .int .i64 (-(qN : Int))), (61, .bool true), (6, .int .i64 (-(qN : Int))), (7, .bool true)] hF (by kernel_rfl) fun a hF => ?_
                          refine wpList_nil ?_
                          refine hK39 _ _ ?_
                          refine wp_ret ?_
                          refine hR0 _ _ ?_
                          refine ret_of hF hM (.tmp rfl (.tmp rfl (.nil))) ?_
                          have hmd : mdB xa xb xc = true ∧ mdV xa xb xc = -(qN : Int) := md_yes (by unfold inR; omega) (fl_neg0 (q := (qN : Int)) (r := (rN : Int)) (mul_sign_neg (by omega)) hint (by omega) (by omega)) (by unfold inR; omega)
                          exact ⟨ret_eq (by rw [hmd.1, hmd.2]; rfl), hM.bel⟩
                        · skip
                          replace hF := hF.c hF (i := 55) (v := .bool true) rfl (nF hz15)
                          refine cT hF (by kernel_rfl) (by kernel_rfl) ?_
                          refine wp_region_lit ?_
                          refine sB 1 [(56, .int .i64 (-(qN : Int)))] hF (by kernel_rfl) fun a hF => ?_
                          refine wl (eP 57 (v0 := .int .i64 (IntKind.i64.wrap (-(qN : Int) - 1))) (v := .int .i64 (-(qN : Int) - 1)) hF (by kernel_rfl) (fun _ => by kernel_rfl) (wi (by omega)) fun a hF => ?_)
                          refine sB 1 [(12, .int .i64 (-(qN : Int) - 1))] hF (by kernel_rfl) fun a hF => ?_
                          refine wpList_nil ?_
                          refine hK14 _ _ ?_
                          refine wp_seq_k fun K45 hK45 => ?_
                          refine wp_region_lit ?_
                          refine sB 1 [(58, .int .i64 (-(qN : Int) - 1))] hF (by kernel_rfl) fun a hF => ?_
                          refine wl (sC (f := 69) (args := #[.int .i64 (-(qN : Int) - 1)]) hF (by kernel_rfl) rfl (by decide) (by kernel_rfl) (fun _ => by kernel_rfl) ?_)
                          refine enterK 9 Try.func69 rfl rfl rfl ?_
                          intro a1 hF1 QR46 hR46 hNR46
                          refine wp_seq_k fun K47 hK47 => ?_
                          refine wp_region_lit ?_
                          refine sB 2 [(2, .int .i64 0), (3, .bool false)] hF1 (by kernel_rfl) fun a1 hF1 => ?_
                          refine wpList_nil ?_
                          refine hK47 _ _ ?_
                          refine wp_seq_k fun K48 hK48 => ?_
                          refine wp_seq_k fun K49 hK49 => ?_
                          by_cases hz16 : -1125899906842624 ≤ -(qN : Int) - 1
                          · skip
                            refine wp_region_lit ?_
                            refine sB 1 [(4, .int .i64 (-(qN : Int) - 1))] hF1 (by kernel_rfl) fun a1 hF1 => ?_
                            refine wl (eN 5 15 (t := 3) (fun b => .slice (some ⟨b, 0, none⟩) 1 1) #[.int .i64 (-(qN : Int) - 1)] hF1 hM (by kernel_rfl) (fun _ => by kernel_rfl) fun bb15 a1 w hF1 hM => ?_)
                            refine wl (eM 6 (v := .bool true) hF1 hM (by kernel_rfl) (yld_call (f := 65) (args := #[.slice (some ⟨bb15, 0, none⟩) 1 1]) hF1 (by kernel_rfl) (fun _ => by kernel_rfl) (fun w hM => inRange_yes (some ⟨bb15, 0, none⟩) [-(qN : Int) - 1] 1 w (hM.roRow (k := 15) rfl) (by simp) (by simp; omega))) fun a1 w hF1 hM => ?_)
                            refine sB 1 [(7, .bool false)] hF1 (by kernel_rfl) fun a1 hF1 => ?_
                            refine wpList_nil ?_
                            refine hK49 _ _ ?_
                            refine cF hF1 (by kernel_rfl) (by kernel_rfl) ?_
                            refine wp_skip ?_
                            refine hK48 _ _ ?_
                            refine wp_seq_k fun K50 hK50 => ?_
                            have hab : xa.natAbs ≤ 1125899906842624 ∧ xb.natAbs ≤ 1125899906842624 := by omega
                            have hMb : M ≤ 1267650600228229401496703205376 := by rw [hMM]; exact Nat.le_trans (Nat.mul_le_mul hab.1 hab.2) (by decide)
                            have mul_s : ∀ w : World, Calls Try.prog 66 #[.int .u64 (xa.natAbs : Int), .int .u64 (xb.natAbs : Int)] w (Ret w (.tuple #[.int .u64 (hiN : Int), .int .u64 (loN : Int)])) := fun w => (bits_Mul64 xa.natAbs xb.natAbs (by omega) (by omega) w).mono fun e w' hh => ⟨by rw [hh.1, hhi, hlo], hh.2 ▸ Below.refl _ _⟩
                            refine wp_region_lit ?_
                            refine sB 3 [(8, .int .i64 (-(qN : Int) - 1)), (2, .int .i64 (-(qN : Int) - 1)), (3, .bool true)] hF1 (by kernel_rfl) fun a1 hF1 => ?_
                            refine wpList_nil ?_
                            refine hK50 _ _ ?_
                            refine wp_ret ?_
                            refine hR46 _ _ ?_
                            refine ret_of hF1 hM (.tmp rfl (.tmp rfl (.nil))) ⟨_, rfl, ?_⟩
                            intro a hF
                            refine sB 4 [(60, .int .i64 (-(qN : Int) - 1)), (61, .bool true), (6, .int .i64 (-(qN : Int) - 1)), (7, .bool true)] hF (by kernel_rfl) fun a hF => ?_
                            refine wpList_nil ?_
                            refine hK45 _ _ ?_
                            refine wp_ret ?_
                            refine hR0 _ _ ?_
                            refine ret_of hF hM (.tmp rfl (.tmp rfl (.nil))) ?_
                            have hmd : mdB xa xb xc = true ∧ mdV xa xb xc = -(qN : Int) - 1 := md_yes (by unfold inR; omega) (fl_neg1 (q := (qN : Int)) (r := (rN : Int)) (mul_sign_neg (by omega)) hint (by omega) (by omega)) (by unfold inR; omega)
                            exact ⟨ret_eq (by rw [hmd.1, hmd.2]; rfl), hM.bel⟩
                          · skip
                            refine wp_region_lit ?_
                            refine sB 1 [(4, .int .i64 (-(qN : Int) - 1))] hF1 (by kernel_rfl) fun a1 hF1 => ?_
                            refine wl (eN 5 16 (t := 3) (fun b => .slice (some ⟨b, 0, none⟩) 1 1) #[.int .i64 (-(qN : Int) - 1)] hF1 hM (by kernel_rfl) (fun _ => by kernel_rfl) fun bb16 a1 w hF1 hM => ?_)
                            refine wl (eM 6 (v := .bool false) hF1 hM (by kernel_rfl) (yld_call (f := 65) (args := #[.slice (some ⟨bb16, 0, none⟩) 1 1]) hF1 (by kernel_rfl) (fun _ => by kernel_rfl) (fun w hM => inRange_no (some ⟨bb16, 0, none⟩) [-(qN : Int) - 1] 1 w (hM.roRow (k := 16) rfl) (by simp) (by intro hh; simp at hh; omega))) fun a1 w hF1 hM => ?_)
                            refine sB 1 [(7, .bool true)] hF1 (by kernel_rfl) fun a1 hF1 => ?_
                            refine wpList_nil ?_
                            refine hK49 _ _ ?_
                            refine cT hF1 (by kernel_rfl) (by kernel_rfl) ?_
                            refine wp_seq_k fun K51 hK51 => ?_
                            refine wp_region_lit ?_
                            refine sB 2 [(2, .int .i64 0), (3, .bool false)] hF1 (by kernel_rfl) fun a1 hF1 => ?_
                            refine wpList_nil ?_
                            refine hK51 _ _ ?_
                            refine wp_ret ?_
                            refine hR46 _ _ ?_
                            refine ret_of hF1 hM (.tmp rfl (.tmp rfl (.nil))) ⟨_, rfl, ?_⟩
                            intro a hF
                            refine sB 4 [(60, .int .i64 0), (61, .bool false), (6, .int .i64 0), (7, .bool false)] hF (by kernel_rfl) fun a hF => ?_
                            refine wpList_nil ?_
                            refine hK45 _ _ ?_
                            refine wp_ret ?_
                            refine hR0 _ _ ?_
                            refine ret_of hF hM (.tmp rfl (.tmp rfl (.nil))) ?_
                            have hmd : mdB xa xb xc = false ∧ mdV xa xb xc = 0 := md_out (v := -(qN : Int) - 1) (fl_neg1 (q := (qN : Int)) (r := (rN : Int)) (mul_sign_neg (by omega)) hint (by omega) (by omega)) (by unfold inR; omega)
                            exact ⟨ret_eq (by rw [hmd.1, hmd.2]; rfl), hM.bel⟩
                      · skip
                        refine wp_region_lit ?_
                        refine sB 1 [(47, .int .i64 xa)] hF (by kernel_rfl) fun a hF => ?_
                        refine wl (eP 48 (v0 := .bool (decide (xa < 0))) (v := .bool false) hF (by kernel_rfl) (fun _ => by kernel_rfl) (bF hz10) fun a hF => ?_)
                        refine sB 1 [(49, .int .i64 xb)] hF (by kernel_rfl) fun a hF => ?_
                        refine wl (eP 50 (v0 := .bool (decide (xb < 0))) (v := .bool false) hF (by kernel_rfl) (fun _ => by kernel_rfl) (bF hz14) fun a hF => ?_)
                        refine sB 1 [(51, .bool false)] hF (by kernel_rfl) fun a hF => ?_
                        refine wpList_nil ?_
                        refine hK15 _ _ ?_
                        refine cF hF (by kernel_rfl) (by kernel_rfl) ?_
                        refine wp_skip ?_
                        refine hK14 _ _ ?_
                        refine wp_seq_k fun K52 hK52 => ?_
                        refine wp_region_lit ?_
                        refine sB 1 [(58, .int .i64 (qN : Int))] hF (by kernel_rfl) fun a hF => ?_
                        refine wl (sC (f := 69) (args := #[.int .i64 (qN : Int)]) hF (by kernel_rfl) rfl (by decide) (by kernel_rfl) (fun _ => by kernel_rfl) ?_)
                        refine enterK 9 Try.func69 rfl rfl rfl ?_
                        intro a1 hF1 QR53 hR53 hNR53
                        refine wp_seq_k fun K54 hK54 => ?_
                        refine wp_region_lit ?_
                        refine sB 2 [(2, .int .i64 0), (3, .bool false)] hF1 (by kernel_rfl) fun a1 hF1 => ?_
                        refine wpList_nil ?_
                        refine hK54 _ _ ?_
                        refine wp_seq_k fun K55 hK55 => ?_
                        refine wp_seq_k fun K56 hK56 => ?_
                        refine wp_region_lit ?_
                        refine sB 1 [(4, .int .i64 (qN : Int))] hF1 (by kernel_rfl) fun a1 hF1 => ?_
                        refine wl (eN 5 17 (t := 3) (fun b => .slice (some ⟨b, 0, none⟩) 1 1) #[.int .i64 (qN : Int)] hF1 hM (by kernel_rfl) (fun _ => by kernel_rfl) fun bb17 a1 w hF1 hM => ?_)
                        refine wl (eM 6 (v := .bool true) hF1 hM (by kernel_rfl) (yld_call (f := 65) (args := #[.slice (some ⟨bb17, 0, none⟩) 1 1]) hF1 (by kernel_rfl) (fun _ => by kernel_rfl) (fun w hM => inRange_yes (some ⟨bb17, 0, none⟩) [(qN : Int)] 1 w (hM.roRow (k := 17) rfl) (by simp) (by simp; omega))) fun a1 w hF1 hM => ?_)
                        refine sB 1 [(7, .bool false)] hF1 (by kernel_rfl) fun a1 hF1 => ?_
                        refine wpList_nil ?_
                        refine hK56 _ _ ?_
                        refine cF hF1 (by kernel_rfl) (by kernel_rfl) ?_
                        refine wp_skip ?_
                        refine hK55 _ _ ?_
                        refine wp_seq_k fun K57 hK57 => ?_
                        have hab : xa.natAbs ≤ 1125899906842624 ∧ xb.natAbs ≤ 1125899906842624 := by omega
                        have hMb : M ≤ 1267650600228229401496703205376 := by rw [hMM]; exact Nat.le_trans (Nat.mul_le_mul hab.1 hab.2) (by decide)
                        have mul_s : ∀ w : World, Calls Try.prog 66 #[.int .u64 (xa.natAbs : Int), .int .u64 (xb.natAbs : Int)] w (Ret w (.tuple #[.int .u64 (hiN : Int), .int .u64 (loN : Int)])) := fun w => (bits_Mul64 xa.natAbs xb.natAbs (by omega) (by omega) w).mono fun e w' hh => ⟨by rw [hh.1, hhi, hlo], hh.2 ▸ Below.refl _ _⟩
                        refine wp_region_lit ?_
                        refine sB 3 [(8, .int .i64 (qN : Int)), (2, .int .i64 (qN : Int)), (3, .bool true)] hF1 (by kernel_rfl) fun a1 hF1 => ?_
                        refine wpList_nil ?_
                        refine hK57 _ _ ?_
                        refine wp_ret ?_
                        refine hR53 _ _ ?_
                        refine ret_of hF1 hM (.tmp rfl (.tmp rfl (.nil))) ⟨_, rfl, ?_⟩
                        intro a hF
                        refine sB 4 [(60, .int .i64 (qN : Int)), (61, .bool true), (6, .int .i64 (qN : Int)), (7, .bool true)] hF (by kernel_rfl) fun a hF => ?_
                        refine wpList_nil ?_
                        refine hK52 _ _ ?_
                        refine wp_ret ?_
                        refine hR0 _ _ ?_
                        refine ret_of hF hM (.tmp rfl (.tmp rfl (.nil))) ?_
                        have hmd : mdB xa xb xc = true ∧ mdV xa xb xc = (qN : Int) := md_yes (by unfold inR; omega) (fl_pos (q := (qN : Int)) (r := (rN : Int)) (mul_sign_pos (by omega)) hint (by omega) (by omega)) (by unfold inR; omega)
                        exact ⟨ret_eq (by rw [hmd.1, hmd.2]; rfl), hM.bel⟩
            · skip
              refine wp_region_lit ?_
              refine sB 3 [(13, .int .i64 xa), (14, .int .i64 xb), (15, .int .i64 xc)] hF (by kernel_rfl) fun a hF => ?_
              refine wl (eN 16 18 (t := 3) (fun b => .slice (some ⟨b, 0, none⟩) 3 3) #[.int .i64 xa, .int .i64 xb, .int .i64 xc] hF hM (by kernel_rfl) (fun _ => by kernel_rfl) fun bb18 a w hF hM => ?_)
              refine wl (eM 17 (v := .bool false) hF hM (by kernel_rfl) (yld_call (f := 65) (args := #[.slice (some ⟨bb18, 0, none⟩) 3 3]) hF (by kernel_rfl) (fun _ => by kernel_rfl) (fun w hM => inRange_no (some ⟨bb18, 0, none⟩) [xa, xb, xc] 3 w (hM.roRow (k := 18) rfl) (by simp) (by intro hh; simp at hh; omega))) fun a w hF hM => ?_)
              refine sB 5 [(18, .bool true), (19, .bool true), (20, undef), (21, undef), (22, .bool true)] hF (by kernel_rfl) fun a hF => ?_
              refine wpList_nil ?_
              refine hK3 _ _ ?_
              refine cT hF (by kernel_rfl) (by kernel_rfl) ?_
              refine wp_seq_k fun K58 hK58 => ?_
              refine wp_region_lit ?_
              refine sB 2 [(6, .int .i64 0), (7, .bool false)] hF (by kernel_rfl) fun a hF => ?_
              refine wpList_nil ?_
              refine hK58 _ _ ?_
              refine wp_ret ?_
              refine hR0 _ _ ?_
              refine ret_of hF hM (.tmp rfl (.tmp rfl (.nil))) ?_
              have hmd : mdB xa xb xc = false ∧ mdV xa xb xc = 0 := md_arg (by unfold inR; omega)
              exact ⟨ret_eq (by rw [hmd.1, hmd.2]; rfl), hM.bel⟩
          · skip
            refine wp_region_lit ?_
            refine sB 3 [(13, .int .i64 xa), (14, .int .i64 xb), (15, .int .i64 xc)] hF (by kernel_rfl) fun a hF => ?_
            refine wl (eN 16 19 (t := 3) (fun b => .slice (some ⟨b, 0, none⟩) 3 3) #[.int .i64 xa, .int .i64 xb, .int .i64 xc] hF hM (by kernel_rfl) (fun _ => by kernel_rfl) fun bb19 a w hF hM => ?_)
            refine wl (eM 17 (v := .bool false) hF hM (by kernel_rfl) (yld_call (f := 65) (args := #[.slice (some ⟨bb19, 0, none⟩) 3 3]) hF (by kernel_rfl) (fun _ => by kernel_rfl) (fun w hM => inRange_no (some ⟨bb19, 0, none⟩) [xa, xb, xc] 3 w (hM.roRow (k := 19) rfl) (by simp) (by intro hh; simp at hh; omega))) fun a w hF hM => ?_)
            refine sB 5 [(18, .bool true), (19, .bool true), (20, undef), (21, undef), (22, .bool true)] hF (by kernel_rfl) fun a hF => ?_
            refine wpList_nil ?_
            refine hK3 _ _ ?_
            refine cT hF (by kernel_rfl) (by kernel_rfl) ?_
            refine wp_seq_k fun K59 hK59 => ?_
            refine wp_region_lit ?_
            refine sB 2 [(6, .int .i64 0), (7, .bool false)] hF (by kernel_rfl) fun a hF => ?_
            refine wpList_nil ?_
            refine hK59 _ _ ?_
            refine wp_ret ?_
            refine hR0 _ _ ?_
            refine ret_of hF hM (.tmp rfl (.tmp rfl (.nil))) ?_
            have hmd : mdB xa xb xc = false ∧ mdV xa xb xc = 0 := md_arg (by unfold inR; omega)
            exact ⟨ret_eq (by rw [hmd.1, hmd.2]; rfl), hM.bel⟩
        · skip
          refine wp_region_lit ?_
          refine sB 3 [(13, .int .i64 xa), (14, .int .i64 xb), (15, .int .i64 xc)] hF (by kernel_rfl) fun a hF => ?_
          refine wl (eN 16 20 (t := 3) (fun b => .slice (some ⟨b, 0, none⟩) 3 3) #[.int .i64 xa, .int .i64 xb, .int .i64 xc] hF hM (by kernel_rfl) (fun _ => by kernel_rfl) fun bb20 a w hF hM => ?_)
          refine wl (eM 17 (v := .bool false) hF hM (by kernel_rfl) (yld_call (f := 65) (args := #[.slice (some ⟨bb20, 0, none⟩) 3 3]) hF (by kernel_rfl) (fun _ => by kernel_rfl) (fun w hM => inRange_no (some ⟨bb20, 0, none⟩) [xa, xb, xc] 3 w (hM.roRow (k := 20) rfl) (by simp) (by intro hh; simp at hh; omega))) fun a w hF hM => ?_)
          refine sB 5 [(18, .bool true), (19, .bool true), (20, undef), (21, undef), (22, .bool true)] hF (by kernel_rfl) fun a hF => ?_
          refine wpList_nil ?_
          refine hK3 _ _ ?_
          refine cT hF (by kernel_rfl) (by kernel_rfl) ?_
          refine wp_seq_k fun K60 hK60 => ?_
          refine wp_region_lit ?_
          refine sB 2 [(6, .int .i64 0), (7, .bool false)] hF (by kernel_rfl) fun a hF => ?_
          refine wpList_nil ?_
          refine hK60 _ _ ?_
          refine wp_ret ?_
          refine hR0 _ _ ?_
          refine ret_of hF hM (.tmp rfl (.tmp rfl (.nil))) ?_
          have hmd : mdB xa xb xc = false ∧ mdV xa xb xc = 0 := md_arg (by unfold inR; omega)
          exact ⟨ret_eq (by rw [hmd.1, hmd.2]; rfl), hM.bel⟩
      · skip
        refine wp_region_lit ?_
        refine sB 3 [(13, .int .i64 xa), (14, .int .i64 xb), (15, .int .i64 xc)] hF (by kernel_rfl) fun a hF => ?_
        refine wl (eN 16 21 (t := 3) (fun b => .slice (some ⟨b, 0, none⟩) 3 3) #[.int .i64 xa, .int .i64 xb, .int .i64 xc] hF hM (by kernel_rfl) (fun _ => by kernel_rfl) fun bb21 a w hF hM => ?_)
        refine wl (eM 17 (v := .bool false) hF hM (by kernel_rfl) (yld_call (f := 65) (args := #[.slice (some ⟨bb21, 0, none⟩) 3 3]) hF (by kernel_rfl) (fun _ => by kernel_rfl) (fun w hM => inRange_no (some ⟨bb21, 0, none⟩) [xa, xb, xc] 3 w (hM.roRow (k := 21) rfl) (by simp) (by intro hh; simp at hh; omega))) fun a w hF hM => ?_)
        refine sB 5 [(18, .bool true), (19, .bool true), (20, undef), (21, undef), (22, .bool true)] hF (by kernel_rfl) fun a hF => ?_
        refine wpList_nil ?_
        refine hK3 _ _ ?_
        refine cT hF (by kernel_rfl) (by kernel_rfl) ?_
        refine wp_seq_k fun K61 hK61 => ?_
        refine wp_region_lit ?_
        refine sB 2 [(6, .int .i64 0), (7, .bool false)] hF (by kernel_rfl) fun a hF => ?_
        refine wpList_nil ?_
        refine hK61 _ _ ?_
        refine wp_ret ?_
        refine hR0 _ _ ?_
        refine ret_of hF hM (.tmp rfl (.tmp rfl (.nil))) ?_
        have hmd : mdB xa xb xc = false ∧ mdV xa xb xc = 0 := md_arg (by unfold inR; omega)
        exact ⟨ret_eq (by rw [hmd.1, hmd.2]; rfl), hM.bel⟩
    · skip
      refine wp_region_lit ?_
      refine sB 3 [(13, .int .i64 xa), (14, .int .i64 xb), (15, .int .i64 xc)] hF (by kernel_rfl) fun a hF => ?_
      refine wl (eN 16 22 (t := 3) (fun b => .slice (some ⟨b, 0, none⟩) 3 3) #[.int .i64 xa, .int .i64 xb, .int .i64 xc] hF hM (by kernel_rfl) (fun _ => by kernel_rfl) fun bb22 a w hF hM => ?_)
      refine wl (eM 17 (v := .bool false) hF hM (by kernel_rfl) (yld_call (f := 65) (args := #[.slice (some ⟨bb22, 0, none⟩) 3 3]) hF (by kernel_rfl) (fun _ => by kernel_rfl) (fun w hM => inRange_no (some ⟨bb22, 0, none⟩) [xa, xb, xc] 3 w (hM.roRow (k := 22) rfl) (by simp) (by intro hh; simp at hh; omega))) fun a w hF hM => ?_)
      refine sB 5 [(18, .bool true), (19, .bool true), (20, undef), (21, undef), (22, .bool true)] hF (by kernel_rfl) fun a hF => ?_
      refine wpList_nil ?_
      refine hK3 _ _ ?_
      refine cT hF (by kernel_rfl) (by kernel_rfl) ?_
      refine wp_seq_k fun K62 hK62 => ?_
      refine wp_region_lit ?_
      refine sB 2 [(6, .int .i64 0), (7, .bool false)] hF (by kernel_rfl) fun a hF => ?_
      refine wpList_nil ?_
      refine hK62 _ _ ?_
      refine wp_ret ?_
      refine hR0 _ _ ?_
      refine ret_of hF hM (.tmp rfl (.tmp rfl (.nil))) ?_
      have hmd : mdB xa xb xc = false ∧ mdV xa xb xc = 0 := md_arg (by unfold inR; omega)
      exact ⟨ret_eq (by rw [hmd.1, hmd.2]; rfl), hM.bel⟩
  · skip
    refine wp_region_lit ?_
    refine sB 3 [(13, .int .i64 xa), (14, .int .i64 xb), (15, .int .i64 xc)] hF (by kernel_rfl) fun a hF => ?_
    refine wl (eN 16 23 (t := 3) (fun b => .slice (some ⟨b, 0, none⟩) 3 3) #[.int .i64 xa, .int .i64 xb, .int .i64 xc] hF hM (by kernel_rfl) (fun _ => by kernel_rfl) fun bb23 a w hF hM => ?_)
    refine wl (eM 17 (v := .bool false) hF hM (by kernel_rfl) (yld_call (f := 65) (args := #[.slice (some ⟨bb23, 0, none⟩) 3 3]) hF (by kernel_rfl) (fun _ => by kernel_rfl) (fun w hM => inRange_no (some ⟨bb23, 0, none⟩) [xa, xb, xc] 3 w (hM.roRow (k := 23) rfl) (by simp) (by intro hh; simp at hh; omega))) fun a w hF hM => ?_)
    refine sB 5 [(18, .bool true), (19, .bool true), (20, undef), (21, undef), (22, .bool true)] hF (by kernel_rfl) fun a hF => ?_
    refine wpList_nil ?_
    refine hK3 _ _ ?_
    refine cT hF (by kernel_rfl) (by kernel_rfl) ?_
    refine wp_seq_k fun K63 hK63 => ?_
    refine wp_region_lit ?_
    refine sB 2 [(6, .int .i64 0), (7, .bool false)] hF (by kernel_rfl) fun a hF => ?_
    refine wpList_nil ?_
    refine hK63 _ _ ?_
    refine wp_ret ?_
    refine hR0 _ _ ?_
    refine ret_of hF hM (.tmp rfl (.tmp rfl (.nil))) ?_
    have hmd : mdB xa xb xc = false ∧ mdV xa xb xc = 0 := md_arg (by unfold inR; omega)
    exact ⟨ret_eq (by rw [hmd.1, hmd.2]; rfl), hM.bel⟩

end Go.Proofs.Ytoighcbbaacnaaa
