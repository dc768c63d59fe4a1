/-
  The reference of package curve; the laws helpers.
-/
import Derived.Test.YtoighcbbaacnaaaCurveF
namespace Go.Proofs.Ytoighcbbaacnaaa
open Go.RowKit
set_option linter.unusedVariables false
set_option linter.unusedSimpArgs false

theorem take_next {l m : List Int} {k : Nat} (h1 : k < l.length) (h2 : k < m.length) (h : l.take k = m.take k) (e : nt l k = nt m k) : l.take (k + 1) = m.take (k + 1) := by
  rw [List.take_add_one, List.take_add_one, h, nt_some h1, nt_some h2, e]
theorem take_all {l m : List Int} {k : Nat} (h1 : l.length = k) (h2 : m.length = k) (h : l.take k = m.take k) : l = m := by
  rwa [List.take_of_length_le (by omega), List.take_of_length_le (by omega)] at h
theorem same_w (A : Option Addr) (l : List Int) (c : Nat) (B : Option Addr) (m : List Int) (d : Nat) (w0 : World) (hA : Ro w0 A (l.map (Value.int .i64))) (hB : Ro w0 B (m.map (Value.int .i64))) (hm : (l.length : Int) ≤ 1000000) :
    Calls Try.prog 29 #[.slice A l.length c, .slice B m.length d] w0 (Ret w0 (.bool (decide (l = m)))) := by
  refine enterK 26 Try.func29 rfl rfl rfl ?_
  intro a hF Q0 hR0 hN0
  have hM := Mem.start w0
  replace hM := hM.addOld 1 hA (Nat.le_refl _)
  replace hM := hM.addOld 2 hB (Nat.le_refl _)
  refine wp_seq_k fun K1 hK1 => ?_
  refine wp_region_lit ?_
  refine sB 1 [(4, .bool false)] hF (by kernel_rfl) fun a hF => ?_
  refine wpList_nil ?_
  refine hK1 _ _ ?_
  refine wp_seq_k fun K2 hK2 => ?_
  refine wp_seq_k fun K3 hK3 => ?_
  refine wp_region_lit ?_
  refine sB 5 [(6, .slice A l.length c), (7, .int .i64 (l.length : Int)), (8, .slice B m.length d), (9, .int .i64 (m.length : Int)), (10, .bool (!decide ((l.length : Int) = (m.length : Int))))] hF (by kernel_rfl) fun a hF => ?_
  refine wpList_nil ?_
  refine hK3 _ _ ?_
  by_cases hz1 : (l.length : Int) = (m.length : Int)
  · skip
    replace hF := hF.c hF (i := 10) (v := .bool false) rfl (nT hz1)
    refine cF hF (by kernel_rfl) (by kernel_rfl) ?_
    refine wp_skip ?_
    refine hK2 _ _ ?_
    refine wp_seq_k fun K4 hK4 => ?_
    refine wp_seq_k fun K5 hK5 => ?_
    refine wp_region_lit ?_
    refine sB 1 [(5, .int .i64 0)] hF (by kernel_rfl) fun a hF => ?_
    refine wpList_nil ?_
    refine hK5 _ _ ?_
    refine wp_block ?_
    refine wp_loop_k (G := Nat) (fun gg a w => Fr 26 [(5, some (.int .i64 (gg : Int))), (0, some (.slice A l.length c)), (1, some (.slice B m.length d))] a ∧ Mem w0.heap.size w0 [(1, some (.ro A (l.map (Value.int .i64)))), (2, some (.ro B (m.map (Value.int .i64))))] w ∧ ((gg : Int) ≤ (l.length : Int)) ∧ (l.take gg = m.take gg)) (fun gg => l.length - gg) (0) ?_ ?_
    · refine ⟨((((Fr.nil hF).c hF (i := 1) rfl rfl).c hF (i := 0) rfl rfl).c hF (i := 5) rfl (vi (show (0 : Int) = (0 : Int) from by omega))), (hM.sub ((Sub.nil.c (k := 2) rfl rfl).c (k := 1) rfl rfl)), (show (0 : Int) ≤ (l.length : Int) from by omega), (show l.take 0 = m.take 0 from by simp)⟩
    · intro gg a w hI
      intro K6 hK6
      obtain ⟨k, rfl⟩ : ∃ x, x = gg := ⟨_, rfl⟩
      try dsimp only at hI hK6
      obtain ⟨hF, hM, hz2, hz3⟩ := hI
      refine wp_seq_k fun K7 hK7 => ?_
      refine wp_seq_k fun K8 hK8 => ?_
      refine wp_region_lit ?_
      refine sB 4 [(11, .int .i64 (k : Int)), (12, .slice A l.length c), (13, .int .i64 (l.length : Int)), (14, .bool (decide ((k : Int) < (l.length : Int))))] hF (by kernel_rfl) fun a hF => ?_
      refine wpList_nil ?_
      refine hK8 _ _ ?_
      by_cases hz4 : (k : Int) < (l.length : Int)
      · skip
        replace hF := hF.c hF (i := 14) (v := .bool true) rfl (bT hz4)
        refine cT hF (by kernel_rfl) (by kernel_rfl) ?_
        refine wp_skip ?_
        refine hK7 _ _ ?_
        refine wp_seq_k fun K9 hK9 => ?_
        refine wp_block ?_
        refine wp_seq_k fun K10 hK10 => ?_
        refine rQ hM (by kernel_rfl) (by kernel_rfl) ?_
        refine eQ 17 (v0 := .slice A l.length c) (v := .slice A l.length c) hF (by kernel_rfl) (fun _ => by kernel_rfl) rfl fun a hF => ?_
        refine eQ 18 (v0 := .int .i64 (k : Int)) (v := .int .i64 (k : Int)) hF (by kernel_rfl) (fun _ => by kernel_rfl) rfl fun a hF => ?_
        refine eQ2 19 (v := .pointer (some (ea A (k)))) hF (by kernel_rfl) (yld_ix (kd := .i64) (e := 3) (len := l.length) (cap := c) (i := (k : Int)) (size := 1) (A := A) hF rfl (by kernel_rfl) (by kernel_rfl) (by kernel_rfl) (by kernel_rfl) (by kernel_rfl) (roK 1 rfl) (by omega) (by omega) (by rw [List.length_map]; omega)) fun a hF => ?_
        refine eQ2 20 (v := .int .i64 (nt l k)) hF (by kernel_rfl) (yld_ro1 (A := A) (j := k) hF rfl (by kernel_rfl) (by kernel_rfl) (roK 1 rfl) (by kernel_rfl) (nt_at (by omega))) fun a hF => ?_
        refine eQ 21 (v0 := .slice B m.length d) (v := .slice B m.length d) hF (by kernel_rfl) (fun _ => by kernel_rfl) rfl fun a hF => ?_
        refine eQ 22 (v0 := .int .i64 (k : Int)) (v := .int .i64 (k : Int)) hF (by kernel_rfl) (fun _ => by kernel_rfl) rfl fun a hF => ?_
        refine eQ2 23 (v := .pointer (some (ea B (k)))) hF (by kernel_rfl) (yld_ix (kd := .i64) (e := 3) (len := m.length) (cap := d) (i := (k : Int)) (size := 1) (A := B) hF rfl (by kernel_rfl) (by kernel_rfl) (by kernel_rfl) (by kernel_rfl) (by kernel_rfl) (roK 2 rfl) (by omega) (by omega) (by rw [List.length_map]; omega)) fun a hF => ?_
        refine eQ2 24 (v := .int .i64 (nt m k)) hF (by kernel_rfl) (yld_ro1 (A := B) (j := k) hF rfl (by kernel_rfl) (by kernel_rfl) (roK 2 rfl) (by kernel_rfl) (nt_at (by omega))) fun a hF => ?_
        refine eQ 25 (v0 := .bool (!decide (nt l k = nt m k))) (v := .bool (!decide (nt l k = nt m k))) hF (by kernel_rfl) (fun _ => by kernel_rfl) rfl fun a hF => ?_
        refine wpQuiet_nil ?_
        intro w hM
        refine hK10 _ _ ?_
        by_cases hz5 : nt l k = nt m k
        · skip
          replace hF := hF.c hF (i := 25) (v := .bool false) rfl (nT hz5)
          refine cF hF (by kernel_rfl) (by kernel_rfl) ?_
          refine wp_skip ?_
          refine hK9 _ _ ?_
          refine wp_region_lit ?_
          refine sB 1 [(15, .int .i64 (k : Int))] hF (by kernel_rfl) fun a hF => ?_
          refine wl (eP 16 (v0 := .int .i64 (IntKind.i64.wrap ((k : Int) + 1))) (v := .int .i64 ((k : Int) + 1)) hF (by kernel_rfl) (fun _ => by kernel_rfl) (wi (by omega)) fun a hF => ?_)
          refine sB 1 [(5, .int .i64 ((k : Int) + 1))] hF (by kernel_rfl) fun a hF => ?_
          refine wpList_nil ?_
          refine hK6 _ _ ⟨(k + 1), ⟨((((Fr.nil hF).c hF (i := 1) rfl rfl).c hF (i := 0) rfl rfl).c hF (i := 5) rfl (vi (show ((k : Int) + 1 : Int) = ((k + 1) : Int) from by omega))), (hM.sub ((Sub.nil.c (k := 2) rfl rfl).c (k := 1) rfl rfl)), (show ((k + 1) : Int) ≤ (l.length : Int) from by omega), (show l.take (k + 1) = m.take (k + 1) from by exact take_next (by omega) (by omega) (by assumption) (by assumption))⟩, (show l.length - (k + 1) < l.length - k from by omega)⟩
        · skip
          replace hF := hF.c hF (i := 25) (v := .bool true) rfl (nF hz5)
          refine cT hF (by kernel_rfl) (by kernel_rfl) ?_
          refine wp_seq_k fun K11 hK11 => ?_
          refine wp_region_lit ?_
          refine sB 1 [(4, .bool false)] hF (by kernel_rfl) fun a hF => ?_
          refine wpList_nil ?_
          refine hK11 _ _ ?_
          refine wp_ret ?_
          refine hR0 _ _ ?_
          refine ret_of hF hM (.tmp rfl (.nil)) ?_
          exact ⟨ret_bool (decide_eq_false (fun e => by subst e; first | omega | contradiction)).symm, hM.bel⟩
      · skip
        replace hF := hF.c hF (i := 14) (v := .bool false) rfl (bF hz4)
        refine cF hF (by kernel_rfl) (by kernel_rfl) ?_
        refine wp_exit ?_
        refine hK4 _ _ ?_
        refine wp_seq_k fun K12 hK12 => ?_
        refine wp_region_lit ?_
        refine sB 1 [(4, .bool true)] hF (by kernel_rfl) fun a hF => ?_
        refine wpList_nil ?_
        refine hK12 _ _ ?_
        refine wp_ret ?_
        refine hR0 _ _ ?_
        refine ret_of hF hM (.tmp rfl (.nil)) ?_
        exact ⟨ret_bool (decide_eq_true (take_all (k := k) (by omega) (by omega) (by assumption))).symm, hM.bel⟩
  · skip
    replace hF := hF.c hF (i := 10) (v := .bool true) rfl (nF hz1)
    refine cT hF (by kernel_rfl) (by kernel_rfl) ?_
    refine wp_seq_k fun K13 hK13 => ?_
    refine wp_region_lit ?_
    refine sB 1 [(4, .bool false)] hF (by kernel_rfl) fun a hF => ?_
    refine wpList_nil ?_
    refine hK13 _ _ ?_
    refine wp_ret ?_
    refine hR0 _ _ ?_
    refine ret_of hF hM (.tmp rfl (.nil)) ?_
    exact ⟨ret_bool (decide_eq_false (fun e => by subst e; first | omega | contradiction)).symm, hM.bel⟩

theorem same_yes (A : Option Addr) (l : List Int) (c : Nat) (B : Option Addr) (m : List Int) (d : Nat) (w : World) (hA : Ro w A (l.map (Value.int .i64))) (hB : Ro w B (m.map (Value.int .i64))) (hm : (l.length : Int) ≤ 1000000) (h : l = m) :
    Calls Try.prog 29 #[.slice A l.length c, .slice B m.length d] w (Ret w (.bool true)) := by
  have := same_w A l c B m d w hA hB hm
  rwa [decide_eq_true h] at this
theorem drain_bad {r t e : Int} {l : List (Int × Int)} (h : drE r t l = e) (_ : e ≠ 0) {F : FuncId} {vs : Array Value} {w : World} (q : Calls Try.prog F vs w (Ret w (.tuple #[.slice none 0 0, .int .i64 (drE r t l)]))) : Calls Try.prog F vs w (Ret w (.tuple #[.slice none 0 0, .int .i64 e])) := by
  rw [h] at q
  exact q
theorem drain_lit {r t : Int} {l : List (Int × Int)} {S : List Int} {n : Nat} (h : drL r t l n = S) {F : FuncId} {vs : Array Value} {w : World} (q : Calls Try.prog F vs w (RetOwn w (fun v => .tuple #[v, .int .i64 0]) 3 1 n ((drL r t l n).map (Value.int .i64)))) : Calls Try.prog F vs w (RetOwn w (fun v => .tuple #[v, .int .i64 0]) 3 1 n (S.map (Value.int .i64))) := by
  rw [h] at q
  exact q
def dyB (r t n : Int) (l : List (Int × Int)) : Bool := decide (dlV r t l = n ∧ dlE r t l = 0)
theorem right4_yes (r t : Int) (w0 : World) (h : svE r t = 0) :
    Calls Try.prog 37 #[.agg #[.int .i64 r, .int .i64 t]] w0 (Ret w0 (.bool true)) := by
  have h := svE_ok h
  refine enterK 21 Try.func37 rfl rfl rfl ?_
  intro a hF Q0 hR0 hN0
  have hM := Mem.start w0
  refine wp_seq_k fun K1 hK1 => ?_
  refine wp_region_lit ?_
  refine wl (eN 1 1 (t := 23) (fun b => .pointer (some ⟨b, 0, none⟩)) #[.int .i64 r, .int .i64 t] hF hM (by kernel_rfl) (fun _ => by kernel_rfl) fun bb1 a w hF hM => ?_)
  refine sB 1 [(2, .bool false)] hF (by kernel_rfl) fun a hF => ?_
  refine wpList_nil ?_
  refine hK1 _ _ ?_
  refine wp_seq_k fun K2 hK2 => ?_
  refine wp_region_lit ?_
  refine sB 1 [(3, .pointer (some ⟨bb1, 0, none⟩))] hF (by kernel_rfl) fun a hF => ?_
  refine wl (eL 4 1 0 (v := .int .i64 r) hF hM (by kernel_rfl) rfl rfl (by kernel_rfl) (by kernel_rfl) fun a w hF hM => ?_)
  refine wl (eP 5 (v0 := .bool (decide (1 ≤ r))) (v := .bool true) hF (by kernel_rfl) (fun _ => by kernel_rfl) (bT (by omega)) fun a hF => ?_)
  refine sB 2 [(6, .bool true), (7, .pointer (some ⟨bb1, 0, none⟩))] hF (by kernel_rfl) fun a hF => ?_
  refine wl (eL 8 1 0 (v := .int .i64 r) hF hM (by kernel_rfl) rfl rfl (by kernel_rfl) (by kernel_rfl) fun a w hF hM => ?_)
  refine wl (eP 9 (v0 := .bool (decide (r ≤ 2097152))) (v := .bool true) hF (by kernel_rfl) (fun _ => by kernel_rfl) (bT (by omega)) fun a hF => ?_)
  refine sB 3 [(10, .bool true), (11, .bool true), (12, .pointer (some ⟨bb1, 1, none⟩))] hF (by kernel_rfl) fun a hF => ?_
  refine wl (eL 13 1 1 (v := .int .i64 t) hF hM (by kernel_rfl) rfl rfl (by kernel_rfl) (by kernel_rfl) fun a w hF hM => ?_)
  refine wl (eP 14 (v0 := .bool (decide (0 ≤ t))) (v := .bool true) hF (by kernel_rfl) (fun _ => by kernel_rfl) (bT (by omega)) fun a hF => ?_)
  refine sB 3 [(15, .bool true), (16, .bool true), (17, .pointer (some ⟨bb1, 1, none⟩))] hF (by kernel_rfl) fun a hF => ?_
  refine wl (eL 18 1 1 (v := .int .i64 t) hF hM (by kernel_rfl) rfl rfl (by kernel_rfl) (by kernel_rfl) fun a w hF hM => ?_)
  refine wl (eP 19 (v0 := .bool (decide (t ≤ 268435456))) (v := .bool true) hF (by kernel_rfl) (fun _ => by kernel_rfl) (bT (by omega)) fun a hF => ?_)
  refine sB 2 [(20, .bool true), (2, .bool true)] hF (by kernel_rfl) fun a hF => ?_
  refine wpList_nil ?_
  refine hK2 _ _ ?_
  refine wp_ret ?_
  refine hR0 _ _ ?_
  refine ret_of hF hM (.tmp rfl (.nil)) ?_
  exact ⟨rfl, hM.bel⟩

theorem right4_no (r t : Int) (w0 : World) (h : ¬ svE r t = 0) :
    Calls Try.prog 37 #[.agg #[.int .i64 r, .int .i64 t]] w0 (Ret w0 (.bool false)) := by
  have h : ¬ (1 ≤ r ∧ r ≤ 2097152 ∧ 0 ≤ t ∧ t ≤ 268435456) := fun q => h (svE_yes q)
  refine enterK 21 Try.func37 rfl rfl rfl ?_
  intro a hF Q0 hR0 hN0
  have hM := Mem.start w0
  refine wp_seq_k fun K1 hK1 => ?_
  refine wp_region_lit ?_
  refine wl (eN 1 1 (t := 23) (fun b => .pointer (some ⟨b, 0, none⟩)) #[.int .i64 r, .int .i64 t] hF hM (by kernel_rfl) (fun _ => by kernel_rfl) fun bb1 a w hF hM => ?_)
  refine sB 1 [(2, .bool false)] hF (by kernel_rfl) fun a hF => ?_
  refine wpList_nil ?_
  refine hK1 _ _ ?_
  refine wp_seq_k fun K2 hK2 => ?_
  by_cases hz1 : 1 ≤ r
  · skip
    by_cases hz2 : r ≤ 2097152
    · skip
      by_cases hz3 : 0 ≤ t
      · skip
        refine wp_region_lit ?_
        refine sB 1 [(3, .pointer (some ⟨bb1, 0, none⟩))] hF (by kernel_rfl) fun a hF => ?_
        refine wl (eL 4 1 0 (v := .int .i64 r) hF hM (by kernel_rfl) rfl rfl (by kernel_rfl) (by kernel_rfl) fun a w hF hM => ?_)
        refine wl (eP 5 (v0 := .bool (decide (1 ≤ r))) (v := .bool true) hF (by kernel_rfl) (fun _ => by kernel_rfl) (bT hz1) fun a hF => ?_)
        refine sB 2 [(6, .bool true), (7, .pointer (some ⟨bb1, 0, none⟩))] hF (by kernel_rfl) fun a hF => ?_
        refine wl (eL 8 1 0 (v := .int .i64 r) hF hM (by kernel_rfl) rfl rfl (by kernel_rfl) (by kernel_rfl) fun a w hF hM => ?_)
        refine wl (eP 9 (v0 := .bool (decide (r ≤ 2097152))) (v := .bool true) hF (by kernel_rfl) (fun _ => by kernel_rfl) (bT hz2) fun a hF => ?_)
        refine sB 3 [(10, .bool true), (11, .bool true), (12, .pointer (some ⟨bb1, 1, none⟩))] hF (by kernel_rfl) fun a hF => ?_
        refine wl (eL 13 1 1 (v := .int .i64 t) hF hM (by kernel_rfl) rfl rfl (by kernel_rfl) (by kernel_rfl) fun a w hF hM => ?_)
        refine wl (eP 14 (v0 := .bool (decide (0 ≤ t))) (v := .bool true) hF (by kernel_rfl) (fun _ => by kernel_rfl) (bT hz3) fun a hF => ?_)
        refine sB 3 [(15, .bool true), (16, .bool true), (17, .pointer (some ⟨bb1, 1, none⟩))] hF (by kernel_rfl) fun a hF => ?_
        refine wl (eL 18 1 1 (v := .int .i64 t) hF hM (by kernel_rfl) rfl rfl (by kernel_rfl) (by kernel_rfl) fun a w hF hM => ?_)
        refine sB 3 [(19, .bool (decide (t ≤ 268435456))), (20, .bool (decide (t ≤ 268435456))), (2, .bool (decide (t ≤ 268435456)))] hF (by kernel_rfl) fun a hF => ?_
        refine wpList_nil ?_
        refine hK2 _ _ ?_
        refine wp_ret ?_
        refine hR0 _ _ ?_
        refine ret_of hF hM (.tmp rfl (.nil)) ?_
        exact ⟨ret_bool (decide_eq_false (by omega)), hM.bel⟩
      · skip
        refine wp_region_lit ?_
        refine sB 1 [(3, .pointer (some ⟨bb1, 0, none⟩))] hF (by kernel_rfl) fun a hF => ?_
        refine wl (eL 4 1 0 (v := .int .i64 r) hF hM (by kernel_rfl) rfl rfl (by kernel_rfl) (by kernel_rfl) fun a w hF hM => ?_)
        refine wl (eP 5 (v0 := .bool (decide (1 ≤ r))) (v := .bool true) hF (by kernel_rfl) (fun _ => by kernel_rfl) (bT hz1) fun a hF => ?_)
        refine sB 2 [(6, .bool true), (7, .pointer (some ⟨bb1, 0, none⟩))] hF (by kernel_rfl) fun a hF => ?_
        refine wl (eL 8 1 0 (v := .int .i64 r) hF hM (by kernel_rfl) rfl rfl (by kernel_rfl) (by kernel_rfl) fun a w hF hM => ?_)
        refine wl (eP 9 (v0 := .bool (decide (r ≤ 2097152))) (v := .bool true) hF (by kernel_rfl) (fun _ => by kernel_rfl) (bT hz2) fun a hF => ?_)
        refine sB 3 [(10, .bool true), (11, .bool true), (12, .pointer (some ⟨bb1, 1, none⟩))] hF (by kernel_rfl) fun a hF => ?_
        refine wl (eL 13 1 1 (v := .int .i64 t) hF hM (by kernel_rfl) rfl rfl (by kernel_rfl) (by kernel_rfl) fun a w hF hM => ?_)
        refine wl (eP 14 (v0 := .bool (decide (0 ≤ t))) (v := .bool false) hF (by kernel_rfl) (fun _ => by kernel_rfl) (bF hz3) fun a hF => ?_)
        refine sB 7 [(15, .bool false), (16, .bool false), (17, undef), (18, undef), (19, undef), (20, .bool false), (2, .bool false)] hF (by kernel_rfl) fun a hF => ?_
        refine wpList_nil ?_
        refine hK2 _ _ ?_
        refine wp_ret ?_
        refine hR0 _ _ ?_
        refine ret_of hF hM (.tmp rfl (.nil)) ?_
        exact ⟨rfl, hM.bel⟩
    · skip
      refine wp_region_lit ?_
      refine sB 1 [(3, .pointer (some ⟨bb1, 0, none⟩))] hF (by kernel_rfl) fun a hF => ?_
      refine wl (eL 4 1 0 (v := .int .i64 r) hF hM (by kernel_rfl) rfl rfl (by kernel_rfl) (by kernel_rfl) fun a w hF hM => ?_)
      refine wl (eP 5 (v0 := .bool (decide (1 ≤ r))) (v := .bool true) hF (by kernel_rfl) (fun _ => by kernel_rfl) (bT hz1) fun a hF => ?_)
      refine sB 2 [(6, .bool true), (7, .pointer (some ⟨bb1, 0, none⟩))] hF (by kernel_rfl) fun a hF => ?_
      refine wl (eL 8 1 0 (v := .int .i64 r) hF hM (by kernel_rfl) rfl rfl (by kernel_rfl) (by kernel_rfl) fun a w hF hM => ?_)
      refine wl (eP 9 (v0 := .bool (decide (r ≤ 2097152))) (v := .bool false) hF (by kernel_rfl) (fun _ => by kernel_rfl) (bF hz2) fun a hF => ?_)
      refine sB 12 [(10, .bool false), (11, .bool false), (12, undef), (13, undef), (14, undef), (15, .bool false), (16, .bool false), (17, undef), (18, undef), (19, undef), (20, .bool false), (2, .bool false)] hF (by kernel_rfl) fun a hF => ?_
      refine wpList_nil ?_
      refine hK2 _ _ ?_
      refine wp_ret ?_
      refine hR0 _ _ ?_
      refine ret_of hF hM (.tmp rfl (.nil)) ?_
      exact ⟨rfl, hM.bel⟩
  · skip
    refine wp_region_lit ?_
    refine sB 1 [(3, .pointer (some ⟨bb1, 0, none⟩))] hF (by kernel_rfl) fun a hF => ?_
    refine wl (eL 4 1 0 (v := .int .i64 r) hF hM (by kernel_rfl) rfl rfl (by kernel_rfl) (by kernel_rfl) fun a w hF hM => ?_)
    refine wl (eP 5 (v0 := .bool (decide (1 ≤ r))) (v := .bool false) hF (by kernel_rfl) (fun _ => by kernel_rfl) (bF hz1) fun a hF => ?_)
    refine sB 16 [(6, .bool false), (7, undef), (8, undef), (9, undef), (10, .bool false), (11, .bool false), (12, undef), (13, undef), (14, undef), (15, .bool false), (16, .bool false), (17, undef), (18, undef), (19, undef), (20, .bool false), (2, .bool false)] hF (by kernel_rfl) fun a hF => ?_
    refine wpList_nil ?_
    refine hK2 _ _ ?_
    refine wp_ret ?_
    refine hR0 _ _ ?_
    refine ret_of hF hM (.tmp rfl (.nil)) ?_
    exact ⟨rfl, hM.bel⟩

theorem rCheck4_w (r t : Int) (w0 : World) :
    Calls Try.prog 17 #[.agg #[.int .i64 r, .int .i64 t]] w0 (Ret w0 (.int .i64 (svE r t))) := by
  refine enterK 6 Try.func17 rfl rfl rfl ?_
  intro a hF Q0 hR0 hN0
  have hM := Mem.start w0
  refine wp_seq_k fun K1 hK1 => ?_
  refine wp_region_lit ?_
  refine wl (eN 1 1 (t := 23) (fun b => .pointer (some ⟨b, 0, none⟩)) #[.int .i64 r, .int .i64 t] hF hM (by kernel_rfl) (fun _ => by kernel_rfl) fun bb1 a w hF hM => ?_)
  refine sB 1 [(2, .int .i64 0)] hF (by kernel_rfl) fun a hF => ?_
  refine wpList_nil ?_
  refine hK1 _ _ ?_
  refine wp_seq_k fun K2 hK2 => ?_
  refine wp_seq_k fun K3 hK3 => ?_
  by_cases hz1 : svE r t = 0
  · skip
    have hz2 := svE_ok hz1
    refine wp_region_lit ?_
    refine wl (eL 3 1 0 (v := .agg #[.int .i64 r, .int .i64 t]) hF hM (by kernel_rfl) rfl rfl (by kernel_rfl) (by kernel_rfl) fun a w hF hM => ?_)
    refine wl (eM 4 (v := .bool true) hF hM (by kernel_rfl) (yld_call (f := 37) (args := #[.agg #[.int .i64 r, .int .i64 t]]) hF (by kernel_rfl) (fun _ => by kernel_rfl) (fun w hM => right4_yes r t w hz1)) fun a w hF hM => ?_)
    refine sB 1 [(5, .bool false)] hF (by kernel_rfl) fun a hF => ?_
    refine wpList_nil ?_
    refine hK3 _ _ ?_
    refine cF hF (by kernel_rfl) (by kernel_rfl) ?_
    refine wp_skip ?_
    refine hK2 _ _ ?_
    refine wp_seq_k fun K4 hK4 => ?_
    refine wp_region_lit ?_
    refine sB 1 [(2, .int .i64 0)] hF (by kernel_rfl) fun a hF => ?_
    refine wpList_nil ?_
    refine hK4 _ _ ?_
    refine wp_ret ?_
    refine hR0 _ _ ?_
    refine ret_of hF hM (.tmp rfl (.nil)) ?_
    exact ⟨ret_int (hz1).symm, hM.bel⟩
  · skip
    refine wp_region_lit ?_
    refine wl (eL 3 1 0 (v := .agg #[.int .i64 r, .int .i64 t]) hF hM (by kernel_rfl) rfl rfl (by kernel_rfl) (by kernel_rfl) fun a w hF hM => ?_)
    refine wl (eM 4 (v := .bool false) hF hM (by kernel_rfl) (yld_call (f := 37) (args := #[.agg #[.int .i64 r, .int .i64 t]]) hF (by kernel_rfl) (fun _ => by kernel_rfl) (fun w hM => right4_no r t w hz1)) fun a w hF hM => ?_)
    refine sB 1 [(5, .bool true)] hF (by kernel_rfl) fun a hF => ?_
    refine wpList_nil ?_
    refine hK3 _ _ ?_
    refine cT hF (by kernel_rfl) (by kernel_rfl) ?_
    refine wp_seq_k fun K5 hK5 => ?_
    refine wp_region_lit ?_
    refine sB 1 [(2, .int .i64 140)] hF (by kernel_rfl) fun a hF => ?_
    refine wpList_nil ?_
    refine hK5 _ _ ?_
    refine wp_ret ?_
    refine hR0 _ _ ?_
    refine ret_of hF hM (.tmp rfl (.nil)) ?_
    exact ⟨ret_int (svE_no hz1).symm, hM.bel⟩

theorem rOf4_w (xa xb : Int) (w0 : World) (h : 0 ≤ xa ∧ xa ≤ 4294967295 ∧ 0 ≤ xb ∧ xb ≤ 4294967295) :
    Calls Try.prog 13 #[.int .u32 xa, .int .u32 xb] w0 (Ret w0 (.agg #[.int .i64 (1 + xa % 2097152), .int .i64 (xb % 268435457)])) := by
  refine enterK 13 Try.func13 rfl rfl rfl ?_
  intro a hF Q0 hR0 hN0
  have hM := Mem.start w0
  refine wp_seq_k fun K1 hK1 => ?_
  refine wp_region_lit ?_
  refine wl (eN 4 1 (t := 23) (fun b => .pointer (some ⟨b, 0, none⟩)) #[.int .i64 0, .int .i64 0] hF hM (by kernel_rfl) (fun _ => by kernel_rfl) fun bb1 a w hF hM => ?_)
  refine wpList_nil ?_
  refine hK1 _ _ ?_
  refine wp_seq_k fun K2 hK2 => ?_
  refine wp_region_lit ?_
  refine sB 1 [(5, .int .u32 xa)] hF (by kernel_rfl) fun a hF => ?_
  refine wl (eM 6 (v := .int .u32 (xa % 2097152)) hF hM (by kernel_rfl) (yld_rem xa 2097152 hF rfl (by kernel_rfl) (by kernel_rfl) (by kernel_rfl) (by decide) (Int.tmod_eq_emod_of_nonneg (by omega))) fun a w hF hM => ?_)
  refine wl (eP 7 (v0 := .int .i64 (IntKind.i64.wrap (xa % 2097152))) (v := .int .i64 (xa % 2097152)) hF (by kernel_rfl) (fun _ => by kernel_rfl) (vi (IntWalk.i64_in _ (by omega))) fun a hF => ?_)
  refine wl (eP 8 (v0 := .int .i64 (IntKind.i64.wrap (1 + xa % 2097152))) (v := .int .i64 (1 + xa % 2097152)) hF (by kernel_rfl) (fun _ => by kernel_rfl) (wi (by omega)) fun a hF => ?_)
  refine sB 1 [(9, .int .u32 xb)] hF (by kernel_rfl) fun a hF => ?_
  refine wl (eM 10 (v := .int .u32 (xb % 268435457)) hF hM (by kernel_rfl) (yld_rem xb 268435457 hF rfl (by kernel_rfl) (by kernel_rfl) (by kernel_rfl) (by decide) (Int.tmod_eq_emod_of_nonneg (by omega))) fun a w hF hM => ?_)
  refine wl (eP 11 (v0 := .int .i64 (IntKind.i64.wrap (xb % 268435457))) (v := .int .i64 (xb % 268435457)) hF (by kernel_rfl) (fun _ => by kernel_rfl) (vi (IntWalk.i64_in _ (by omega))) fun a hF => ?_)
  refine sB 1 [(12, .agg #[.int .i64 (1 + xa % 2097152), .int .i64 (xb % 268435457)])] hF (by kernel_rfl) fun a hF => ?_
  refine wl (sStore (i := 1) (off := 0) (cs' := #[.int .i64 (1 + xa % 2097152), .int .i64 (xb % 268435457)]) hF hM (by kernel_rfl) rfl rfl (by kernel_rfl) (by kernel_rfl) rfl (by kernel_rfl) fun w hM => ?_)
  refine wpList_nil ?_
  refine hK2 _ _ ?_
  refine wp_ret ?_
  refine hR0 _ _ ?_
  refine ret_of hF hM (.cell (i := 1) rfl rfl (v := .agg #[.int .i64 (1 + xa % 2097152), .int .i64 (xb % 268435457)]) (by kernel_rfl) (.nil)) ?_
  exact ⟨rfl, hM.bel⟩

theorem delayed_w (r t n : Int) (A : Option Addr) (l : List (Int × Int)) (c : Nat) (w0 : World) (hA : Ro w0 A (flat2 l)) :
    Calls Try.prog 31 #[.agg #[.int .i64 r, .int .i64 t], .int .i64 n, .slice A l.length c] w0 (Ret w0 (.bool (dyB r t n l))) := by
  refine enterK 22 Try.func31 rfl rfl rfl ?_
  intro a hF Q0 hR0 hN0
  have hM := Mem.start w0
  replace hM := hM.addOld 1 hA (Nat.le_refl _)
  refine wp_seq_k fun K1 hK1 => ?_
  refine wp_region_lit ?_
  refine wl (eN 3 2 (t := 23) (fun b => .pointer (some ⟨b, 0, none⟩)) #[.int .i64 r, .int .i64 t] hF hM (by kernel_rfl) (fun _ => by kernel_rfl) fun bb1 a w hF hM => ?_)
  refine sB 1 [(6, .bool false)] hF (by kernel_rfl) fun a hF => ?_
  refine wpList_nil ?_
  refine hK1 _ _ ?_
  refine wp_seq_k fun K2 hK2 => ?_
  refine wp_region_lit ?_
  refine sB 1 [(10, .slice A l.length c)] hF (by kernel_rfl) fun a hF => ?_
  refine wl (eL 11 2 0 (v := .agg #[.int .i64 r, .int .i64 t]) hF hM (by kernel_rfl) rfl rfl (by kernel_rfl) (by kernel_rfl) fun a w hF hM => ?_)
  refine wl (eM 12 (v := .tuple #[.int .i64 (dlV r t l), .int .i64 (dlE r t l)]) hF hM (by kernel_rfl) (yld_call (f := 20) (args := #[.slice A l.length c, .agg #[.int .i64 r, .int .i64 t]]) hF (by kernel_rfl) (fun _ => by kernel_rfl) (fun w hM => delay_w r t A l _ w (hM.ok 1 _ rfl))) fun a w hF hM => ?_)
  refine sB 5 [(9, .tuple #[.int .i64 (dlV r t l), .int .i64 (dlE r t l)]), (13, .int .i64 (dlV r t l)), (14, .int .i64 (dlE r t l)), (7, .int .i64 (dlV r t l)), (8, .int .i64 (dlE r t l))] hF (by kernel_rfl) fun a hF => ?_
  refine wpList_nil ?_
  refine hK2 _ _ ?_
  refine wp_seq_k fun K3 hK3 => ?_
  by_cases hz1 : dlV r t l = n
  · skip
    refine wp_region_lit ?_
    refine sB 2 [(15, .int .i64 (dlV r t l)), (16, .int .i64 n)] hF (by kernel_rfl) fun a hF => ?_
    refine wl (eP 17 (v0 := .bool (decide (dlV r t l = n))) (v := .bool true) hF (by kernel_rfl) (fun _ => by kernel_rfl) (bT hz1) fun a hF => ?_)
    refine sB 5 [(18, .bool true), (19, .int .i64 (dlE r t l)), (20, .bool (decide (dlE r t l = 0))), (21, .bool (decide (dlE r t l = 0))), (6, .bool (decide (dlE r t l = 0)))] hF (by kernel_rfl) fun a hF => ?_
    refine wpList_nil ?_
    refine hK3 _ _ ?_
    refine wp_ret ?_
    refine hR0 _ _ ?_
    refine ret_of hF hM (.tmp rfl (.nil)) ?_
    exact ⟨ret_bool (by unfold dyB; simp_all), hM.bel⟩
  · skip
    refine wp_region_lit ?_
    refine sB 2 [(15, .int .i64 (dlV r t l)), (16, .int .i64 n)] hF (by kernel_rfl) fun a hF => ?_
    refine wl (eP 17 (v0 := .bool (decide (dlV r t l = n))) (v := .bool false) hF (by kernel_rfl) (fun _ => by kernel_rfl) (bF hz1) fun a hF => ?_)
    refine sB 5 [(18, .bool false), (19, undef), (20, undef), (21, .bool false), (6, .bool false)] hF (by kernel_rfl) fun a hF => ?_
    refine wpList_nil ?_
    refine hK3 _ _ ?_
    refine wp_ret ?_
    refine hR0 _ _ ?_
    refine ret_of hF hM (.tmp rfl (.nil)) ?_
    exact ⟨ret_bool (by unfold dyB; simp_all), hM.bel⟩

end Go.Proofs.Ytoighcbbaacnaaa
