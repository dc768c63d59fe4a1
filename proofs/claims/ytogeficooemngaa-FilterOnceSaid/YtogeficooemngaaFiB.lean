/-
  find, over registrations.
-/
import Derived.Test.YtogeficooemngaaFiA
namespace Go.Proofs.Ytogeficooemngaa
open Go.RowKit
set_option linter.unusedVariables false
set_option linter.unusedSimpArgs false

/-- The first index with a property, or -1. -/
def fnd (p : Nat → Bool) (n : Nat) : Int := (((List.range n).find? p).map fun j : Nat => (j : Int)).getD (-1)
theorem fnd_none {p : Nat → Bool} {n : Nat} (h : ∀ j, j < n → p j = false) : fnd p n = -1 := by
  have : (List.range n).find? p = none := by
    rw [List.find?_eq_none]
    intro j hj
    rw [h j (List.mem_range.1 hj)]
    decide
  unfold fnd
  rw [this]
  rfl
theorem fnd_some {p : Nat → Bool} {n k : Nat} (hk : k < n) (hp : p k = true) (h : ∀ j, j < k → p j = false) : fnd p n = k := by
  have : (List.range n).find? p = some k := by
    rw [List.find?_range_eq_some]
    exact ⟨hp, List.mem_range.2 hk, fun j hj => by rw [h j hj]; decide⟩
  unfold fnd
  rw [this]
  rfl
theorem no_next {p : Nat → Bool} {k : Nat} (h : ∀ j, j < k → p j = false) (hk : p k = false) : ∀ j, j < k + 1 → p j = false := fun j hj => by
  by_cases e : j = k
  · subst e; exact hk
  · exact h j (by omega)
def sameA (ap ast : Int) (l : List (List Int)) (j : Nat) : Bool := decide (rc l j 0 = ap ∧ rc l j 1 = ast)
set_option maxRecDepth 100000 in
theorem find1_w (ap ast ac asz ad ae al : Int) (B : Nat) (A : Option Addr) (l : List (List Int)) (cl : Nat) (w0 : World) (hA : Ro w0 A (flatR l)) (hW : WR 7 l) (hl : l.length ≤ 64) (hB : Ro w0 (some ⟨B, 0, none⟩) [.int .i64 ap, .int .i64 ast, .int .i64 ac, .int .i64 asz, .int .i64 ad, .int .i64 ae, .int .i64 al]) :
    Calls Try.prog 46 #[.slice A l.length cl, .func (.func 44) #[] #[.pointer (some ⟨B, 0, none⟩)]] w0 (Ret w0 (.int .i64 (fnd (sameA ap ast l) l.length))) := by
 refine enterK 19 Try.func46 rfl rfl rfl ?_
 intro a hF Q0 hR0 hN0
 have hM := Mem.start w0
 replace hM := hM.addOld 1 hA (Nat.le_refl _)
 replace hM := hM.addOld 2 hB (Nat.le_refl _)
 refine wp_seq_k fun K1 hK1 => ?_
 refine wp_region_lit ?_
 refine sB 1 [(4, .int .i64 0)] hF (by kernel_rfl) fun a hF => ?_
 refine wpList_nil ?_
 refine hK1 _ _ ?_
 refine wp_seq_k fun K2 hK2 => ?_
 refine wp_seq_k fun K3 hK3 => ?_
 refine wp_region_lit ?_
 refine sB 3 [(7, .slice A l.length cl), (8, .int .i64 (l.length : Int)), (9, .int .i64 0)] hF (by kernel_rfl) fun a hF => ?_
 refine wpList_nil ?_
 refine hK3 _ _ ?_
 refine wp_block ?_
 refine wp_loop_k (G := Nat) (fun gg a w => Fr 19 [(9, some (.int .i64 (gg : Int))), (1, some (.func (.func 44) #[] #[.pointer (some ⟨B, 0, none⟩)])), (7, some (.slice A l.length cl)), (8, some (.int .i64 (l.length : Int)))] a ∧ Mem w0.heap.size w0 [(1, some (.ro A (flatR l))), (2, some (.ro (some ⟨B, 0, none⟩) [.int .i64 ap, .int .i64 ast, .int .i64 ac, .int .i64 asz, .int .i64 ad, .int .i64 ae, .int .i64 al]))] w ∧ ((gg : Int) ≤ (l.length : Int)) ∧ (∀ j, j < gg → sameA ap ast l j = false)) (fun gg => l.length - gg) (0) ?_ ?_
 ·refine ⟨(((((Fr.nil hF).c hF (i := 8) rfl rfl).c hF (i := 7) rfl rfl).c hF (i := 1) rfl rfl).c hF (i := 9) rfl (vi (show (0 : Int) = (0 : Int) from by omega))), (hM.sub ((Sub.nil.c (k := 2) rfl rfl).c (k := 1) rfl rfl)), (show (0 : Int) ≤ (l.length : Int) from by omega), (show ∀ j, j < 0 → sameA ap ast l j = false from by exact fun j hj => by omega)⟩
 ·intro gg a w hI
  intro K4 hK4
  obtain ⟨k, rfl⟩ : ∃ x, x = gg := ⟨_, rfl⟩
  try dsimp only at hI hK4
  obtain ⟨hF, hM, hz1, hz2⟩ := hI
  refine wp_seq_k fun K5 hK5 => ?_
  refine wp_region_lit ?_
  refine sB 1 [(10, .bool (decide ((k : Int) < (l.length : Int))))] hF (by kernel_rfl) fun a hF => ?_
  refine wpList_nil ?_
  refine hK5 _ _ ?_
  refine wp_seq_k fun K6 hK6 => ?_
  by_cases hz3 : (k : Int) < (l.length : Int)
  ·skip
   replace hF := hF.c hF (i := 10) (v := .bool true) rfl (bT hz3)
   refine cT hF (by kernel_rfl) (by kernel_rfl) ?_
   refine wp_skip ?_
   refine hK6 _ _ ?_
   refine wp_seq_k fun K7 hK7 => ?_
   refine wp_block ?_
   refine wp_seq_k fun K8 hK8 => ?_
   refine wp_region_lit ?_
   refine sB 1 [(11, .int .i64 (k : Int))] hF (by kernel_rfl) fun a hF => ?_
   refine wl (eM 12 (v := .pointer (some (ea A (k * 7)))) hF hM (by kernel_rfl) (yld_ix (kd := .i64) (e := 57) (len := l.length) (cap := cl) (i := (k : Int)) (size := 7) (A := A) hF rfl (by kernel_rfl) (by kernel_rfl) (by kernel_rfl) (by kernel_rfl) (by kernel_rfl) (roK 1 rfl) (by omega) (by omega) (by rw [flatR_length hW]; (try simp only [List.length_map, List.length_append, List.length_replicate, List.length_set, List.length_cons, List.length_nil, flat2_length, List.length_take]); omega)) fun a w hF hM => ?_)
   refine wl (eM 13 (v := .agg #[.int .i64 (rc l k 0), .int .i64 (rc l k 1), .int .i64 (rc l k 2), .int .i64 (rc l k 3), .int .i64 (rc l k 4), .int .i64 (rc l k 5), .int .i64 (rc l k 6)]) hF hM (by kernel_rfl) (yld_roM (A := A) (j := k * 7) (us := [.int .i64 (rc l k 0), .int .i64 (rc l k 1), .int .i64 (rc l k 2), .int .i64 (rc l k 3), .int .i64 (rc l k 4), .int .i64 (rc l k 5), .int .i64 (rc l k 6)]) hF rfl (by kernel_rfl) (by kernel_rfl) (roK 1 rfl) (by kernel_rfl) rfl (rc_sub (k := k) (f := 0) (m := 7) hW (by omega) (by decide) rfl)) fun a w hF hM => ?_)
   refine wl (eN 6 3 (t := 57) (fun b => .pointer (some ⟨b, 0, none⟩)) #[.int .i64 0, .int .i64 0, .int .i64 0, .int .i64 0, .int .i64 0, .int .i64 0, .int .i64 0] hF hM (by kernel_rfl) (fun _ => by kernel_rfl) fun bb1 a w hF hM => ?_)
   refine sB 1 [(5, .int .i64 (k : Int))] hF (by kernel_rfl) fun a hF => ?_
   refine wl (sStore (i := 3) (off := 0) (cs' := #[.int .i64 (rc l k 0), .int .i64 (rc l k 1), .int .i64 (rc l k 2), .int .i64 (rc l k 3), .int .i64 (rc l k 4), .int .i64 (rc l k 5), .int .i64 (rc l k 6)]) hF hM (by kernel_rfl) rfl rfl (by kernel_rfl) (by kernel_rfl) rfl (by kernel_rfl) fun w hM => ?_)
   refine wpList_nil ?_
   refine hK8 _ _ ?_
   refine wp_seq_k fun K9 hK9 => ?_
   refine wp_region_lit ?_
   refine sB 1 [(14, .func (.func 44) #[] #[.pointer (some ⟨B, 0, none⟩)])] hF (by kernel_rfl) fun a hF => ?_
   refine wl (eL 15 3 0 (v := .agg #[.int .i64 (rc l k 0), .int .i64 (rc l k 1), .int .i64 (rc l k 2), .int .i64 (rc l k 3), .int .i64 (rc l k 4), .int .i64 (rc l k 5), .int .i64 (rc l k 6)]) hF hM (by kernel_rfl) rfl rfl (by kernel_rfl) (by kernel_rfl) fun a w hF hM => ?_)
   refine wl (sC (f := 44) (args := #[.agg #[.int .i64 (rc l k 0), .int .i64 (rc l k 1), .int .i64 (rc l k 2), .int .i64 (rc l k 3), .int .i64 (rc l k 4), .int .i64 (rc l k 5), .int .i64 (rc l k 6)], .pointer (some ⟨B, 0, none⟩)]) hF (by kernel_rfl) rfl (by decide) (by kernel_rfl) (fun _ => by kernel_rfl) ?_)
   refine enterK 16 Try.func44 rfl rfl rfl ?_
   intro a1 hF1 QR10 hR10 hNR10
   refine wp_seq_k fun K11 hK11 => ?_
   refine wp_region_lit ?_
   refine wl (eN 2 4 (t := 57) (fun b => .pointer (some ⟨b, 0, none⟩)) #[.int .i64 (rc l k 0), .int .i64 (rc l k 1), .int .i64 (rc l k 2), .int .i64 (rc l k 3), .int .i64 (rc l k 4), .int .i64 (rc l k 5), .int .i64 (rc l k 6)] hF1 hM (by kernel_rfl) (fun _ => by kernel_rfl) fun bb2 a1 w hF1 hM => ?_)
   refine sB 1 [(3, .bool false)] hF1 (by kernel_rfl) fun a1 hF1 => ?_
   refine wpList_nil ?_
   refine hK11 _ _ ?_
   refine wp_seq_k fun K12 hK12 => ?_
   by_cases hz4 : rc l k 0 = ap
   ·skip
    refine wp_region_lit ?_
    refine sB 1 [(4, .pointer (some ⟨bb2, 0, none⟩))] hF1 (by kernel_rfl) fun a1 hF1 => ?_
    refine wl (eL 5 4 0 (v := .int .i64 (rc l k 0)) hF1 hM (by kernel_rfl) rfl rfl (by kernel_rfl) (by kernel_rfl) fun a1 w hF1 hM => ?_)
    refine sB 1 [(6, .pointer (some ⟨B, 0, none⟩))] hF1 (by kernel_rfl) fun a1 hF1 => ?_
    refine wl (eM 7 (v := .int .i64 ap) hF1 hM (by kernel_rfl) (yld_ro1 (A := (some ⟨B, 0, none⟩)) (j := 0) hF1 rfl (by kernel_rfl) (by kernel_rfl) (roK 2 rfl) (by kernel_rfl) rfl) fun a1 w hF1 hM => ?_)
    refine wl (eP 8 (v0 := .bool (decide (rc l k 0 = ap))) (v := .bool true) hF1 (by kernel_rfl) (fun _ => by kernel_rfl) (bT hz4) fun a1 hF1 => ?_)
    refine sB 2 [(9, .bool true), (10, .pointer (some ⟨bb2, 1, none⟩))] hF1 (by kernel_rfl) fun a1 hF1 => ?_
    refine wl (eL 11 4 1 (v := .int .i64 (rc l k 1)) hF1 hM (by kernel_rfl) rfl rfl (by kernel_rfl) (by kernel_rfl) fun a1 w hF1 hM => ?_)
    refine sB 1 [(12, .pointer (some ⟨B, 1, none⟩))] hF1 (by kernel_rfl) fun a1 hF1 => ?_
    refine wl (eM 13 (v := .int .i64 ast) hF1 hM (by kernel_rfl) (yld_ro1 (A := (some ⟨B, 0, none⟩)) (j := 1) hF1 rfl (by kernel_rfl) (by kernel_rfl) (roK 2 rfl) (by kernel_rfl) rfl) fun a1 w hF1 hM => ?_)
    refine sB 3 [(14, .bool (decide (rc l k 1 = ast))), (15, .bool (decide (rc l k 1 = ast))), (3, .bool (decide (rc l k 1 = ast)))] hF1 (by kernel_rfl) fun a1 hF1 => ?_
    refine wpList_nil ?_
    refine hK12 _ _ ?_
    refine wp_ret ?_
    refine hR10 _ _ ?_
    refine ret_of hF1 hM (.tmp rfl (.nil)) ⟨_, rfl, ?_⟩
    intro a hF
    refine wpList_nil ?_
    refine hK9 _ _ ?_
    by_cases hz5 : rc l k 1 = ast
    ·skip
     replace hF := hF.c hF (i := 16) (v := .bool true) rfl (bT hz5)
     refine cT hF (by kernel_rfl) (by kernel_rfl) ?_
     refine wp_seq_k fun K13 hK13 => ?_
     refine wp_region_lit ?_
     refine sB 2 [(17, .int .i64 (k : Int)), (4, .int .i64 (k : Int))] hF (by kernel_rfl) fun a hF => ?_
     refine wpList_nil ?_
     refine hK13 _ _ ?_
     refine wp_ret ?_
     refine hR0 _ _ ?_
     refine ret_of hF hM (.tmp rfl (.nil)) ?_
     exact ⟨ret_int (fnd_some (k := k) (by omega) (decide_eq_true (by omega)) (by assumption)).symm, hM.bel⟩
    ·skip
     replace hF := hF.c hF (i := 16) (v := .bool false) rfl (bF hz5)
     refine cF hF (by kernel_rfl) (by kernel_rfl) ?_
     refine wp_skip ?_
     refine hK7 _ _ ?_
     refine wp_region_lit ?_
     refine wl (eP 18 (v0 := .int .i64 (IntKind.i64.wrap ((k : Int) + 1))) (v := .int .i64 ((k : Int) + 1)) hF (by kernel_rfl) (fun _ => by kernel_rfl) (wi (by omega)) fun a hF => ?_)
     refine sB 1 [(9, .int .i64 ((k : Int) + 1))] hF (by kernel_rfl) fun a hF => ?_
     refine wpList_nil ?_
     refine hK4 _ _ ⟨(k + 1), ⟨(((((Fr.nil hF).c hF (i := 8) rfl rfl).c hF (i := 7) rfl rfl).c hF (i := 1) rfl rfl).c hF (i := 9) rfl (vi (show ((k : Int) + 1 : Int) = ((k + 1) : Int) from by omega))), (hM.sub ((Sub.nil.c (k := 2) rfl rfl).c (k := 1) rfl rfl)), (show ((k + 1) : Int) ≤ (l.length : Int) from by omega), (show ∀ j, j < (k + 1) → sameA ap ast l j = false from by exact no_next (by assumption) (decide_eq_false (by omega)))⟩, (show l.length - (k + 1) < l.length - k from by omega)⟩
   ·skip
    refine wp_region_lit ?_
    refine sB 1 [(4, .pointer (some ⟨bb2, 0, none⟩))] hF1 (by kernel_rfl) fun a1 hF1 => ?_
    refine wl (eL 5 4 0 (v := .int .i64 (rc l k 0)) hF1 hM (by kernel_rfl) rfl rfl (by kernel_rfl) (by kernel_rfl) fun a1 w hF1 hM => ?_)
    refine sB 1 [(6, .pointer (some ⟨B, 0, none⟩))] hF1 (by kernel_rfl) fun a1 hF1 => ?_
    refine wl (eM 7 (v := .int .i64 ap) hF1 hM (by kernel_rfl) (yld_ro1 (A := (some ⟨B, 0, none⟩)) (j := 0) hF1 rfl (by kernel_rfl) (by kernel_rfl) (roK 2 rfl) (by kernel_rfl) rfl) fun a1 w hF1 hM => ?_)
    refine wl (eP 8 (v0 := .bool (decide (rc l k 0 = ap))) (v := .bool false) hF1 (by kernel_rfl) (fun _ => by kernel_rfl) (bF hz4) fun a1 hF1 => ?_)
    refine sB 8 [(9, .bool false), (10, undef), (11, undef), (12, undef), (13, undef), (14, undef), (15, .bool false), (3, .bool false)] hF1 (by kernel_rfl) fun a1 hF1 => ?_
    refine wpList_nil ?_
    refine hK12 _ _ ?_
    refine wp_ret ?_
    refine hR10 _ _ ?_
    refine ret_of hF1 hM (.tmp rfl (.nil)) ⟨_, rfl, ?_⟩
    intro a hF
    refine wpList_nil ?_
    refine hK9 _ _ ?_
    refine cF hF (by kernel_rfl) (by kernel_rfl) ?_
    refine wp_skip ?_
    refine hK7 _ _ ?_
    refine wp_region_lit ?_
    refine wl (eP 18 (v0 := .int .i64 (IntKind.i64.wrap ((k : Int) + 1))) (v := .int .i64 ((k : Int) + 1)) hF (by kernel_rfl) (fun _ => by kernel_rfl) (wi (by omega)) fun a hF => ?_)
    refine sB 1 [(9, .int .i64 ((k : Int) + 1))] hF (by kernel_rfl) fun a hF => ?_
    refine wpList_nil ?_
    refine hK4 _ _ ⟨(k + 1), ⟨(((((Fr.nil hF).c hF (i := 8) rfl rfl).c hF (i := 7) rfl rfl).c hF (i := 1) rfl rfl).c hF (i := 9) rfl (vi (show ((k : Int) + 1 : Int) = ((k + 1) : Int) from by omega))), (hM.sub ((Sub.nil.c (k := 2) rfl rfl).c (k := 1) rfl rfl)), (show ((k + 1) : Int) ≤ (l.length : Int) from by omega), (show ∀ j, j < (k + 1) → sameA ap ast l j = false from by exact no_next (by assumption) (decide_eq_false (by omega)))⟩, (show l.length - (k + 1) < l.length - k from by omega)⟩
  ·skip
   replace hF := hF.c hF (i := 10) (v := .bool false) rfl (bF hz3)
   refine cF hF (by kernel_rfl) (by kernel_rfl) ?_
   refine wp_exit ?_
   refine hK2 _ _ ?_
   refine wp_seq_k fun K14 hK14 => ?_
   refine wp_region_lit ?_
   refine sB 1 [(4, .int .i64 (-1))] hF (by kernel_rfl) fun a hF => ?_
   refine wpList_nil ?_
   refine hK14 _ _ ?_
   refine wp_ret ?_
   refine hR0 _ _ ?_
   refine ret_of hF hM (.tmp rfl (.nil)) ?_
   exact ⟨ret_int (fnd_none (fun j hj => ‹∀ j, j < k → sameA ap ast l j = false› j (by omega))).symm, hM.bel⟩

end Go.Proofs.Ytogeficooemngaa
