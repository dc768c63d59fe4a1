/-
  Contracts of bucket.check and bucket.Conforms.
-/
import Derived.Test.YtogeficooemngaaFirst
import Derived.Test.YtogeficooemngaaMeterPlain
import Derived.Test.YtogeficooemngaaMeterA
namespace Go.Proofs.Ytogeficooemngaa
open Go.RowKit
set_option linter.unusedVariables false
set_option linter.unusedSimpArgs false

def ckE (b r : Int) (l : List (Int × Int)) : Int := if bkE b r = 0 then trE l else 130
theorem ckE_bk {b r : Int} {l : List (Int × Int)} (h : ckE b r l = 0) : 1 ≤ b ∧ b ≤ 1048576 ∧ 1 ≤ r ∧ r ≤ 2097152 := by
  unfold ckE at h
  split at h
  · exact bkE_ok ‹_›
  · cases h
theorem ckE_tr {b r : Int} {l : List (Int × Int)} (h : ckE b r l = 0) : trE l = 0 := by
  unfold ckE at h
  split at h
  · exact h
  · cases h
theorem ckE_zero {b r : Int} {l : List (Int × Int)} (h1 : bkE b r = 0) (h2 : trE l = 0) : ckE b r l = 0 := by unfold ckE; rw [if_pos h1, h2]
def cfB (b r : Int) (l : List (Int × Int)) : Bool := decide (ckE b r l = 0 ∧ firstI b r l < 0)
theorem cfB_yes {b r : Int} {l : List (Int × Int)} (h : ckE b r l = 0) : cfB b r l = decide (firstI b r l < 0) := by simp [cfB, h]
theorem cfB_no {b r : Int} {l : List (Int × Int)} (h : ¬ ckE b r l = 0) : cfB b r l = false := by simp [cfB, h]
theorem bkcheck_w (b r : Int) (A : Option Addr) (l : List (Int × Int)) (c : Nat) (w0 : World) (hA : Ro w0 A (flat2 l)) :
    Calls Try.prog 41 #[.agg #[.int .i64 b, .int .i64 r], .slice A l.length c] w0 (Ret w0 (.int .i64 (ckE b r l))) := by
 refine enterK 13 Try.func41 rfl rfl rfl ?_
 intro a hF Q0 hR0 hN0
 have hM := Mem.start w0
 replace hM := hM.addOld 1 hA (Nat.le_refl _)
 refine wp_seq_k fun K1 hK1 => ?_
 refine wp_region_lit ?_
 refine wl (eN 2 2 (t := 67) (fun b => .pointer (some ⟨b, 0, none⟩)) #[.int .i64 b, .int .i64 r] hF hM (by kernel_rfl) (fun _ => by kernel_rfl) fun bb1 a w hF hM => ?_)
 refine sB 1 [(4, .int .i64 0)] hF (by kernel_rfl) fun a hF => ?_
 refine wpList_nil ?_
 refine hK1 _ _ ?_
 refine wp_seq_k fun K2 hK2 => ?_
 refine wp_seq_k fun K3 hK3 => ?_
 refine wp_region_lit ?_
 refine wl (eL 6 2 0 (v := .agg #[.int .i64 b, .int .i64 r]) hF hM (by kernel_rfl) rfl rfl (by kernel_rfl) (by kernel_rfl) fun a w hF hM => ?_)
 refine wl (eM 7 (v := .int .i64 (bkE b r)) hF hM (by kernel_rfl) (yld_call (f := 50) (args := #[.agg #[.int .i64 b, .int .i64 r]]) hF (by kernel_rfl) (fun _ => by kernel_rfl) (fun w hM => bkCheck_w b r w)) fun a w hF hM => ?_)
 refine sB 1 [(5, .int .i64 (bkE b r))] hF (by kernel_rfl) fun a hF => ?_
 refine wpList_nil ?_
 refine hK3 _ _ ?_
 refine wp_seq_k fun K4 hK4 => ?_
 refine wp_region_lit ?_
 refine sB 2 [(8, .int .i64 (bkE b r)), (9, .bool (!decide (bkE b r = 0)))] hF (by kernel_rfl) fun a hF => ?_
 refine wpList_nil ?_
 refine hK4 _ _ ?_
 by_cases hz1 : bkE b r = 0
 ·skip
  have hz2 := bkE_ok hz1
  replace hF := hF.c hF (i := 9) (v := .bool false) rfl (nT hz1)
  refine cF hF (by kernel_rfl) (by kernel_rfl) ?_
  refine wp_skip ?_
  refine hK2 _ _ ?_
  refine wp_seq_k fun K5 hK5 => ?_
  refine wp_region_lit ?_
  refine sB 1 [(11, .slice A l.length c)] hF (by kernel_rfl) fun a hF => ?_
  refine wl (eM 12 (v := .int .i64 (trE l)) hF hM (by kernel_rfl) (yld_call (f := 62) (args := #[.slice A l.length c]) hF (by kernel_rfl) (fun _ => by kernel_rfl) (fun w hM => checkTrace_w A l _ w (hM.ok 1 _ rfl))) fun a w hF hM => ?_)
  refine sB 1 [(4, .int .i64 (trE l))] hF (by kernel_rfl) fun a hF => ?_
  refine wpList_nil ?_
  refine hK5 _ _ ?_
  refine wp_ret ?_
  refine hR0 _ _ ?_
  refine ret_of hF hM (.tmp rfl (.nil)) ?_
  exact ⟨ret_int (by unfold ckE; rw [if_pos hz1]), hM.bel⟩
 ·skip
  replace hF := hF.c hF (i := 9) (v := .bool true) rfl (nF hz1)
  refine cT hF (by kernel_rfl) (by kernel_rfl) ?_
  refine wp_seq_k fun K6 hK6 => ?_
  refine wp_region_lit ?_
  refine sB 2 [(10, .int .i64 (bkE b r)), (4, .int .i64 (bkE b r))] hF (by kernel_rfl) fun a hF => ?_
  refine wpList_nil ?_
  refine hK6 _ _ ?_
  refine wp_ret ?_
  refine hR0 _ _ ?_
  refine ret_of hF hM (.tmp rfl (.nil)) ?_
  exact ⟨ret_int (by unfold ckE; rw [if_neg hz1, bkE_no hz1]), hM.bel⟩

theorem conforms_w (b r : Int) (A : Option Addr) (l : List (Int × Int)) (c : Nat) (w0 : World) (hA : Ro w0 A (flat2 l)) :
    Calls Try.prog 26 #[.agg #[.int .i64 b, .int .i64 r], .slice A l.length c] w0 (Ret w0 (.tuple #[.bool (cfB b r l), .int .i64 (ckE b r l)])) := by
 refine enterK 17 Try.func26 rfl rfl rfl ?_
 intro a hF Q0 hR0 hN0
 have hM := Mem.start w0
 replace hM := hM.addOld 1 hA (Nat.le_refl _)
 refine wp_seq_k fun K1 hK1 => ?_
 refine wp_region_lit ?_
 refine wl (eN 2 2 (t := 67) (fun b => .pointer (some ⟨b, 0, none⟩)) #[.int .i64 b, .int .i64 r] hF hM (by kernel_rfl) (fun _ => by kernel_rfl) fun bb1 a w hF hM => ?_)
 refine sB 2 [(4, .bool false), (5, .int .i64 0)] hF (by kernel_rfl) fun a hF => ?_
 refine wpList_nil ?_
 refine hK1 _ _ ?_
 refine wp_seq_k fun K2 hK2 => ?_
 refine wp_seq_k fun K3 hK3 => ?_
 refine wp_region_lit ?_
 refine wl (eL 7 2 0 (v := .agg #[.int .i64 b, .int .i64 r]) hF hM (by kernel_rfl) rfl rfl (by kernel_rfl) (by kernel_rfl) fun a w hF hM => ?_)
 refine sB 1 [(8, .slice A l.length c)] hF (by kernel_rfl) fun a hF => ?_
 refine wl (eM 9 (v := .int .i64 (ckE b r l)) hF hM (by kernel_rfl) (yld_call (f := 41) (args := #[.agg #[.int .i64 b, .int .i64 r], .slice A l.length c]) hF (by kernel_rfl) (fun _ => by kernel_rfl) (fun w hM => bkcheck_w b r A l _ w (hM.ok 1 _ rfl))) fun a w hF hM => ?_)
 refine sB 1 [(6, .int .i64 (ckE b r l))] hF (by kernel_rfl) fun a hF => ?_
 refine wpList_nil ?_
 refine hK3 _ _ ?_
 refine wp_seq_k fun K4 hK4 => ?_
 refine wp_region_lit ?_
 refine sB 2 [(10, .int .i64 (ckE b r l)), (11, .bool (!decide (ckE b r l = 0)))] hF (by kernel_rfl) fun a hF => ?_
 refine wpList_nil ?_
 refine hK4 _ _ ?_
 by_cases hz1 : ckE b r l = 0
 ·skip
  replace hF := hF.c hF (i := 11) (v := .bool false) rfl (nT hz1)
  refine cF hF (by kernel_rfl) (by kernel_rfl) ?_
  refine wp_skip ?_
  refine hK2 _ _ ?_
  refine wp_seq_k fun K5 hK5 => ?_
  refine wp_region_lit ?_
  refine wl (eL 13 2 0 (v := .agg #[.int .i64 b, .int .i64 r]) hF hM (by kernel_rfl) rfl rfl (by kernel_rfl) (by kernel_rfl) fun a w hF hM => ?_)
  refine sB 1 [(14, .slice A l.length c)] hF (by kernel_rfl) fun a hF => ?_
  refine wl (eM 15 (v := .int .i64 (firstI b r l)) hF hM (by kernel_rfl) (yld_call (f := 42) (args := #[.agg #[.int .i64 b, .int .i64 r], .slice A l.length c]) hF (by kernel_rfl) (fun _ => by kernel_rfl) (fun w hM => first_w b r A l _ w (ckE_bk hz1) (ckE_tr hz1) (Ro.arr2 (hM.ok 1 _ rfl)))) fun a w hF hM => ?_)
  refine sB 3 [(16, .bool (decide (firstI b r l < 0))), (4, .bool (decide (firstI b r l < 0))), (5, .int .i64 0)] hF (by kernel_rfl) fun a hF => ?_
  refine wpList_nil ?_
  refine hK5 _ _ ?_
  refine wp_ret ?_
  refine hR0 _ _ ?_
  refine ret_of hF hM (.tmp rfl (.tmp rfl (.nil))) ?_
  exact ⟨ret_eq (by rw [cfB_yes hz1, hz1]; rfl), hM.bel⟩
 ·skip
  replace hF := hF.c hF (i := 11) (v := .bool true) rfl (nF hz1)
  refine cT hF (by kernel_rfl) (by kernel_rfl) ?_
  refine wp_seq_k fun K6 hK6 => ?_
  refine wp_region_lit ?_
  refine sB 3 [(12, .int .i64 (ckE b r l)), (4, .bool false), (5, .int .i64 (ckE b r l))] hF (by kernel_rfl) fun a hF => ?_
  refine wpList_nil ?_
  refine hK6 _ _ ?_
  refine wp_ret ?_
  refine hR0 _ _ ?_
  refine ret_of hF hM (.tmp rfl (.tmp rfl (.nil))) ?_
  exact ⟨ret_eq (by rw [cfB_no hz1]; rfl), hM.bel⟩

end Go.Proofs.Ytogeficooemngaa
