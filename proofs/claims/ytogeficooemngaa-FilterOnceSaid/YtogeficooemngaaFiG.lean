/-
  The registration of a frame.
-/
import Derived.Test.YtogeficooemngaaFiF
namespace Go.Proofs.Ytogeficooemngaa
open Go.RowKit
set_option linter.unusedVariables false
set_option linter.unusedSimpArgs false

def regA (port st_ cl_ : Int) (l : List (List Int)) (j : Nat) : Bool := decide (rc l j 0 = port ∧ rc l j 1 = st_ ∧ rc l j 2 = cl_)
def regI (port i1 i3 : Int) (l : List (List Int)) : Int := fnd (regA port i1 i3 l) l.length
set_option maxRecDepth 100000 in
theorem find3_w (port i1 i2 i3 i4 i5 : Int) (B D : Nat) (A : Option Addr) (l : List (List Int)) (cl : Nat) (w0 : World) (hA : Ro w0 A (flatR l)) (hW : WR 7 l) (hl : l.length ≤ 64) (hB : Ro w0 (some ⟨B, 0, none⟩) [.int .i64 port]) (hD : Ro w0 (some ⟨D, 0, none⟩) [.int .i64 i1, .int .i64 i2, .int .i64 i3, .int .i64 i4, .int .i64 i5]) :
    Calls Try.prog 46 #[.slice A l.length cl, .func (.func 53) #[] #[.pointer (some ⟨B, 0, none⟩), .pointer (some ⟨D, 0, none⟩)]] w0 (Ret w0 (.int .i64 (regI port i1 i3 l))) := by
 refine enterK 19 Try.func46 rfl rfl rfl ?_
 intro a hF Q0 hR0 hN0
 have hM := Mem.start w0
 replace hM := hM.addOld 1 hA (Nat.le_refl _)
 replace hM := hM.addOld 2 hB (Nat.le_refl _)
 replace hM := hM.addOld 3 hD (Nat.le_refl _)
 refine wp_seq_k fun K1 hK1 => ?_
 refine wp_region_lit ?_
 refine sB 1 [(4, .int .i64 0)] hF (by kernel_rfl) fun a hF => ?_
 refine wpList_nil ?_
 refine hK1 _ _ ?_
 refine wp_seq_k fun K2 hK2 => ?_
 refine wp_seq_k fun K3 hK3 => ?_
 refine wp_region_lit ?_
 refine sB 3 [(7, .slice A l.length cl), (8, .int .i64 (l.length : Int)), (9, .int .i64 0)] hF (by kernel_rfl) fun a hF => ?_
 refine wpList_nil ?_
 refine hK3 _ _ ?_
 refine wp_block ?_
 refine wp_loop_k (G := Nat) (fun gg a w => Fr 19 [(9, some (.int .i64 (gg : Int))), (1, some (.func (.func 53) #[] #[.pointer (some ⟨B, 0, none⟩), .pointer (some ⟨D, 0, none⟩)])), (7, some (.slice A l.length cl)), (8, some (.int .i64 (l.length : Int)))] a ∧ Mem w0.heap.size w0 [(1, some (.ro A (flatR l))), (2, some (.ro (some ⟨B, 0, none⟩) [.int .i64 port])), (3, some (.ro (some ⟨D, 0, none⟩) [.int .i64 i1, .int .i64 i2, .int .i64 i3, .int .i64 i4, .int .i64 i5]))] w ∧ ((gg : Int) ≤ (l.length : Int)) ∧ (∀ j, j < gg → regA port i1 i3 l j = false)) (fun gg => l.length - gg) (0) ?_ ?_
 ·refine ⟨(((((Fr.nil hF).c hF (i := 8) rfl rfl).c hF (i := 7) rfl rfl).c hF (i := 1) rfl rfl).c hF (i := 9) rfl (vi (show (0 : Int) = (0 : Int) from by omega))), (hM.sub (((Sub.nil.c (k := 3) rfl rfl).c (k := 2) rfl rfl).c (k := 1) rfl rfl)), (show (0 : Int) ≤ (l.length : Int) from by omega), (show ∀ j, j < 0 → regA port i1 i3 l j = false from by exact fun j hj => by omega)⟩
 ·intro gg a w hI
  intro K4 hK4
  obtain ⟨k, rfl⟩ : ∃ x, x = gg := ⟨_, rfl⟩
  try dsimp only at hI hK4
  obtain ⟨hF, hM, hz1, hz2⟩ := hI
  refine wp_seq_k fun K5 hK5 => ?_
  refine wp_region_lit ?_
  refine sB 1 [(10, .bool (decide ((k : Int) < (l.length : Int))))] hF (by kernel_rfl) fun a hF => ?_
  refine wpList_nil ?_
  refine hK5 _ _ ?_
  refine wp_seq_k fun K6 hK6 => ?_
  by_cases hz3 : (k : Int) < (l.length : Int)
  ·skip
   replace hF := hF.c hF (i := 10) (v := .bool true) rfl (bT hz3)
   refine cT hF (by kernel_rfl) (by kernel_rfl) ?_
   refine wp_skip ?_
   refine hK6 _ _ ?_
   refine wp_seq_k fun K7 hK7 => ?_
   refine wp_block ?_
   refine wp_seq_k fun K8 hK8 => ?_
   refine wp_region_lit ?_
   refine sB 1 [(11, .int .i64 (k : Int))] hF (by kernel_rfl) fun a hF => ?_
   refine wl (eM 12 (v := .pointer (some (ea A (k * 7)))) hF hM (by kernel_rfl) (yld_ix (kd := .i64) (e := 57) (len := l.length) (cap := cl) (i := (k : Int)) (size := 7) (A := A) hF rfl (by kernel_rfl) (by kernel_rfl) (by kernel_rfl) (by kernel_rfl) (by kernel_rfl) (roK 1 rfl) (by omega) (by omega) (by rw [flatR_length hW]; (try simp only [List.length_map, List.length_append, List.length_replicate, List.length_set, List.length_cons, List.length_nil, flat2_length, List.length_take]); omega)) fun a w hF hM => ?_)
   refine wl (eM 13 (v := .agg #[.int .i64 (rc l k 0), .int .i64 (rc l k 1), .int .i64 (rc l k 2), .int .i64 (rc l k 3), .int .i64 (rc l k 4), .int .i64 (rc l k 5), .int .i64 (rc l k 6)]) hF hM (by kernel_rfl) (yld_roM (A := A) (j := k * 7) (us := [.int .i64 (rc l k 0), .int .i64 (rc l k 1), .int .i64 (rc l k 2), .int .i64 (rc l k 3), .int .i64 (rc l k 4), .int .i64 (rc l k 5), .int .i64 (rc l k 6)]) hF rfl (by kernel_rfl) (by kernel_rfl) (roK 1 rfl) (by kernel_rfl) rfl (rc_sub (k := k) (f := 0) (m := 7) hW (by omega) (by decide) rfl)) fun a w hF hM => ?_)
   refine wl (eN 6 4 (t := 57) (fun b => .pointer (some ⟨b, 0, none⟩)) #[.int .i64 0, .int .i64 0, .int .i64 0, .int .i64 0, .int .i64 0, .int .i64 0, .int .i64 0] hF hM (by kernel_rfl) (fun _ => by kernel_rfl) fun bb1 a w hF hM => ?_)
   refine sB 1 [(5, .int .i64 (k : Int))] hF (by kernel_rfl) fun a hF => ?_
   refine wl (sStore (i := 4) (off := 0) (cs' := #[.int .i64 (rc l k 0), .int .i64 (rc l k 1), .int .i64 (rc l k 2), .int .i64 (rc l k 3), .int .i64 (rc l k 4), .int .i64 (rc l k 5), .int .i64 (rc l k 6)]) hF hM (by kernel_rfl) rfl rfl (by kernel_rfl) (by kernel_rfl) rfl (by kernel_rfl) fun w hM => ?_)
   refine wpList_nil ?_
   refine hK8 _ _ ?_
   refine wp_seq_k fun K9 hK9 => ?_
   refine wp_region_lit ?_
   refine sB 1 [(14, .func (.func 53) #[] #[.pointer (some ⟨B, 0, none⟩), .pointer (some ⟨D, 0, none⟩)])] hF (by kernel_rfl) fun a hF => ?_
   refine wl (eL 15 4 0 (v := .agg #[.int .i64 (rc l k 0), .int .i64 (rc l k 1), .int .i64 (rc l k 2), .int .i64 (rc l k 3), .int .i64 (rc l k 4), .int .i64 (rc l k 5), .int .i64 (rc l k 6)]) hF hM (by kernel_rfl) rfl rfl (by kernel_rfl) (by kernel_rfl) fun a w hF hM => ?_)
   refine wl (sC (f := 53) (args := #[.agg #[.int .i64 (rc l k 0), .int .i64 (rc l k 1), .int .i64 (rc l k 2), .int .i64 (rc l k 3), .int .i64 (rc l k 4), .int .i64 (rc l k 5), .int .i64 (rc l k 6)], .pointer (some ⟨B, 0, none⟩), .pointer (some ⟨D, 0, none⟩)]) hF (by kernel_rfl) rfl (by decide) (by kernel_rfl) (fun _ => by kernel_rfl) ?_)
   refine enterK 23 Try.func53 rfl rfl rfl ?_
   intro a1 hF1 QR10 hR10 hNR10
   refine wp_seq_k fun K11 hK11 => ?_
   refine wp_region_lit ?_
   refine wl (eN 3 5 (t := 57) (fun b => .pointer (some ⟨b, 0, none⟩)) #[.int .i64 (rc l k 0), .int .i64 (rc l k 1), .int .i64 (rc l k 2), .int .i64 (rc l k 3), .int .i64 (rc l k 4), .int .i64 (rc l k 5), .int .i64 (rc l k 6)] hF1 hM (by kernel_rfl) (fun _ => by kernel_rfl) fun bb2 a1 w hF1 hM => ?_)
   refine sB 1 [(4, .bool false)] hF1 (by kernel_rfl) fun a1 hF1 => ?_
   refine wpList_nil ?_
   refine hK11 _ _ ?_
   refine wp_seq_k fun K12 hK12 => ?_
   by_cases hz4 : rc l k 0 = port
   ·skip
    by_cases hz5 : rc l k 1 = i1
    ·skip
     refine wp_region_lit ?_
     refine sB 1 [(5, .pointer (some ⟨bb2, 0, none⟩))] hF1 (by kernel_rfl) fun a1 hF1 => ?_
     refine wl (eL 6 5 0 (v := .int .i64 (rc l k 0)) hF1 hM (by kernel_rfl) rfl rfl (by kernel_rfl) (by kernel_rfl) fun a1 w hF1 hM => ?_)
     refine wl (eM 7 (v := .int .i64 port) hF1 hM (by kernel_rfl) (yld_ro1 (A := (some ⟨B, 0, none⟩)) (j := 0) hF1 rfl (by kernel_rfl) (by kernel_rfl) (roK 2 rfl) (by kernel_rfl) rfl) fun a1 w hF1 hM => ?_)
     refine wl (eP 8 (v0 := .bool (decide (rc l k 0 = port))) (v := .bool true) hF1 (by kernel_rfl) (fun _ => by kernel_rfl) (bT hz4) fun a1 hF1 => ?_)
     refine sB 2 [(9, .bool true), (10, .pointer (some ⟨bb2, 1, none⟩))] hF1 (by kernel_rfl) fun a1 hF1 => ?_
     refine wl (eL 11 5 1 (v := .int .i64 (rc l k 1)) hF1 hM (by kernel_rfl) rfl rfl (by kernel_rfl) (by kernel_rfl) fun a1 w hF1 hM => ?_)
     refine sB 1 [(12, .pointer (some ⟨D, 0, none⟩))] hF1 (by kernel_rfl) fun a1 hF1 => ?_
     refine wl (eM 13 (v := .int .i64 i1) hF1 hM (by kernel_rfl) (yld_ro1 (A := (some ⟨D, 0, none⟩)) (j := 0) hF1 rfl (by kernel_rfl) (by kernel_rfl) (roK 3 rfl) (by kernel_rfl) rfl) fun a1 w hF1 hM => ?_)
     refine wl (eP 14 (v0 := .bool (decide (rc l k 1 = i1))) (v := .bool true) hF1 (by kernel_rfl) (fun _ => by kernel_rfl) (bT hz5) fun a1 hF1 => ?_)
     refine sB 3 [(15, .bool true), (16, .bool true), (17, .pointer (some ⟨bb2, 2, none⟩))] hF1 (by kernel_rfl) fun a1 hF1 => ?_
     refine wl (eL 18 5 2 (v := .int .i64 (rc l k 2)) hF1 hM (by kernel_rfl) rfl rfl (by kernel_rfl) (by kernel_rfl) fun a1 w hF1 hM => ?_)
     refine sB 1 [(19, .pointer (some ⟨D, 2, none⟩))] hF1 (by kernel_rfl) fun a1 hF1 => ?_
     refine wl (eM 20 (v := .int .i64 i3) hF1 hM (by kernel_rfl) (yld_ro1 (A := (some ⟨D, 0, none⟩)) (j := 2) hF1 rfl (by kernel_rfl) (by kernel_rfl) (roK 3 rfl) (by kernel_rfl) rfl) fun a1 w hF1 hM => ?_)
     refine sB 3 [(21, .bool (decide (rc l k 2 = i3))), (22, .bool (decide (rc l k 2 = i3))), (4, .bool (decide (rc l k 2 = i3)))] hF1 (by kernel_rfl) fun a1 hF1 => ?_
     refine wpList_nil ?_
     refine hK12 _ _ ?_
     refine wp_ret ?_
     refine hR10 _ _ ?_
     refine ret_of hF1 hM (.tmp rfl (.nil)) ⟨_, rfl, ?_⟩
     intro a hF
     refine wpList_nil ?_
     refine hK9 _ _ ?_
     by_cases hz6 : rc l k 2 = i3
     ·skip
      replace hF := hF.c hF (i := 16) (v := .bool true) rfl (bT hz6)
      refine cT hF (by kernel_rfl) (by kernel_rfl) ?_
      refine wp_seq_k fun K13 hK13 => ?_
      refine wp_region_lit ?_
      refine sB 2 [(17, .int .i64 (k : Int)), (4, .int .i64 (k : Int))] hF (by kernel_rfl) fun a hF => ?_
      refine wpList_nil ?_
      refine hK13 _ _ ?_
      refine wp_ret ?_
      refine hR0 _ _ ?_
      refine ret_of hF hM (.tmp rfl (.nil)) ?_
      exact ⟨ret_int (fnd_some (k := k) (by omega) (decide_eq_true (by omega)) (by assumption)).symm, hM.bel⟩
     ·skip
      replace hF := hF.c hF (i := 16) (v := .bool false) rfl (bF hz6)
      refine cF hF (by kernel_rfl) (by kernel_rfl) ?_
      refine wp_skip ?_
      refine hK7 _ _ ?_
      refine wp_region_lit ?_
      refine wl (eP 18 (v0 := .int .i64 (IntKind.i64.wrap ((k : Int) + 1))) (v := .int .i64 ((k : Int) + 1)) hF (by kernel_rfl) (fun _ => by kernel_rfl) (wi (by omega)) fun a hF => ?_)
      refine sB 1 [(9, .int .i64 ((k : Int) + 1))] hF (by kernel_rfl) fun a hF => ?_
      refine wpList_nil ?_
      refine hK4 _ _ ⟨(k + 1), ⟨(((((Fr.nil hF).c hF (i := 8) rfl rfl).c hF (i := 7) rfl rfl).c hF (i := 1) rfl rfl).c hF (i := 9) rfl (vi (show ((k : Int) + 1 : Int) = ((k + 1) : Int) from by omega))), (hM.sub (((Sub.nil.c (k := 3) rfl rfl).c (k := 2) rfl rfl).c (k := 1) rfl rfl)), (show ((k + 1) : Int) ≤ (l.length : Int) from by omega), (show ∀ j, j < (k + 1) → regA port i1 i3 l j = false from by exact no_next (by assumption) (decide_eq_false (by omega)))⟩, (show l.length - (k + 1) < l.length - k from by omega)⟩
    ·skip
     refine wp_region_lit ?_
     refine sB 1 [(5, .pointer (some ⟨bb2, 0, none⟩))] hF1 (by kernel_rfl) fun a1 hF1 => ?_
     refine wl (eL 6 5 0 (v := .int .i64 (rc l k 0)) hF1 hM (by kernel_rfl) rfl rfl (by kernel_rfl) (by kernel_rfl) fun a1 w hF1 hM => ?_)
     refine wl (eM 7 (v := .int .i64 port) hF1 hM (by kernel_rfl) (yld_ro1 (A := (some ⟨B, 0, none⟩)) (j := 0) hF1 rfl (by kernel_rfl) (by kernel_rfl) (roK 2 rfl) (by kernel_rfl) rfl) fun a1 w hF1 hM => ?_)
     refine wl (eP 8 (v0 := .bool (decide (rc l k 0 = port))) (v := .bool true) hF1 (by kernel_rfl) (fun _ => by kernel_rfl) (bT hz4) fun a1 hF1 => ?_)
     refine sB 2 [(9, .bool true), (10, .pointer (some ⟨bb2, 1, none⟩))] hF1 (by kernel_rfl) fun a1 hF1 => ?_
     refine wl (eL 11 5 1 (v := .int .i64 (rc l k 1)) hF1 hM (by kernel_rfl) rfl rfl (by kernel_rfl) (by kernel_rfl) fun a1 w hF1 hM => ?_)
     refine sB 1 [(12, .pointer (some ⟨D, 0, none⟩))] hF1 (by kernel_rfl) fun a1 hF1 => ?_
     refine wl (eM 13 (v := .int .i64 i1) hF1 hM (by kernel_rfl) (yld_ro1 (A := (some ⟨D, 0, none⟩)) (j := 0) hF1 rfl (by kernel_rfl) (by kernel_rfl) (roK 3 rfl) (by kernel_rfl) rfl) fun a1 w hF1 hM => ?_)
     refine wl (eP 14 (v0 := .bool (decide (rc l k 1 = i1))) (v := .bool false) hF1 (by kernel_rfl) (fun _ => by kernel_rfl) (bF hz5) fun a1 hF1 => ?_)
     refine sB 9 [(15, .bool false), (16, .bool false), (17, undef), (18, undef), (19, undef), (20, undef), (21, undef), (22, .bool false), (4, .bool false)] hF1 (by kernel_rfl) fun a1 hF1 => ?_
     refine wpList_nil ?_
     refine hK12 _ _ ?_
     refine wp_ret ?_
     refine hR10 _ _ ?_
     refine ret_of hF1 hM (.tmp rfl (.nil)) ⟨_, rfl, ?_⟩
     intro a hF
     refine wpList_nil ?_
     refine hK9 _ _ ?_
     refine cF hF (by kernel_rfl) (by kernel_rfl) ?_
     refine wp_skip ?_
     refine hK7 _ _ ?_
     refine wp_region_lit ?_
     refine wl (eP 18 (v0 := .int .i64 (IntKind.i64.wrap ((k : Int) + 1))) (v := .int .i64 ((k : Int) + 1)) hF (by kernel_rfl) (fun _ => by kernel_rfl) (wi (by omega)) fun a hF => ?_)
     refine sB 1 [(9, .int .i64 ((k : Int) + 1))] hF (by kernel_rfl) fun a hF => ?_
     refine wpList_nil ?_
     refine hK4 _ _ ⟨(k + 1), ⟨(((((Fr.nil hF).c hF (i := 8) rfl rfl).c hF (i := 7) rfl rfl).c hF (i := 1) rfl rfl).c hF (i := 9) rfl (vi (show ((k : Int) + 1 : Int) = ((k + 1) : Int) from by omega))), (hM.sub (((Sub.nil.c (k := 3) rfl rfl).c (k := 2) rfl rfl).c (k := 1) rfl rfl)), (show ((k + 1) : Int) ≤ (l.length : Int) from by omega), (show ∀ j, j < (k + 1) → regA port i1 i3 l j = false from by exact no_next (by assumption) (decide_eq_false (by omega)))⟩, (show l.length - (k + 1) < l.length - k from by omega)⟩
   ·skip
    refine wp_region_lit ?_
    refine sB 1 [(5, .pointer (some ⟨bb2, 0, none⟩))] hF1 (by kernel_rfl) fun a1 hF1 => ?_
    refine wl (eL 6 5 0 (v := .int .i64 (rc l k 0)) hF1 hM (by kernel_rfl) rfl rfl (by kernel_rfl) (by kernel_rfl) fun a1 w hF1 hM => ?_)
    refine wl (eM 7 (v := .int .i64 port) hF1 hM (by kernel_rfl) (yld_ro1 (A := (some ⟨B, 0, none⟩)) (j := 0) hF1 rfl (by kernel_rfl) (by kernel_rfl) (roK 2 rfl) (by kernel_rfl) rfl) fun a1 w hF1 hM => ?_)
    refine wl (eP 8 (v0 := .bool (decide (rc l k 0 = port))) (v := .bool false) hF1 (by kernel_rfl) (fun _ => by kernel_rfl) (bF hz4) fun a1 hF1 => ?_)
    refine sB 15 [(9, .bool false), (10, undef), (11, undef), (12, undef), (13, undef), (14, undef), (15, .bool false), (16, .bool false), (17, undef), (18, undef), (19, undef), (20, undef), (21, undef), (22, .bool false), (4, .bool false)] hF1 (by kernel_rfl) fun a1 hF1 => ?_
    refine wpList_nil ?_
    refine hK12 _ _ ?_
    refine wp_ret ?_
    refine hR10 _ _ ?_
    refine ret_of hF1 hM (.tmp rfl (.nil)) ⟨_, rfl, ?_⟩
    intro a hF
    refine wpList_nil ?_
    refine hK9 _ _ ?_
    refine cF hF (by kernel_rfl) (by kernel_rfl) ?_
    refine wp_skip ?_
    refine hK7 _ _ ?_
    refine wp_region_lit ?_
    refine wl (eP 18 (v0 := .int .i64 (IntKind.i64.wrap ((k : Int) + 1))) (v := .int .i64 ((k : Int) + 1)) hF (by kernel_rfl) (fun _ => by kernel_rfl) (wi (by omega)) fun a hF => ?_)
    refine sB 1 [(9, .int .i64 ((k : Int) + 1))] hF (by kernel_rfl) fun a hF => ?_
    refine wpList_nil ?_
    refine hK4 _ _ ⟨(k + 1), ⟨(((((Fr.nil hF).c hF (i := 8) rfl rfl).c hF (i := 7) rfl rfl).c hF (i := 1) rfl rfl).c hF (i := 9) rfl (vi (show ((k : Int) + 1 : Int) = ((k + 1) : Int) from by omega))), (hM.sub (((Sub.nil.c (k := 3) rfl rfl).c (k := 2) rfl rfl).c (k := 1) rfl rfl)), (show ((k + 1) : Int) ≤ (l.length : Int) from by omega), (show ∀ j, j < (k + 1) → regA port i1 i3 l j = false from by exact no_next (by assumption) (decide_eq_false (by omega)))⟩, (show l.length - (k + 1) < l.length - k from by omega)⟩
  ·skip
   replace hF := hF.c hF (i := 10) (v := .bool false) rfl (bF hz3)
   refine cF hF (by kernel_rfl) (by kernel_rfl) ?_
   refine wp_exit ?_
   refine hK2 _ _ ?_
   refine wp_seq_k fun K14 hK14 => ?_
   refine wp_region_lit ?_
   refine sB 1 [(4, .int .i64 (-1))] hF (by kernel_rfl) fun a hF => ?_
   refine wpList_nil ?_
   refine hK14 _ _ ?_
   refine wp_ret ?_
   refine hR0 _ _ ?_
   refine ret_of hF hM (.tmp rfl (.nil)) ?_
   exact ⟨ret_int (fnd_none (fun j hj => ‹∀ j, j < k → regA port i1 i3 l j = false› j (by omega))).symm, hM.bel⟩

set_option maxRecDepth 100000 in
theorem registration_w (A : Option Addr) (la : List (List Int)) (ca : Nat) (A2 : Option Addr) (lq : List (List Int)) (cq_ : Nat) (now : Int) (A3 : Option Addr) (ls : List Int) (cs : Nat) (A4 : Option Addr) (lm : List (List Int)) (cm : Nat) (port i1 i2 i3 i4 i5 : Int) (w0 : World) (hA : Ro w0 A (flatR la)) (hW : WR 7 la) (hA2 : Ro w0 A2 (flatR lq)) (hW2 : WR 5 lq) (hA3 : Ro w0 A3 (ls.map (Value.int .i64))) (hA4 : Ro w0 A4 (flatR lm)) (hW4 : WR 3 lm) (hl : la.length ≤ 64) :
    Calls Try.prog 36 #[.agg #[.slice A la.length ca, .slice A2 lq.length cq_, .int .i64 now, .slice A3 ls.length cs, .slice A4 lm.length cm], .int .i64 port, .agg #[.int .i64 i1, .int .i64 i2, .int .i64 i3, .int .i64 i4, .int .i64 i5]] w0 (Ret w0 (.int .i64 (regI port i1 i3 la))) := by
 refine enterK 12 Try.func36 rfl rfl rfl ?_
 intro a hF Q0 hR0 hN0
 have hM := Mem.start w0
 replace hM := hM.addOld 1 hA (Nat.le_refl _)
 replace hM := hM.addOld 2 hA2 (Nat.le_refl _)
 replace hM := hM.addOld 3 hA3 (Nat.le_refl _)
 replace hM := hM.addOld 4 hA4 (Nat.le_refl _)
 refine wp_seq_k fun K1 hK1 => ?_
 refine wp_region_lit ?_
 refine wl (eN 3 5 (t := 85) (fun b => .pointer (some ⟨b, 0, none⟩)) #[.slice A la.length ca, .slice A2 lq.length cq_, .int .i64 now, .slice A3 ls.length cs, .slice A4 lm.length cm] hF hM (by kernel_rfl) (fun _ => by kernel_rfl) fun bb1 a w hF hM => ?_)
 refine wl (eN 4 6 (t := 3) (fun b => .pointer (some ⟨b, 0, none⟩)) #[.int .i64 port] hF hM (by kernel_rfl) (fun _ => by kernel_rfl) fun bb2 a w hF hM => ?_)
 refine wl (eN 5 7 (t := 39) (fun b => .pointer (some ⟨b, 0, none⟩)) #[.int .i64 i1, .int .i64 i2, .int .i64 i3, .int .i64 i4, .int .i64 i5] hF hM (by kernel_rfl) (fun _ => by kernel_rfl) fun bb3 a w hF hM => ?_)
 refine sB 1 [(6, .int .i64 0)] hF (by kernel_rfl) fun a hF => ?_
 refine wpList_nil ?_
 refine hK1 _ _ ?_
 refine wp_seq_k fun K2 hK2 => ?_
 refine wp_region_lit ?_
 refine sB 2 [(7, .pointer (some ⟨bb1, 0, none⟩)), (8, .pointer (some ⟨bb1, 0, none⟩))] hF (by kernel_rfl) fun a hF => ?_
 refine wl (eL 9 5 0 (v := .slice A la.length ca) hF hM (by kernel_rfl) rfl rfl (by kernel_rfl) (by kernel_rfl) fun a w hF hM => ?_)
 refine sB 1 [(10, .func (.func 53) #[] #[.pointer (some ⟨bb2, 0, none⟩), .pointer (some ⟨bb3, 0, none⟩)])] hF (by kernel_rfl) fun a hF => ?_
 refine wl (eM 11 (v := .int .i64 (regI port i1 i3 la)) hF hM (by kernel_rfl) (yld_call (f := 46) (args := #[.slice A la.length ca, .func (.func 53) #[] #[.pointer (some ⟨bb2, 0, none⟩), .pointer (some ⟨bb3, 0, none⟩)]]) hF (by kernel_rfl) (fun _ => by kernel_rfl) (fun w hM => find3_w port i1 i2 i3 i4 i5 bb2 bb3 A la _ w (hM.ok 1 _ rfl) hW (by omega) (hM.roRow (k := 6) rfl) (hM.roRow (k := 7) rfl))) fun a w hF hM => ?_)
 refine sB 1 [(6, .int .i64 (regI port i1 i3 la))] hF (by kernel_rfl) fun a hF => ?_
 refine wpList_nil ?_
 refine hK2 _ _ ?_
 refine wp_ret ?_
 refine hR0 _ _ ?_
 refine ret_of hF hM (.tmp rfl (.nil)) ?_
 exact ⟨rfl, hM.bel⟩

end Go.Proofs.Ytogeficooemngaa
