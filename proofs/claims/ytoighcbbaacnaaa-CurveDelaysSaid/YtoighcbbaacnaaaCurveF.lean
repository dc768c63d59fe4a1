/-
  Contracts of package curve: greatest, Drain.
-/
import Derived.Test.YtoighcbbaacnaaaCurveE
import Derived.Test.YtoighcbbaacnaaaDrainPlain
namespace Go.Proofs.Ytoighcbbaacnaaa
open Go.RowKit
set_option linter.unusedVariables false
set_option linter.unusedSimpArgs false

theorem greatest_w (x y : Int) (A : Option Addr) (c : Nat) (w0 : World) (hA : Ro w0 A (List.map (Value.int .i64) [y])) :
    Calls Try.prog 52 #[.int .i64 x, .slice A 1 c] w0 (Ret w0 (.int .i64 (max x y))) := by
  have hny : nt [y] 0 = y := rfl
  refine enterK 18 Try.func52 rfl rfl rfl ?_
  intro a hF Q0 hR0 hN0
  have hM := Mem.start w0
  replace hM := hM.addOld 1 hA (Nat.le_refl _)
  refine wp_seq_k fun K1 hK1 => ?_
  refine wp_region_lit ?_
  refine sB 1 [(4, .int .i64 0)] hF (by kernel_rfl) fun a hF => ?_
  refine wpList_nil ?_
  refine hK1 _ _ ?_
  refine wp_seq_k fun K2 hK2 => ?_
  refine wp_seq_k fun K3 hK3 => ?_
  refine wp_region_lit ?_
  refine sB 3 [(7, .slice A 1 c), (8, .int .i64 1), (9, .int .i64 0)] hF (by kernel_rfl) fun a hF => ?_
  refine wpList_nil ?_
  refine hK3 _ _ ?_
  refine wp_block ?_
  refine wp_loop_rounds 2 ?_
  refine rounds_k fun K4 hK4 => ?_
  refine wp_seq_k fun K5 hK5 => ?_
  refine wp_region_lit ?_
  refine wl (eP 10 (v0 := .bool (decide (0 < 1))) (v := .bool true) hF (by kernel_rfl) (fun _ => by kernel_rfl) (bT (by omega)) fun a hF => ?_)
  refine wpList_nil ?_
  refine hK5 _ _ ?_
  refine wp_seq_k fun K6 hK6 => ?_
  refine cT hF (by kernel_rfl) (by kernel_rfl) ?_
  refine wp_skip ?_
  refine hK6 _ _ ?_
  refine wp_seq_k fun K7 hK7 => ?_
  refine wp_block ?_
  refine wp_seq_k fun K8 hK8 => ?_
  refine wp_region_lit ?_
  refine wl (eM 11 (v := .pointer (some (ea A (0)))) hF hM (by kernel_rfl) (yld_ix (kd := .i64) (e := 3) (len := 1) (cap := c) (i := 0) (size := 1) (A := A) hF rfl (by kernel_rfl) (by kernel_rfl) (by kernel_rfl) (by kernel_rfl) (by kernel_rfl) (roK 1 rfl) (by omega) (by omega) (by (try simp only [List.length_map, List.length_append, List.length_replicate, List.length_set, List.length_cons, List.length_nil, flat2_length, List.length_take]); omega)) fun a w hF hM => ?_)
  refine wl (eM 12 (v := .int .i64 (nt ([y]) 0)) hF hM (by kernel_rfl) (yld_ro1 (A := A) (j := 0) hF rfl (by kernel_rfl) (by kernel_rfl) (roK 1 rfl) (by kernel_rfl) (nt_at (by (try simp only [List.length_map, List.length_append, List.length_replicate, List.length_set, List.length_cons, List.length_nil, flat2_length, List.length_take]); omega))) fun a w hF hM => ?_)
  refine sB 1 [(6, .int .i64 (nt ([y]) 0))] hF (by kernel_rfl) fun a hF => ?_
  refine wpList_nil ?_
  refine hK8 _ _ ?_
  by_cases hz1 : x < nt ([y]) 0
  · skip
    refine wp_region_lit ?_
    refine sB 2 [(13, .int .i64 x), (14, .int .i64 (nt ([y]) 0))] hF (by kernel_rfl) fun a hF => ?_
    refine wl (eP 15 (v0 := .int .i64 (if nt ([y]) 0 > x then nt ([y]) 0 else x)) (v := .int .i64 (nt ([y]) 0)) hF (by kernel_rfl) (fun _ => by kernel_rfl) (vi (if_pos hz1)) fun a hF => ?_)
    refine sB 1 [(0, .int .i64 (nt ([y]) 0))] hF (by kernel_rfl) fun a hF => ?_
    refine wpList_nil ?_
    refine hK7 _ _ ?_
    refine wp_region_lit ?_
    refine wl (eP 16 (v0 := .int .i64 (IntKind.i64.wrap (0 + 1))) (v := .int .i64 1) hF (by kernel_rfl) (fun _ => by kernel_rfl) (vi (by decide)) fun a hF => ?_)
    refine sB 1 [(9, .int .i64 1)] hF (by kernel_rfl) fun a hF => ?_
    refine wpList_nil ?_
    refine hK4 _ _ ?_
    refine rounds_k fun K9 hK9 => ?_
    refine wp_seq_k fun K10 hK10 => ?_
    refine wp_region_lit ?_
    refine wl (eP 10 (v0 := .bool (decide (1 < 1))) (v := .bool false) hF (by kernel_rfl) (fun _ => by kernel_rfl) (bF (by omega)) fun a hF => ?_)
    refine wpList_nil ?_
    refine hK10 _ _ ?_
    refine wp_seq_k fun K11 hK11 => ?_
    refine cF hF (by kernel_rfl) (by kernel_rfl) ?_
    refine wp_exit ?_
    refine hK2 _ _ ?_
    refine wp_seq_k fun K12 hK12 => ?_
    refine wp_region_lit ?_
    refine sB 2 [(17, .int .i64 (nt ([y]) 0)), (4, .int .i64 (nt ([y]) 0))] hF (by kernel_rfl) fun a hF => ?_
    refine wpList_nil ?_
    refine hK12 _ _ ?_
    refine wp_ret ?_
    refine hR0 _ _ ?_
    refine ret_of hF hM (.tmp rfl (.nil)) ?_
    exact ⟨ret_int (by omega), hM.bel⟩
  · skip
    refine wp_region_lit ?_
    refine sB 2 [(13, .int .i64 x), (14, .int .i64 (nt ([y]) 0))] hF (by kernel_rfl) fun a hF => ?_
    refine wl (eP 15 (v0 := .int .i64 (if nt ([y]) 0 > x then nt ([y]) 0 else x)) (v := .int .i64 x) hF (by kernel_rfl) (fun _ => by kernel_rfl) (vi (if_neg hz1)) fun a hF => ?_)
    refine sB 1 [(0, .int .i64 x)] hF (by kernel_rfl) fun a hF => ?_
    refine wpList_nil ?_
    refine hK7 _ _ ?_
    refine wp_region_lit ?_
    refine wl (eP 16 (v0 := .int .i64 (IntKind.i64.wrap (0 + 1))) (v := .int .i64 1) hF (by kernel_rfl) (fun _ => by kernel_rfl) (vi (by decide)) fun a hF => ?_)
    refine sB 1 [(9, .int .i64 1)] hF (by kernel_rfl) fun a hF => ?_
    refine wpList_nil ?_
    refine hK4 _ _ ?_
    refine rounds_k fun K13 hK13 => ?_
    refine wp_seq_k fun K14 hK14 => ?_
    refine wp_region_lit ?_
    refine wl (eP 10 (v0 := .bool (decide (1 < 1))) (v := .bool false) hF (by kernel_rfl) (fun _ => by kernel_rfl) (bF (by omega)) fun a hF => ?_)
    refine wpList_nil ?_
    refine hK14 _ _ ?_
    refine wp_seq_k fun K15 hK15 => ?_
    refine cF hF (by kernel_rfl) (by kernel_rfl) ?_
    refine wp_exit ?_
    refine hK2 _ _ ?_
    refine wp_seq_k fun K16 hK16 => ?_
    refine wp_region_lit ?_
    refine sB 2 [(17, .int .i64 x), (4, .int .i64 x)] hF (by kernel_rfl) fun a hF => ?_
    refine wpList_nil ?_
    refine hK16 _ _ ?_
    refine wp_ret ?_
    refine hR0 _ _ ?_
    refine ret_of hF hM (.tmp rfl (.nil)) ?_
    exact ⟨ret_int (by omega), hM.bel⟩

theorem drain_err (r t : Int) (A : Option Addr) (l : List (Int × Int)) (c : Nat) (w0 : World) (hA : Ro w0 A (flat2 l)) (h : ¬ drE r t l = 0) :
    Calls Try.prog 27 #[.slice A l.length c, .agg #[.int .i64 r, .int .i64 t]] w0 (Ret w0 (.tuple #[.slice none 0 0, .int .i64 (drE r t l)])) := by
  refine enterK 55 Try.func27 rfl rfl rfl ?_
  intro a hF Q0 hR0 hN0
  have hM := Mem.start w0
  replace hM := hM.addOld 1 hA (Nat.le_refl _)
  refine wp_seq_k fun K1 hK1 => ?_
  refine wp_region_lit ?_
  refine wl (eN 2 2 (t := 54) (fun b => .pointer (some ⟨b, 0, none⟩)) #[.slice A l.length c] hF hM (by kernel_rfl) (fun _ => by kernel_rfl) fun bb1 a w hF hM => ?_)
  refine wl (eN 3 3 (t := 23) (fun b => .pointer (some ⟨b, 0, none⟩)) #[.int .i64 r, .int .i64 t] hF hM (by kernel_rfl) (fun _ => by kernel_rfl) fun bb2 a w hF hM => ?_)
  refine sB 2 [(4, .slice none 0 0), (5, .int .i64 0)] hF (by kernel_rfl) fun a hF => ?_
  refine wpList_nil ?_
  refine hK1 _ _ ?_
  refine wp_seq_k fun K2 hK2 => ?_
  refine wp_region_lit ?_
  refine sB 2 [(11, .func (.func 49) #[] #[.pointer (some ⟨bb1, 0, none⟩)]), (12, .func (.func 51) #[] #[.pointer (some ⟨bb2, 0, none⟩)])] hF (by kernel_rfl) fun a hF => ?_
  refine wl (eN 13 4 (t := 77) (fun b => .slice (some ⟨b, 0, none⟩) 2 2) #[.func (.func 49) #[] #[.pointer (some ⟨bb1, 0, none⟩)], .func (.func 51) #[] #[.pointer (some ⟨bb2, 0, none⟩)]] hF hM (by kernel_rfl) (fun _ => by kernel_rfl) fun bb3 a w hF hM => ?_)
  refine wl (sC (f := 34) (args := #[.slice (some ⟨bb3, 0, none⟩) 2 2]) hF (by kernel_rfl) rfl (by decide) (by kernel_rfl) (fun _ => by kernel_rfl) ?_)
  refine enterK 18 Try.func34 rfl rfl rfl ?_
  intro a1 hF1 QR3 hR3 hNR3
  refine wp_seq_k fun K4 hK4 => ?_
  refine wp_region_lit ?_
  refine sB 1 [(2, .int .i64 0)] hF1 (by kernel_rfl) fun a1 hF1 => ?_
  refine wpList_nil ?_
  refine hK4 _ _ ?_
  refine wp_seq_k fun K5 hK5 => ?_
  refine wp_seq_k fun K6 hK6 => ?_
  refine wp_region_lit ?_
  refine sB 3 [(6, .slice (some ⟨bb3, 0, none⟩) 2 2), (7, .int .i64 2), (8, .int .i64 0)] hF1 (by kernel_rfl) fun a1 hF1 => ?_
  refine wpList_nil ?_
  refine hK6 _ _ ?_
  refine wp_block ?_
  refine wp_loop_rounds 3 ?_
  refine rounds_k fun K7 hK7 => ?_
  refine wp_seq_k fun K8 hK8 => ?_
  refine wp_region_lit ?_
  refine wl (eP 9 (v0 := .bool (decide (0 < 2))) (v := .bool true) hF1 (by kernel_rfl) (fun _ => by kernel_rfl) (bT (by omega)) fun a1 hF1 => ?_)
  refine wpList_nil ?_
  refine hK8 _ _ ?_
  refine wp_seq_k fun K9 hK9 => ?_
  refine cT hF1 (by kernel_rfl) (by kernel_rfl) ?_
  refine wp_skip ?_
  refine hK9 _ _ ?_
  refine wp_seq_k fun K10 hK10 => ?_
  refine wp_block ?_
  refine wp_seq_k fun K11 hK11 => ?_
  refine wp_region_lit ?_
  refine sB 1 [(10, .pointer (some ⟨bb3, 0, none⟩))] hF1 (by kernel_rfl) fun a1 hF1 => ?_
  refine wl (eL 11 4 0 (v := .func (.func 49) #[] #[.pointer (some ⟨bb1, 0, none⟩)]) hF1 hM (by kernel_rfl) rfl rfl (by kernel_rfl) (by kernel_rfl) fun a1 w hF1 hM => ?_)
  refine sB 1 [(4, .func (.func 49) #[] #[.pointer (some ⟨bb1, 0, none⟩)])] hF1 (by kernel_rfl) fun a1 hF1 => ?_
  refine wpList_nil ?_
  refine hK11 _ _ ?_
  refine wp_seq_k fun K12 hK12 => ?_
  refine wp_region_lit ?_
  refine sB 1 [(12, .func (.func 49) #[] #[.pointer (some ⟨bb1, 0, none⟩)])] hF1 (by kernel_rfl) fun a1 hF1 => ?_
  refine wl (sC (f := 49) (args := #[.pointer (some ⟨bb1, 0, none⟩)]) hF1 (by kernel_rfl) rfl (by decide) (by kernel_rfl) (fun _ => by kernel_rfl) ?_)
  refine enterK 4 Try.func49 rfl rfl rfl ?_
  intro a2 hF2 QR13 hR13 hNR13
  refine wp_seq_k fun K14 hK14 => ?_
  refine wp_region_lit ?_
  refine sB 1 [(1, .int .i64 0)] hF2 (by kernel_rfl) fun a2 hF2 => ?_
  refine wpList_nil ?_
  refine hK14 _ _ ?_
  refine wp_seq_k fun K15 hK15 => ?_
  refine wp_region_lit ?_
  refine wl (eL 2 2 0 (v := .slice A l.length c) hF2 hM (by kernel_rfl) rfl rfl (by kernel_rfl) (by kernel_rfl) fun a2 w hF2 hM => ?_)
  refine wl (eM 3 (v := .int .i64 (trE l)) hF2 hM (by kernel_rfl) (yld_call (f := 50) (args := #[.slice A l.length c]) hF2 (by kernel_rfl) (fun _ => by kernel_rfl) (fun w hM => checkTrace_w A l _ w (hM.ok 1 _ rfl))) fun a2 w hF2 hM => ?_)
  refine sB 1 [(1, .int .i64 (trE l))] hF2 (by kernel_rfl) fun a2 hF2 => ?_
  refine wpList_nil ?_
  refine hK15 _ _ ?_
  refine wp_ret ?_
  refine hR13 _ _ ?_
  refine ret_of hF2 hM (.tmp rfl (.nil)) ⟨_, rfl, ?_⟩
  intro a1 hF1
  refine sB 1 [(5, .int .i64 (trE l))] hF1 (by kernel_rfl) fun a1 hF1 => ?_
  refine wpList_nil ?_
  refine hK12 _ _ ?_
  refine wp_seq_k fun K16 hK16 => ?_
  refine wp_region_lit ?_
  refine sB 2 [(14, .int .i64 (trE l)), (15, .bool (!decide (trE l = 0)))] hF1 (by kernel_rfl) fun a1 hF1 => ?_
  refine wpList_nil ?_
  refine hK16 _ _ ?_
  by_cases hz1 : trE l = 0
  · skip
    have hz2 := trE_ok hz1
    replace hF1 := hF1.c hF1 (i := 15) (v := .bool false) rfl (nT hz1)
    refine cF hF1 (by kernel_rfl) (by kernel_rfl) ?_
    refine wp_skip ?_
    refine hK10 _ _ ?_
    refine wp_region_lit ?_
    refine wl (eP 17 (v0 := .int .i64 (IntKind.i64.wrap (0 + 1))) (v := .int .i64 1) hF1 (by kernel_rfl) (fun _ => by kernel_rfl) (vi (by decide)) fun a1 hF1 => ?_)
    refine sB 1 [(8, .int .i64 1)] hF1 (by kernel_rfl) fun a1 hF1 => ?_
    refine wpList_nil ?_
    refine hK7 _ _ ?_
    refine rounds_k fun K17 hK17 => ?_
    refine wp_seq_k fun K18 hK18 => ?_
    refine wp_region_lit ?_
    refine wl (eP 9 (v0 := .bool (decide (1 < 2))) (v := .bool true) hF1 (by kernel_rfl) (fun _ => by kernel_rfl) (bT (by omega)) fun a1 hF1 => ?_)
    refine wpList_nil ?_
    refine hK18 _ _ ?_
    refine wp_seq_k fun K19 hK19 => ?_
    refine cT hF1 (by kernel_rfl) (by kernel_rfl) ?_
    refine wp_skip ?_
    refine hK19 _ _ ?_
    refine wp_seq_k fun K20 hK20 => ?_
    refine wp_block ?_
    refine wp_seq_k fun K21 hK21 => ?_
    refine wp_region_lit ?_
    refine sB 1 [(10, .pointer (some ⟨bb3, 1, none⟩))] hF1 (by kernel_rfl) fun a1 hF1 => ?_
    refine wl (eL 11 4 1 (v := .func (.func 51) #[] #[.pointer (some ⟨bb2, 0, none⟩)]) hF1 hM (by kernel_rfl) rfl rfl (by kernel_rfl) (by kernel_rfl) fun a1 w hF1 hM => ?_)
    refine sB 1 [(4, .func (.func 51) #[] #[.pointer (some ⟨bb2, 0, none⟩)])] hF1 (by kernel_rfl) fun a1 hF1 => ?_
    refine wpList_nil ?_
    refine hK21 _ _ ?_
    refine wp_seq_k fun K22 hK22 => ?_
    refine wp_region_lit ?_
    refine sB 1 [(12, .func (.func 51) #[] #[.pointer (some ⟨bb2, 0, none⟩)])] hF1 (by kernel_rfl) fun a1 hF1 => ?_
    refine wl (sC (f := 51) (args := #[.pointer (some ⟨bb2, 0, none⟩)]) hF1 (by kernel_rfl) rfl (by decide) (by kernel_rfl) (fun _ => by kernel_rfl) ?_)
    refine enterK 4 Try.func51 rfl rfl rfl ?_
    intro a2 hF2 QR23 hR23 hNR23
    refine wp_seq_k fun K24 hK24 => ?_
    refine wp_region_lit ?_
    refine sB 1 [(1, .int .i64 0)] hF2 (by kernel_rfl) fun a2 hF2 => ?_
    refine wpList_nil ?_
    refine hK24 _ _ ?_
    refine wp_seq_k fun K25 hK25 => ?_
    refine wp_region_lit ?_
    refine wl (eL 2 3 0 (v := .agg #[.int .i64 r, .int .i64 t]) hF2 hM (by kernel_rfl) rfl rfl (by kernel_rfl) (by kernel_rfl) fun a2 w hF2 hM => ?_)
    refine wl (eM 3 (v := .int .i64 (svE r t)) hF2 hM (by kernel_rfl) (yld_call (f := 16) (args := #[.agg #[.int .i64 r, .int .i64 t]]) hF2 (by kernel_rfl) (fun _ => by kernel_rfl) (fun w hM => svCheck_w r t w)) fun a2 w hF2 hM => ?_)
    refine sB 1 [(1, .int .i64 (svE r t))] hF2 (by kernel_rfl) fun a2 hF2 => ?_
    refine wpList_nil ?_
    refine hK25 _ _ ?_
    refine wp_ret ?_
    refine hR23 _ _ ?_
    refine ret_of hF2 hM (.tmp rfl (.nil)) ⟨_, rfl, ?_⟩
    intro a1 hF1
    refine sB 1 [(5, .int .i64 (svE r t))] hF1 (by kernel_rfl) fun a1 hF1 => ?_
    refine wpList_nil ?_
    refine hK22 _ _ ?_
    refine wp_seq_k fun K26 hK26 => ?_
    refine wp_region_lit ?_
    refine sB 2 [(14, .int .i64 (svE r t)), (15, .bool (!decide (svE r t = 0)))] hF1 (by kernel_rfl) fun a1 hF1 => ?_
    refine wpList_nil ?_
    refine hK26 _ _ ?_
    by_cases hz3 : svE r t = 0
    · skip
      have hz4 := svE_ok hz3
      exact absurd ((dr_2 hz1).trans hz3) h
    · skip
      replace hF1 := hF1.c hF1 (i := 15) (v := .bool true) rfl (nF hz3)
      refine cT hF1 (by kernel_rfl) (by kernel_rfl) ?_
      refine wp_seq_k fun K27 hK27 => ?_
      refine wp_region_lit ?_
      refine sB 2 [(16, .int .i64 (svE r t)), (2, .int .i64 (svE r t))] hF1 (by kernel_rfl) fun a1 hF1 => ?_
      refine wpList_nil ?_
      refine hK27 _ _ ?_
      refine wp_ret ?_
      refine hR3 _ _ ?_
      refine ret_of hF1 hM (.tmp rfl (.nil)) ⟨_, rfl, ?_⟩
      intro a hF
      refine sB 1 [(6, .int .i64 (svE r t))] hF (by kernel_rfl) fun a hF => ?_
      refine wpList_nil ?_
      refine hK2 _ _ ?_
      refine wp_seq_k fun K28 hK28 => ?_
      refine wp_seq_k fun K29 hK29 => ?_
      refine wp_region_lit ?_
      refine sB 1 [(15, .int .i64 (svE r t))] hF (by kernel_rfl) fun a hF => ?_
      refine wl (eP 16 (v0 := .bool (!decide (svE r t = 0))) (v := .bool true) hF (by kernel_rfl) (fun _ => by kernel_rfl) (nF hz3) fun a hF => ?_)
      refine wpList_nil ?_
      refine hK29 _ _ ?_
      refine cT hF (by kernel_rfl) (by kernel_rfl) ?_
      refine wp_seq_k fun K30 hK30 => ?_
      refine wp_region_lit ?_
      refine sB 3 [(17, .int .i64 (svE r t)), (4, .slice none 0 0), (5, .int .i64 (svE r t))] hF (by kernel_rfl) fun a hF => ?_
      refine wpList_nil ?_
      refine hK30 _ _ ?_
      refine wp_ret ?_
      refine hR0 _ _ ?_
      refine ret_of hF hM (.tmp rfl (.tmp rfl (.nil))) ?_
      exact ⟨ret_eq (by rw [dr_2 hz1]; rfl), hM.bel⟩
  · skip
    replace hF1 := hF1.c hF1 (i := 15) (v := .bool true) rfl (nF hz1)
    refine cT hF1 (by kernel_rfl) (by kernel_rfl) ?_
    refine wp_seq_k fun K31 hK31 => ?_
    refine wp_region_lit ?_
    refine sB 2 [(16, .int .i64 (trE l)), (2, .int .i64 (trE l))] hF1 (by kernel_rfl) fun a1 hF1 => ?_
    refine wpList_nil ?_
    refine hK31 _ _ ?_
    refine wp_ret ?_
    refine hR3 _ _ ?_
    refine ret_of hF1 hM (.tmp rfl (.nil)) ⟨_, rfl, ?_⟩
    intro a hF
    refine sB 1 [(6, .int .i64 (trE l))] hF (by kernel_rfl) fun a hF => ?_
    refine wpList_nil ?_
    refine hK2 _ _ ?_
    refine wp_seq_k fun K32 hK32 => ?_
    refine wp_seq_k fun K33 hK33 => ?_
    refine wp_region_lit ?_
    refine sB 1 [(15, .int .i64 (trE l))] hF (by kernel_rfl) fun a hF => ?_
    refine wl (eP 16 (v0 := .bool (!decide (trE l = 0))) (v := .bool true) hF (by kernel_rfl) (fun _ => by kernel_rfl) (nF hz1) fun a hF => ?_)
    refine wpList_nil ?_
    refine hK33 _ _ ?_
    refine cT hF (by kernel_rfl) (by kernel_rfl) ?_
    refine wp_seq_k fun K34 hK34 => ?_
    refine wp_region_lit ?_
    refine sB 3 [(17, .int .i64 (trE l)), (4, .slice none 0 0), (5, .int .i64 (trE l))] hF (by kernel_rfl) fun a hF => ?_
    refine wpList_nil ?_
    refine hK34 _ _ ?_
    refine wp_ret ?_
    refine hR0 _ _ ?_
    refine ret_of hF hM (.tmp rfl (.tmp rfl (.nil))) ?_
    exact ⟨ret_eq (by rw [dr_1 hz1]; rfl), hM.bel⟩

theorem drain_ok (r t : Int) (A : Option Addr) (l : List (Int × Int)) (c : Nat) (w0 : World) (hA : Ro w0 A (flat2 l)) (e1 : trE l = 0) (e2 : svE r t = 0) :
    Calls Try.prog 27 #[.slice A l.length c, .agg #[.int .i64 r, .int .i64 t]] w0 (RetOwn w0 (fun v => .tuple #[v, .int .i64 0]) 3 1 l.length ((drL r t l l.length).map (Value.int .i64))) := by
  have f1 := trE_ok e1
  have f2 := svE_ok e2
  refine enterK 55 Try.func27 rfl rfl rfl ?_
  intro a hF Q0 hR0 hN0
  have hM := Mem.start w0
  replace hM := hM.addOld 1 hA (Nat.le_refl _)
  have hz1 := trE_ok e1
  have hz2 := svE_ok e2
  refine wp_seq_k fun K1 hK1 => ?_
  refine wp_region_lit ?_
  refine wl (eN 2 2 (t := 54) (fun b => .pointer (some ⟨b, 0, none⟩)) #[.slice A l.length c] hF hM (by kernel_rfl) (fun _ => by kernel_rfl) fun bb1 a w hF hM => ?_)
  refine wl (eN 3 3 (t := 23) (fun b => .pointer (some ⟨b, 0, none⟩)) #[.int .i64 r, .int .i64 t] hF hM (by kernel_rfl) (fun _ => by kernel_rfl) fun bb2 a w hF hM => ?_)
  refine sB 2 [(4, .slice none 0 0), (5, .int .i64 0)] hF (by kernel_rfl) fun a hF => ?_
  refine wpList_nil ?_
  refine hK1 _ _ ?_
  refine wp_seq_k fun K2 hK2 => ?_
  refine wp_region_lit ?_
  refine sB 2 [(11, .func (.func 49) #[] #[.pointer (some ⟨bb1, 0, none⟩)]), (12, .func (.func 51) #[] #[.pointer (some ⟨bb2, 0, none⟩)])] hF (by kernel_rfl) fun a hF => ?_
  refine wl (eN 13 4 (t := 77) (fun b => .slice (some ⟨b, 0, none⟩) 2 2) #[.func (.func 49) #[] #[.pointer (some ⟨bb1, 0, none⟩)], .func (.func 51) #[] #[.pointer (some ⟨bb2, 0, none⟩)]] hF hM (by kernel_rfl) (fun _ => by kernel_rfl) fun bb3 a w hF hM => ?_)
  refine wl (sC (f := 34) (args := #[.slice (some ⟨bb3, 0, none⟩) 2 2]) hF (by kernel_rfl) rfl (by decide) (by kernel_rfl) (fun _ => by kernel_rfl) ?_)
  refine enterK 18 Try.func34 rfl rfl rfl ?_
  intro a1 hF1 QR3 hR3 hNR3
  refine wp_seq_k fun K4 hK4 => ?_
  refine wp_region_lit ?_
  refine sB 1 [(2, .int .i64 0)] hF1 (by kernel_rfl) fun a1 hF1 => ?_
  refine wpList_nil ?_
  refine hK4 _ _ ?_
  refine wp_seq_k fun K5 hK5 => ?_
  refine wp_seq_k fun K6 hK6 => ?_
  refine wp_region_lit ?_
  refine sB 3 [(6, .slice (some ⟨bb3, 0, none⟩) 2 2), (7, .int .i64 2), (8, .int .i64 0)] hF1 (by kernel_rfl) fun a1 hF1 => ?_
  refine wpList_nil ?_
  refine hK6 _ _ ?_
  refine wp_block ?_
  refine wp_loop_rounds 3 ?_
  refine rounds_k fun K7 hK7 => ?_
  refine wp_seq_k fun K8 hK8 => ?_
  refine wp_region_lit ?_
  refine wl (eP 9 (v0 := .bool (decide (0 < 2))) (v := .bool true) hF1 (by kernel_rfl) (fun _ => by kernel_rfl) (bT (by omega)) fun a1 hF1 => ?_)
  refine wpList_nil ?_
  refine hK8 _ _ ?_
  refine wp_seq_k fun K9 hK9 => ?_
  refine cT hF1 (by kernel_rfl) (by kernel_rfl) ?_
  refine wp_skip ?_
  refine hK9 _ _ ?_
  refine wp_seq_k fun K10 hK10 => ?_
  refine wp_block ?_
  refine wp_seq_k fun K11 hK11 => ?_
  refine wp_region_lit ?_
  refine sB 1 [(10, .pointer (some ⟨bb3, 0, none⟩))] hF1 (by kernel_rfl) fun a1 hF1 => ?_
  refine wl (eL 11 4 0 (v := .func (.func 49) #[] #[.pointer (some ⟨bb1, 0, none⟩)]) hF1 hM (by kernel_rfl) rfl rfl (by kernel_rfl) (by kernel_rfl) fun a1 w hF1 hM => ?_)
  refine sB 1 [(4, .func (.func 49) #[] #[.pointer (some ⟨bb1, 0, none⟩)])] hF1 (by kernel_rfl) fun a1 hF1 => ?_
  refine wpList_nil ?_
  refine hK11 _ _ ?_
  refine wp_seq_k fun K12 hK12 => ?_
  refine wp_region_lit ?_
  refine sB 1 [(12, .func (.func 49) #[] #[.pointer (some ⟨bb1, 0, none⟩)])] hF1 (by kernel_rfl) fun a1 hF1 => ?_
  refine wl (sC (f := 49) (args := #[.pointer (some ⟨bb1, 0, none⟩)]) hF1 (by kernel_rfl) rfl (by decide) (by kernel_rfl) (fun _ => by kernel_rfl) ?_)
  refine enterK 4 Try.func49 rfl rfl rfl ?_
  intro a2 hF2 QR13 hR13 hNR13
  refine wp_seq_k fun K14 hK14 => ?_
  refine wp_region_lit ?_
  refine sB 1 [(1, .int .i64 0)] hF2 (by kernel_rfl) fun a2 hF2 => ?_
  refine wpList_nil ?_
  refine hK14 _ _ ?_
  refine wp_seq_k fun K15 hK15 => ?_
  refine wp_region_lit ?_
  refine wl (eL 2 2 0 (v := .slice A l.length c) hF2 hM (by kernel_rfl) rfl rfl (by kernel_rfl) (by kernel_rfl) fun a2 w hF2 hM => ?_)
  refine wl (eM 3 (v := .int .i64 (trE l)) hF2 hM (by kernel_rfl) (yld_call (f := 50) (args := #[.slice A l.length c]) hF2 (by kernel_rfl) (fun _ => by kernel_rfl) (fun w hM => checkTrace_w A l _ w (hM.ok 1 _ rfl))) fun a2 w hF2 hM => ?_)
  refine sB 1 [(1, .int .i64 (trE l))] hF2 (by kernel_rfl) fun a2 hF2 => ?_
  refine wpList_nil ?_
  refine hK15 _ _ ?_
  refine wp_ret ?_
  refine hR13 _ _ ?_
  refine ret_of hF2 hM (.tmp rfl (.nil)) ⟨_, rfl, ?_⟩
  intro a1 hF1
  refine sB 1 [(5, .int .i64 (trE l))] hF1 (by kernel_rfl) fun a1 hF1 => ?_
  refine wpList_nil ?_
  refine hK12 _ _ ?_
  refine wp_seq_k fun K16 hK16 => ?_
  refine wp_region_lit ?_
  refine sB 1 [(14, .int .i64 (trE l))] hF1 (by kernel_rfl) fun a1 hF1 => ?_
  refine wl (eP 15 (v0 := .bool (!decide (trE l = 0))) (v := .bool false) hF1 (by kernel_rfl) (fun _ => by kernel_rfl) (nT e1) fun a1 hF1 => ?_)
  refine wpList_nil ?_
  refine hK16 _ _ ?_
  refine cF hF1 (by kernel_rfl) (by kernel_rfl) ?_
  refine wp_skip ?_
  refine hK10 _ _ ?_
  refine wp_region_lit ?_
  refine wl (eP 17 (v0 := .int .i64 (IntKind.i64.wrap (0 + 1))) (v := .int .i64 1) hF1 (by kernel_rfl) (fun _ => by kernel_rfl) (vi (by decide)) fun a1 hF1 => ?_)
  refine sB 1 [(8, .int .i64 1)] hF1 (by kernel_rfl) fun a1 hF1 => ?_
  refine wpList_nil ?_
  refine hK7 _ _ ?_
  refine rounds_k fun K17 hK17 => ?_
  refine wp_seq_k fun K18 hK18 => ?_
  refine wp_region_lit ?_
  refine wl (eP 9 (v0 := .bool (decide (1 < 2))) (v := .bool true) hF1 (by kernel_rfl) (fun _ => by kernel_rfl) (bT (by omega)) fun a1 hF1 => ?_)
  refine wpList_nil ?_
  refine hK18 _ _ ?_
  refine wp_seq_k fun K19 hK19 => ?_
  refine cT hF1 (by kernel_rfl) (by kernel_rfl) ?_
  refine wp_skip ?_
  refine hK19 _ _ ?_
  refine wp_seq_k fun K20 hK20 => ?_
  refine wp_block ?_
  refine wp_seq_k fun K21 hK21 => ?_
  refine wp_region_lit ?_
  refine sB 1 [(10, .pointer (some ⟨bb3, 1, none⟩))] hF1 (by kernel_rfl) fun a1 hF1 => ?_
  refine wl (eL 11 4 1 (v := .func (.func 51) #[] #[.pointer (some ⟨bb2, 0, none⟩)]) hF1 hM (by kernel_rfl) rfl rfl (by kernel_rfl) (by kernel_rfl) fun a1 w hF1 hM => ?_)
  refine sB 1 [(4, .func (.func 51) #[] #[.pointer (some ⟨bb2, 0, none⟩)])] hF1 (by kernel_rfl) fun a1 hF1 => ?_
  refine wpList_nil ?_
  refine hK21 _ _ ?_
  refine wp_seq_k fun K22 hK22 => ?_
  refine wp_region_lit ?_
  refine sB 1 [(12, .func (.func 51) #[] #[.pointer (some ⟨bb2, 0, none⟩)])] hF1 (by kernel_rfl) fun a1 hF1 => ?_
  refine wl (sC (f := 51) (args := #[.pointer (some ⟨bb2, 0, none⟩)]) hF1 (by kernel_rfl) rfl (by decide) (by kernel_rfl) (fun _ => by kernel_rfl) ?_)
  refine enterK 4 Try.func51 rfl rfl rfl ?_
  intro a2 hF2 QR23 hR23 hNR23
  refine wp_seq_k fun K24 hK24 => ?_
  refine wp_region_lit ?_
  refine sB 1 [(1, .int .i64 0)] hF2 (by kernel_rfl) fun a2 hF2 => ?_
  refine wpList_nil ?_
  refine hK24 _ _ ?_
  refine wp_seq_k fun K25 hK25 => ?_
  refine wp_region_lit ?_
  refine wl (eL 2 3 0 (v := .agg #[.int .i64 r, .int .i64 t]) hF2 hM (by kernel_rfl) rfl rfl (by kernel_rfl) (by kernel_rfl) fun a2 w hF2 hM => ?_)
  refine wl (eM 3 (v := .int .i64 (svE r t)) hF2 hM (by kernel_rfl) (yld_call (f := 16) (args := #[.agg #[.int .i64 r, .int .i64 t]]) hF2 (by kernel_rfl) (fun _ => by kernel_rfl) (fun w hM => svCheck_w r t w)) fun a2 w hF2 hM => ?_)
  refine sB 1 [(1, .int .i64 (svE r t))] hF2 (by kernel_rfl) fun a2 hF2 => ?_
  refine wpList_nil ?_
  refine hK25 _ _ ?_
  refine wp_ret ?_
  refine hR23 _ _ ?_
  refine ret_of hF2 hM (.tmp rfl (.nil)) ⟨_, rfl, ?_⟩
  intro a1 hF1
  refine sB 1 [(5, .int .i64 (svE r t))] hF1 (by kernel_rfl) fun a1 hF1 => ?_
  refine wpList_nil ?_
  refine hK22 _ _ ?_
  refine wp_seq_k fun K26 hK26 => ?_
  refine wp_region_lit ?_
  refine sB 1 [(14, .int .i64 (svE r t))] hF1 (by kernel_rfl) fun a1 hF1 => ?_
  refine wl (eP 15 (v0 := .bool (!decide (svE r t = 0))) (v := .bool false) hF1 (by kernel_rfl) (fun _ => by kernel_rfl) (nT e2) fun a1 hF1 => ?_)
  refine wpList_nil ?_
  refine hK26 _ _ ?_
  refine cF hF1 (by kernel_rfl) (by kernel_rfl) ?_
  refine wp_skip ?_
  refine hK20 _ _ ?_
  refine wp_region_lit ?_
  refine wl (eP 17 (v0 := .int .i64 (IntKind.i64.wrap (1 + 1))) (v := .int .i64 2) hF1 (by kernel_rfl) (fun _ => by kernel_rfl) (vi (by decide)) fun a1 hF1 => ?_)
  refine sB 1 [(8, .int .i64 2)] hF1 (by kernel_rfl) fun a1 hF1 => ?_
  refine wpList_nil ?_
  refine hK17 _ _ ?_
  refine rounds_k fun K27 hK27 => ?_
  refine wp_seq_k fun K28 hK28 => ?_
  refine wp_region_lit ?_
  refine wl (eP 9 (v0 := .bool (decide (2 < 2))) (v := .bool false) hF1 (by kernel_rfl) (fun _ => by kernel_rfl) (bF (by omega)) fun a1 hF1 => ?_)
  refine wpList_nil ?_
  refine hK28 _ _ ?_
  refine wp_seq_k fun K29 hK29 => ?_
  refine cF hF1 (by kernel_rfl) (by kernel_rfl) ?_
  refine wp_exit ?_
  refine hK5 _ _ ?_
  refine wp_seq_k fun K30 hK30 => ?_
  refine wp_region_lit ?_
  refine sB 1 [(2, .int .i64 0)] hF1 (by kernel_rfl) fun a1 hF1 => ?_
  refine wpList_nil ?_
  refine hK30 _ _ ?_
  refine wp_ret ?_
  refine hR3 _ _ ?_
  refine ret_of hF1 hM (.tmp rfl (.nil)) ⟨_, rfl, ?_⟩
  intro a hF
  refine sB 1 [(6, .int .i64 0)] hF (by kernel_rfl) fun a hF => ?_
  refine wpList_nil ?_
  refine hK2 _ _ ?_
  refine wp_seq_k fun K31 hK31 => ?_
  refine wp_seq_k fun K32 hK32 => ?_
  refine wp_region_lit ?_
  refine sB 1 [(15, .int .i64 0)] hF (by kernel_rfl) fun a hF => ?_
  refine wl (eP 16 (v0 := .bool (!decide (0 = 0))) (v := .bool false) hF (by kernel_rfl) (fun _ => by kernel_rfl) (nT (by omega)) fun a hF => ?_)
  refine wpList_nil ?_
  refine hK32 _ _ ?_
  refine cF hF (by kernel_rfl) (by kernel_rfl) ?_
  refine wp_skip ?_
  refine hK31 _ _ ?_
  refine wp_seq_k fun K33 hK33 => ?_
  refine wp_region_lit ?_
  refine wl (eL 18 2 0 (v := .slice A l.length c) hF hM (by kernel_rfl) rfl rfl (by kernel_rfl) (by kernel_rfl) fun a w hF hM => ?_)
  refine sB 1 [(19, .int .i64 (l.length : Int))] hF (by kernel_rfl) fun a hF => ?_
  refine wl (sMake0 20 5 l.length (e := 3) (size := 1) (bytes := 8) (z := .int .i64 0) hF hM (by kernel_rfl) rfl (by kernel_rfl) (by kernel_rfl) (by kernel_rfl) (by omega) (by unfold maxLen; omega) fun bb4 a w hF hM => ?_)
  refine sB 1 [(7, .slice (some ⟨bb4, 0, none⟩) 0 l.length)] hF (by kernel_rfl) fun a hF => ?_
  refine wpList_nil ?_
  refine hK33 _ _ ?_
  refine wp_seq_k fun K34 hK34 => ?_
  refine wp_region_lit ?_
  refine sB 1 [(8, .int .i64 0)] hF (by kernel_rfl) fun a hF => ?_
  refine wpList_nil ?_
  refine hK34 _ _ ?_
  refine wp_seq_k fun K35 hK35 => ?_
  refine wp_seq_k fun K36 hK36 => ?_
  refine wp_region_lit ?_
  refine wl (eL 21 2 0 (v := .slice A l.length c) hF hM (by kernel_rfl) rfl rfl (by kernel_rfl) (by kernel_rfl) fun a w hF hM => ?_)
  refine sB 2 [(22, .int .i64 (l.length : Int)), (23, .int .i64 0)] hF (by kernel_rfl) fun a hF => ?_
  refine wpList_nil ?_
  refine hK36 _ _ ?_
  refine wp_block ?_
  refine wp_loop_k (G := Nat × Int × List Int × Option Addr × Nat) (fun gg a w => Fr 55 [(7, some (.slice gg.2.2.2.1 gg.1 gg.2.2.2.2)), (8, some (.int .i64 gg.2.1)), (23, some (.int .i64 (gg.1 : Int))), (3, some (.pointer (some ⟨bb2, 0, none⟩))), (4, some (.slice none 0 0)), (5, some (.int .i64 0)), (21, some (.slice A l.length c)), (22, some (.int .i64 (l.length : Int)))] a ∧ Mem w0.heap.size w0 [(1, some (.ro A (flat2 l))), (3, some (.row bb2 23 #[.int .i64 r, .int .i64 t])), (5, some (.own (.slice gg.2.2.2.1 gg.1 gg.2.2.2.2) 3 1 gg.1 (gg.2.2.1.map (Value.int .i64))))] w ∧ ((gg.1 : Int) ≤ (l.length : Int)) ∧ (gg.2.2.1 = drL r t l gg.1) ∧ (gg.2.1 = enN r l gg.1) ∧ (0 ≤ gg.2.1) ∧ (gg.2.1 ≤ 2305843009213693952 + (gg.1 : Int) * 1099511627776)) (fun gg => l.length - gg.1) (0, 0, [], (some ⟨bb4, 0, none⟩), l.length) ?_ ?_
  · refine ⟨(((((((((Fr.nil hF).c hF (i := 22) rfl rfl).c hF (i := 21) rfl rfl).c hF (i := 5) rfl rfl).c hF (i := 4) rfl rfl).c hF (i := 3) rfl rfl).c hF (i := 23) rfl (vi (show (0 : Int) = (0 : Int) from by omega))).c hF (i := 8) rfl rfl).c hF (i := 7) rfl rfl), (hM.sub (((Sub.nil.c (k := 5) rfl rfl).c (k := 3) rfl rfl).c (k := 1) rfl rfl)), (show (0 : Int) ≤ (l.length : Int) from by omega), (show ([]) = drL r t l 0 from by rfl), (show 0 = enN r l 0 from by rfl), (show 0 ≤ 0 from by omega), (show 0 ≤ 2305843009213693952 + (0 : Int) * 1099511627776 from by omega)⟩
  · intro gg a w hI
    intro K37 hK37
    obtain ⟨m, en, got, G, gc⟩ := gg
    try dsimp only at hI hK37
    obtain ⟨hF, hM, hz3, hz4, hz5, hz6, hz7⟩ := hI
    refine wp_seq_k fun K38 hK38 => ?_
    refine wp_region_lit ?_
    refine sB 1 [(24, .bool (decide ((m : Int) < (l.length : Int))))] hF (by kernel_rfl) fun a hF => ?_
    refine wpList_nil ?_
    refine hK38 _ _ ?_
    refine wp_seq_k fun K39 hK39 => ?_
    by_cases hz8 : (m : Int) < (l.length : Int)
    · skip
      replace hF := hF.c hF (i := 24) (v := .bool true) rfl (bT hz8)
      refine cT hF (by kernel_rfl) (by kernel_rfl) ?_
      refine wp_skip ?_
      refine hK39 _ _ ?_
      refine wp_seq_k fun K40 hK40 => ?_
      refine wp_block ?_
      refine wp_seq_k fun K41 hK41 => ?_
      have hq := tr_all e1 m (by omega)
      refine wp_region_lit ?_
      refine wl (eM 25 (v := .pointer (some (ea A (m * 2)))) hF hM (by kernel_rfl) (yld_ix (kd := .i64) (e := 64) (len := l.length) (cap := c) (i := (m : Int)) (size := 2) (A := A) hF rfl (by kernel_rfl) (by kernel_rfl) (by kernel_rfl) (by kernel_rfl) (by kernel_rfl) (roK 1 rfl) (by omega) (by omega) (by rw [flat2_length]; omega)) fun a w hF hM => ?_)
      refine wl (eM 26 (v := .agg #[.int .i64 (pr l m).1, .int .i64 (pr l m).2]) hF hM (by kernel_rfl) (yld_roM (A := A) (j := m * 2) (us := [.int .i64 (pr l m).1, .int .i64 (pr l m).2]) hF rfl (by kernel_rfl) (by kernel_rfl) (roK 1 rfl) (by kernel_rfl) rfl (pr_both (k := m) (by omega) (by omega))) fun a w hF hM => ?_)
      refine wl (eN 10 6 (t := 64) (fun b => .pointer (some ⟨b, 0, none⟩)) #[.int .i64 0, .int .i64 0] hF hM (by kernel_rfl) (fun _ => by kernel_rfl) fun bb5 a w hF hM => ?_)
      refine wl (sStore (i := 6) (off := 0) (cs' := #[.int .i64 (pr l m).1, .int .i64 (pr l m).2]) hF hM (by kernel_rfl) rfl rfl (by kernel_rfl) (by kernel_rfl) rfl (by kernel_rfl) fun w hM => ?_)
      refine wpList_nil ?_
      refine hK41 _ _ ?_
      refine wp_seq_k fun K42 hK42 => ?_
      have hz9 : 0 ≤ (pr l m).1 * r ∧ (pr l m).1 * r ≤ 2305843009213693952 := mul_bd (0) (1099511627776) (1) (2097152) (by omega) (by omega) (by omega) (by omega) (by decide)
      refine rF (by kernel_rfl) (by kernel_rfl) (fun S a w => ∃ bb6 : Nat, Fr 55 [(3, some (.pointer (some ⟨bb2, 0, none⟩))), (4, some (.slice none 0 0)), (5, some (.int .i64 0)), (7, some (.slice G m gc)), (8, (cond (S.getD 12 false) (some (.int .i64 ((max en ((pr l m).1 * r)) + (pr l m).2 * 1048576))) (some (.int .i64 en)))), (10, some (.pointer (some ⟨bb5, 0, none⟩))), (21, some (.slice A l.length c)), (22, some (.int .i64 (l.length : Int))), (23, some (.int .i64 (m : Int))), (27, (cond (S.getD 0 false) (some (.int .i64 en)) none)), (28, (cond (S.getD 1 false) (some (.pointer (some ⟨bb5, 0, none⟩))) none)), (29, (cond (S.getD 2 false) (some (.int .i64 (pr l m).1)) none)), (30, (cond (S.getD 3 false) (some (.pointer (some ⟨bb2, 0, none⟩))) none)), (31, (cond (S.getD 4 false) (some (.int .i64 r)) none)), (32, (cond (S.getD 5 false) (some (.int .i64 ((pr l m).1 * r))) none)), (33, (cond (S.getD 6 false) (some (.slice (some ⟨bb6, 0, none⟩) 1 1)) none)), (34, (cond (S.getD 7 false) (some (.int .i64 (max en ((pr l m).1 * r)))) none)), (35, (cond (S.getD 8 false) (some (.pointer (some ⟨bb5, 1, none⟩))) none)), (36, (cond (S.getD 9 false) (some (.int .i64 (pr l m).2)) none)), (37, (cond (S.getD 10 false) (some (.int .i64 ((pr l m).2 * 1048576))) none)), (38, (cond (S.getD 11 false) (some (.int .i64 ((max en ((pr l m).1 * r)) + (pr l m).2 * 1048576))) none))] a ∧ Mem w0.heap.size w0 [(1, some (.ro A (flat2 l))), (3, some (.row bb2 23 #[.int .i64 r, .int .i64 t])), (5, some (.own (.slice G m gc) 3 1 m (got.map (Value.int .i64)))), (6, some (.row bb5 64 #[.int .i64 (pr l m).1, .int .i64 (pr l m).2])), (7, (cond (S.getD 6 false) (some (.row bb6 3 #[.int .i64 ((pr l m).1 * r)])) none))] w) ?_ ?_ ?_
      · exact ⟨0, ((((((((((((((((((((((Fr.nil hF).co hF (i := 38) (by kernel_rfl)).co hF (i := 37) (by kernel_rfl)).co hF (i := 36) (by kernel_rfl)).co hF (i := 35) (by kernel_rfl)).co hF (i := 34) (by kernel_rfl)).co hF (i := 33) (by kernel_rfl)).co hF (i := 32) (by kernel_rfl)).co hF (i := 31) (by kernel_rfl)).co hF (i := 30) (by kernel_rfl)).co hF (i := 29) (by kernel_rfl)).co hF (i := 28) (by kernel_rfl)).co hF (i := 27) (by kernel_rfl)).co hF (i := 23) (by kernel_rfl)).co hF (i := 22) (by kernel_rfl)).co hF (i := 21) (by kernel_rfl)).co hF (i := 10) (by kernel_rfl)).co hF (i := 8) (by kernel_rfl)).co hF (i := 7) (by kernel_rfl)).co hF (i := 5) (by kernel_rfl)).co hF (i := 4) (by kernel_rfl)).co hF (i := 3) (by kernel_rfl)), hM.drew.sub (((((Sub.nil.co (k := 7) (by kernel_rfl)).co (k := 6) (by kernel_rfl)).co (k := 5) (by kernel_rfl)).co (k := 3) (by kernel_rfl)).co (k := 1) (by kernel_rfl))⟩
      · refine stC ?_ (stC ?_ (stC ?_ (stC ?_ (stC ?_ (stC ?_ (stC ?_ (stC ?_ (stC ?_ (stC ?_ (stC ?_ (stC ?_ (stC ?_ (trivial)))))))))))))
        · intro s0 s1 s2 s3 s4 s5 s6 s7 s8 s9 s10 s11 s12 hc hi hp a w hS
          obtain rfl : s0 = false := hi
          obtain rfl : s12 = false := hc.f 12 0 (by kernel_rfl) rfl
          obtain ⟨bb6, hF, hM⟩ := hS
          refine eP 27 (v0 := .int .i64 en) (v := .int .i64 en) hF (by kernel_rfl) (fun _ => by kernel_rfl) rfl fun a hF => ?_
          exact ⟨bb6, ((hF.repl 9 (by kernel_rfl)).cast (by kernel_rfl)), (hM.cast (by kernel_rfl))⟩
        · intro s0 s1 s2 s3 s4 s5 s6 s7 s8 s9 s10 s11 s12 hc hi hp a w hS
          obtain rfl : s1 = false := hi
          obtain ⟨bb6, hF, hM⟩ := hS
          refine eP 28 (v0 := .pointer (some ⟨bb5, 0, none⟩)) (v := .pointer (some ⟨bb5, 0, none⟩)) hF (by kernel_rfl) (fun _ => by kernel_rfl) rfl fun a hF => ?_
          exact ⟨bb6, ((hF.repl 10 (by kernel_rfl)).cast (by kernel_rfl)), (hM.cast (by kernel_rfl))⟩
        · intro s0 s1 s2 s3 s4 s5 s6 s7 s8 s9 s10 s11 s12 hc hi hp a w hS
          obtain rfl : s2 = false := hi
          obtain rfl : s1 = true := hp 1 (by kernel_rfl)
          obtain ⟨bb6, hF, hM⟩ := hS
          refine eL 29 6 0 (v := .int .i64 (pr l m).1) hF hM (by kernel_rfl) rfl rfl (by kernel_rfl) (by kernel_rfl) fun a w hF hM => ?_
          exact ⟨bb6, ((hF.repl 11 (by kernel_rfl)).cast (by kernel_rfl)), (hM.cast (by kernel_rfl))⟩
        · intro s0 s1 s2 s3 s4 s5 s6 s7 s8 s9 s10 s11 s12 hc hi hp a w hS
          obtain rfl : s3 = false := hi
          obtain ⟨bb6, hF, hM⟩ := hS
          refine eP 30 (v0 := .pointer (some ⟨bb2, 0, none⟩)) (v := .pointer (some ⟨bb2, 0, none⟩)) hF (by kernel_rfl) (fun _ => by kernel_rfl) rfl fun a hF => ?_
          exact ⟨bb6, ((hF.repl 12 (by kernel_rfl)).cast (by kernel_rfl)), (hM.cast (by kernel_rfl))⟩
        · intro s0 s1 s2 s3 s4 s5 s6 s7 s8 s9 s10 s11 s12 hc hi hp a w hS
          obtain rfl : s4 = false := hi
          obtain rfl : s3 = true := hp 3 (by kernel_rfl)
          obtain ⟨bb6, hF, hM⟩ := hS
          refine eL 31 3 0 (v := .int .i64 r) hF hM (by kernel_rfl) rfl rfl (by kernel_rfl) (by kernel_rfl) fun a w hF hM => ?_
          exact ⟨bb6, ((hF.repl 13 (by kernel_rfl)).cast (by kernel_rfl)), (hM.cast (by kernel_rfl))⟩
        · intro s0 s1 s2 s3 s4 s5 s6 s7 s8 s9 s10 s11 s12 hc hi hp a w hS
          obtain rfl : s5 = false := hi
          obtain rfl : s4 = true := hp 4 (by kernel_rfl)
          obtain rfl : s2 = true := hp 2 (by kernel_rfl)
          obtain ⟨bb6, hF, hM⟩ := hS
          refine eP 32 (v0 := .int .i64 (IntKind.i64.wrap ((pr l m).1 * r))) (v := .int .i64 ((pr l m).1 * r)) hF (by kernel_rfl) (fun _ => by kernel_rfl) (wi (by omega)) fun a hF => ?_
          exact ⟨bb6, ((hF.repl 14 (by kernel_rfl)).cast (by kernel_rfl)), (hM.cast (by kernel_rfl))⟩
        · intro s0 s1 s2 s3 s4 s5 s6 s7 s8 s9 s10 s11 s12 hc hi hp a w hS
          obtain rfl : s6 = false := hi
          obtain rfl : s5 = true := hp 5 (by kernel_rfl)
          obtain ⟨bb6, hF, hM⟩ := hS
          refine eN 33 7 (t := 3) (fun b => .slice (some ⟨b, 0, none⟩) 1 1) #[.int .i64 ((pr l m).1 * r)] hF hM (by kernel_rfl) (fun _ => by kernel_rfl) fun bb6 a w hF hM => ?_
          exact ⟨bb6, ((hF.repl 15 (by kernel_rfl)).cast (by kernel_rfl)), ((hM.repl 4 (by kernel_rfl)).cast (by kernel_rfl))⟩
        · intro s0 s1 s2 s3 s4 s5 s6 s7 s8 s9 s10 s11 s12 hc hi hp a w hS
          obtain rfl : s7 = false := hi
          obtain rfl : s6 = true := hp 6 (by kernel_rfl)
          obtain rfl : s0 = true := hp 0 (by kernel_rfl)
          obtain ⟨bb6, hF, hM⟩ := hS
          refine eM 34 (v := .int .i64 (max en ((pr l m).1 * r))) hF hM (by kernel_rfl) (yld_call (f := 52) (args := #[.int .i64 en, .slice (some ⟨bb6, 0, none⟩) 1 1]) hF (by kernel_rfl) (fun _ => by kernel_rfl) (fun w hM => greatest_w en ((pr l m).1 * r) (some ⟨bb6, 0, none⟩) _ w (hM.roRow (k := 7) rfl))) fun a w hF hM => ?_
          exact ⟨bb6, ((hF.repl 16 (by kernel_rfl)).cast (by kernel_rfl)), (hM.cast (by kernel_rfl))⟩
        · intro s0 s1 s2 s3 s4 s5 s6 s7 s8 s9 s10 s11 s12 hc hi hp a w hS
          obtain rfl : s8 = false := hi
          obtain ⟨bb6, hF, hM⟩ := hS
          refine eP 35 (v0 := .pointer (some ⟨bb5, 1, none⟩)) (v := .pointer (some ⟨bb5, 1, none⟩)) hF (by kernel_rfl) (fun _ => by kernel_rfl) rfl fun a hF => ?_
          exact ⟨bb6, ((hF.repl 17 (by kernel_rfl)).cast (by kernel_rfl)), (hM.cast (by kernel_rfl))⟩
        · intro s0 s1 s2 s3 s4 s5 s6 s7 s8 s9 s10 s11 s12 hc hi hp a w hS
          obtain rfl : s9 = false := hi
          obtain rfl : s8 = true := hp 8 (by kernel_rfl)
          obtain ⟨bb6, hF, hM⟩ := hS
          refine eL 36 6 1 (v := .int .i64 (pr l m).2) hF hM (by kernel_rfl) rfl rfl (by kernel_rfl) (by kernel_rfl) fun a w hF hM => ?_
          exact ⟨bb6, ((hF.repl 18 (by kernel_rfl)).cast (by kernel_rfl)), (hM.cast (by kernel_rfl))⟩
        · intro s0 s1 s2 s3 s4 s5 s6 s7 s8 s9 s10 s11 s12 hc hi hp a w hS
          obtain rfl : s10 = false := hi
          obtain rfl : s9 = true := hp 9 (by kernel_rfl)
          obtain ⟨bb6, hF, hM⟩ := hS
          refine eP 37 (v0 := .int .i64 (IntKind.i64.wrap ((pr l m).2 * 1048576))) (v := .int .i64 ((pr l m).2 * 1048576)) hF (by kernel_rfl) (fun _ => by kernel_rfl) (wi (by omega)) fun a hF => ?_
          exact ⟨bb6, ((hF.repl 19 (by kernel_rfl)).cast (by kernel_rfl)), (hM.cast (by kernel_rfl))⟩
        · intro s0 s1 s2 s3 s4 s5 s6 s7 s8 s9 s10 s11 s12 hc hi hp a w hS
          obtain rfl : s11 = false := hi
          obtain rfl : s10 = true := hp 10 (by kernel_rfl)
          obtain rfl : s7 = true := hp 7 (by kernel_rfl)
          obtain ⟨bb6, hF, hM⟩ := hS
          refine eP 38 (v0 := .int .i64 (IntKind.i64.wrap ((max en ((pr l m).1 * r)) + (pr l m).2 * 1048576))) (v := .int .i64 ((max en ((pr l m).1 * r)) + (pr l m).2 * 1048576)) hF (by kernel_rfl) (fun _ => by kernel_rfl) (wi (by omega)) fun a hF => ?_
          exact ⟨bb6, ((hF.repl 20 (by kernel_rfl)).cast (by kernel_rfl)), (hM.cast (by kernel_rfl))⟩
        · intro s0 s1 s2 s3 s4 s5 s6 s7 s8 s9 s10 s11 s12 hc hi hp a w hS
          obtain rfl : s12 = false := hi
          obtain rfl : s11 = true := hp 11 (by kernel_rfl)
          obtain ⟨bb6, hF, hM⟩ := hS
          refine eP 8 (v0 := .int .i64 ((max en ((pr l m).1 * r)) + (pr l m).2 * 1048576)) (v := .int .i64 ((max en ((pr l m).1 * r)) + (pr l m).2 * 1048576)) hF (by kernel_rfl) (fun _ => by kernel_rfl) rfl fun a hF => ?_
          exact ⟨bb6, ((hF.repl 4 (by kernel_rfl)).cast (by kernel_rfl)), (hM.cast (by kernel_rfl))⟩
      · intro a w hS
        obtain ⟨bb6, hF, hM⟩ := hS
        replace hF : Fr 55 [(3, some (.pointer (some ⟨bb2, 0, none⟩))), (4, some (.slice none 0 0)), (5, some (.int .i64 0)), (7, some (.slice G m gc)), (8, some (.int .i64 ((max en ((pr l m).1 * r)) + (pr l m).2 * 1048576))), (10, some (.pointer (some ⟨bb5, 0, none⟩))), (21, some (.slice A l.length c)), (22, some (.int .i64 (l.length : Int))), (23, some (.int .i64 (m : Int))), (27, some (.int .i64 en)), (28, some (.pointer (some ⟨bb5, 0, none⟩))), (29, some (.int .i64 (pr l m).1)), (30, some (.pointer (some ⟨bb2, 0, none⟩))), (31, some (.int .i64 r)), (32, some (.int .i64 ((pr l m).1 * r))), (33, some (.slice (some ⟨bb6, 0, none⟩) 1 1)), (34, some (.int .i64 (max en ((pr l m).1 * r)))), (35, some (.pointer (some ⟨bb5, 1, none⟩))), (36, some (.int .i64 (pr l m).2)), (37, some (.int .i64 ((pr l m).2 * 1048576))), (38, some (.int .i64 ((max en ((pr l m).1 * r)) + (pr l m).2 * 1048576)))] a := hF.cast (by kernel_rfl)
        replace hM : Mem w0.heap.size w0 [(1, some (.ro A (flat2 l))), (3, some (.row bb2 23 #[.int .i64 r, .int .i64 t])), (5, some (.own (.slice G m gc) 3 1 m (got.map (Value.int .i64)))), (6, some (.row bb5 64 #[.int .i64 (pr l m).1, .int .i64 (pr l m).2])), (7, some (.row bb6 3 #[.int .i64 ((pr l m).1 * r)]))] w := hM.cast (by kernel_rfl)
        refine hK42 _ _ ?_
        have := ediv_le_self_of (p := (max en ((pr l m).1 * r)) + (pr l m).2 * 1048576 + r - 1) (q := r) (by omega) (by omega)
        refine rF (by kernel_rfl) (by kernel_rfl) (fun S a w => ∃ bb7 : Nat, ∃ AA8 : Option Addr, ∃ cc8 : Nat, Fr 55 [(3, some (.pointer (some ⟨bb2, 0, none⟩))), (4, some (.slice none 0 0)), (5, some (.int .i64 0)), (7, (cond (S.getD 14 false) (some (.slice AA8 (m + 1) cc8)) (some (.slice G m gc)))), (8, some (.int .i64 ((max en ((pr l m).1 * r)) + (pr l m).2 * 1048576))), (21, some (.slice A l.length c)), (22, some (.int .i64 (l.length : Int))), (23, some (.int .i64 (m : Int))), (39, (cond (S.getD 0 false) (some (.slice G m gc)) none)), (40, (cond (S.getD 1 false) (some (.pointer (some ⟨bb2, 1, none⟩))) none)), (41, (cond (S.getD 2 false) (some (.int .i64 t)) none)), (42, (cond (S.getD 3 false) (some (.int .i64 ((max en ((pr l m).1 * r)) + (pr l m).2 * 1048576))) none)), (43, (cond (S.getD 4 false) (some (.pointer (some ⟨bb2, 0, none⟩))) none)), (44, (cond (S.getD 5 false) (some (.int .i64 r)) none)), (45, (cond (S.getD 6 false) (some (.int .i64 ((max en ((pr l m).1 * r)) + (pr l m).2 * 1048576 + r))) none)), (46, (cond (S.getD 7 false) (some (.int .i64 ((max en ((pr l m).1 * r)) + (pr l m).2 * 1048576 + r - 1))) none)), (47, (cond (S.getD 8 false) (some (.pointer (some ⟨bb2, 0, none⟩))) none)), (48, (cond (S.getD 9 false) (some (.int .i64 r)) none)), (49, (cond (S.getD 10 false) (some (.int .i64 (((max en ((pr l m).1 * r)) + (pr l m).2 * 1048576 + r - 1) / r))) none)), (50, (cond (S.getD 11 false) (some (.int .i64 (t + ((max en ((pr l m).1 * r)) + (pr l m).2 * 1048576 + r - 1) / r))) none)), (51, (cond (S.getD 12 false) (some (.slice (some ⟨bb7, 0, none⟩) 1 1)) none)), (52, (cond (S.getD 13 false) (some (.slice AA8 (m + 1) cc8)) none))] a ∧ Mem w0.heap.size w0 [(1, some (.ro A (flat2 l))), (3, some (.row bb2 23 #[.int .i64 r, .int .i64 t])), (5, (cond (S.getD 13 false) (some (.own (.slice AA8 (m + 1) cc8) 3 1 (m + 1) ((got ++ [t + ((max en ((pr l m).1 * r)) + (pr l m).2 * 1048576 + r - 1) / r]).map (Value.int .i64)))) (some (.own (.slice G m gc) 3 1 m (got.map (Value.int .i64)))))), (8, (cond (S.getD 12 false) (some (.row bb7 3 #[.int .i64 (t + ((max en ((pr l m).1 * r)) + (pr l m).2 * 1048576 + r - 1) / r)])) none))] w) ?_ ?_ ?_
        · exact ⟨0, none, 0, (((((((((((((((((((((((Fr.nil hF).co hF (i := 52) (by kernel_rfl)).co hF (i := 51) (by kernel_rfl)).co hF (i := 50) (by kernel_rfl)).co hF (i := 49) (by kernel_rfl)).co hF (i := 48) (by kernel_rfl)).co hF (i := 47) (by kernel_rfl)).co hF (i := 46) (by kernel_rfl)).co hF (i := 45) (by kernel_rfl)).co hF (i := 44) (by kernel_rfl)).co hF (i := 43) (by kernel_rfl)).co hF (i := 42) (by kernel_rfl)).co hF (i := 41) (by kernel_rfl)).co hF (i := 40) (by kernel_rfl)).co hF (i := 39) (by kernel_rfl)).co hF (i := 23) (by kernel_rfl)).co hF (i := 22) (by kernel_rfl)).co hF (i := 21) (by kernel_rfl)).co hF (i := 8) (by kernel_rfl)).co hF (i := 7) (by kernel_rfl)).co hF (i := 5) (by kernel_rfl)).co hF (i := 4) (by kernel_rfl)).co hF (i := 3) (by kernel_rfl)), hM.drew.sub ((((Sub.nil.co (k := 8) (by kernel_rfl)).co (k := 5) (by kernel_rfl)).co (k := 3) (by kernel_rfl)).co (k := 1) (by kernel_rfl))⟩
        · refine stC ?_ (stC ?_ (stC ?_ (stC ?_ (stC ?_ (stC ?_ (stC ?_ (stC ?_ (stC ?_ (stC ?_ (stC ?_ (stC ?_ (stC ?_ (stC ?_ (stC ?_ (trivial)))))))))))))))
          · intro s0 s1 s2 s3 s4 s5 s6 s7 s8 s9 s10 s11 s12 s13 s14 hc hi hp a w hS
            obtain rfl : s0 = false := hi
            obtain rfl : s13 = false := hc.f 13 0 (by kernel_rfl) rfl
            obtain rfl : s14 = false := hc.f 14 0 (by kernel_rfl) rfl
            obtain ⟨bb7, AA8, cc8, hF, hM⟩ := hS
            refine eP 39 (v0 := .slice G m gc) (v := .slice G m gc) hF (by kernel_rfl) (fun _ => by kernel_rfl) rfl fun a hF => ?_
            exact ⟨bb7, AA8, cc8, ((hF.repl 8 (by kernel_rfl)).cast (by kernel_rfl)), (hM.cast (by kernel_rfl))⟩
          · intro s0 s1 s2 s3 s4 s5 s6 s7 s8 s9 s10 s11 s12 s13 s14 hc hi hp a w hS
            obtain rfl : s1 = false := hi
            obtain ⟨bb7, AA8, cc8, hF, hM⟩ := hS
            refine eP 40 (v0 := .pointer (some ⟨bb2, 1, none⟩)) (v := .pointer (some ⟨bb2, 1, none⟩)) hF (by kernel_rfl) (fun _ => by kernel_rfl) rfl fun a hF => ?_
            exact ⟨bb7, AA8, cc8, ((hF.repl 9 (by kernel_rfl)).cast (by kernel_rfl)), (hM.cast (by kernel_rfl))⟩
          · intro s0 s1 s2 s3 s4 s5 s6 s7 s8 s9 s10 s11 s12 s13 s14 hc hi hp a w hS
            obtain rfl : s2 = false := hi
            obtain rfl : s1 = true := hp 1 (by kernel_rfl)
            obtain ⟨bb7, AA8, cc8, hF, hM⟩ := hS
            refine eL 41 3 1 (v := .int .i64 t) hF hM (by kernel_rfl) rfl rfl (by kernel_rfl) (by kernel_rfl) fun a w hF hM => ?_
            exact ⟨bb7, AA8, cc8, ((hF.repl 10 (by kernel_rfl)).cast (by kernel_rfl)), (hM.cast (by kernel_rfl))⟩
          · intro s0 s1 s2 s3 s4 s5 s6 s7 s8 s9 s10 s11 s12 s13 s14 hc hi hp a w hS
            obtain rfl : s3 = false := hi
            obtain ⟨bb7, AA8, cc8, hF, hM⟩ := hS
            refine eP 42 (v0 := .int .i64 ((max en ((pr l m).1 * r)) + (pr l m).2 * 1048576)) (v := .int .i64 ((max en ((pr l m).1 * r)) + (pr l m).2 * 1048576)) hF (by kernel_rfl) (fun _ => by kernel_rfl) rfl fun a hF => ?_
            exact ⟨bb7, AA8, cc8, ((hF.repl 11 (by kernel_rfl)).cast (by kernel_rfl)), (hM.cast (by kernel_rfl))⟩
          · intro s0 s1 s2 s3 s4 s5 s6 s7 s8 s9 s10 s11 s12 s13 s14 hc hi hp a w hS
            obtain rfl : s4 = false := hi
            obtain ⟨bb7, AA8, cc8, hF, hM⟩ := hS
            refine eP 43 (v0 := .pointer (some ⟨bb2, 0, none⟩)) (v := .pointer (some ⟨bb2, 0, none⟩)) hF (by kernel_rfl) (fun _ => by kernel_rfl) rfl fun a hF => ?_
            exact ⟨bb7, AA8, cc8, ((hF.repl 12 (by kernel_rfl)).cast (by kernel_rfl)), (hM.cast (by kernel_rfl))⟩
          · intro s0 s1 s2 s3 s4 s5 s6 s7 s8 s9 s10 s11 s12 s13 s14 hc hi hp a w hS
            obtain rfl : s5 = false := hi
            obtain rfl : s4 = true := hp 4 (by kernel_rfl)
            obtain ⟨bb7, AA8, cc8, hF, hM⟩ := hS
            refine eL 44 3 0 (v := .int .i64 r) hF hM (by kernel_rfl) rfl rfl (by kernel_rfl) (by kernel_rfl) fun a w hF hM => ?_
            exact ⟨bb7, AA8, cc8, ((hF.repl 13 (by kernel_rfl)).cast (by kernel_rfl)), (hM.cast (by kernel_rfl))⟩
          · intro s0 s1 s2 s3 s4 s5 s6 s7 s8 s9 s10 s11 s12 s13 s14 hc hi hp a w hS
            obtain rfl : s6 = false := hi
            obtain rfl : s5 = true := hp 5 (by kernel_rfl)
            obtain rfl : s3 = true := hp 3 (by kernel_rfl)
            obtain ⟨bb7, AA8, cc8, hF, hM⟩ := hS
            refine eP 45 (v0 := .int .i64 (IntKind.i64.wrap ((max en ((pr l m).1 * r)) + (pr l m).2 * 1048576 + r))) (v := .int .i64 ((max en ((pr l m).1 * r)) + (pr l m).2 * 1048576 + r)) hF (by kernel_rfl) (fun _ => by kernel_rfl) (wi (by omega)) fun a hF => ?_
            exact ⟨bb7, AA8, cc8, ((hF.repl 14 (by kernel_rfl)).cast (by kernel_rfl)), (hM.cast (by kernel_rfl))⟩
          · intro s0 s1 s2 s3 s4 s5 s6 s7 s8 s9 s10 s11 s12 s13 s14 hc hi hp a w hS
            obtain rfl : s7 = false := hi
            obtain rfl : s6 = true := hp 6 (by kernel_rfl)
            obtain ⟨bb7, AA8, cc8, hF, hM⟩ := hS
            refine eP 46 (v0 := .int .i64 (IntKind.i64.wrap ((max en ((pr l m).1 * r)) + (pr l m).2 * 1048576 + r - 1))) (v := .int .i64 ((max en ((pr l m).1 * r)) + (pr l m).2 * 1048576 + r - 1)) hF (by kernel_rfl) (fun _ => by kernel_rfl) (wi (by omega)) fun a hF => ?_
            exact ⟨bb7, AA8, cc8, ((hF.repl 15 (by kernel_rfl)).cast (by kernel_rfl)), (hM.cast (by kernel_rfl))⟩
          · intro s0 s1 s2 s3 s4 s5 s6 s7 s8 s9 s10 s11 s12 s13 s14 hc hi hp a w hS
            obtain rfl : s8 = false := hi
            obtain ⟨bb7, AA8, cc8, hF, hM⟩ := hS
            refine eP 47 (v0 := .pointer (some ⟨bb2, 0, none⟩)) (v := .pointer (some ⟨bb2, 0, none⟩)) hF (by kernel_rfl) (fun _ => by kernel_rfl) rfl fun a hF => ?_
            exact ⟨bb7, AA8, cc8, ((hF.repl 16 (by kernel_rfl)).cast (by kernel_rfl)), (hM.cast (by kernel_rfl))⟩
          · intro s0 s1 s2 s3 s4 s5 s6 s7 s8 s9 s10 s11 s12 s13 s14 hc hi hp a w hS
            obtain rfl : s9 = false := hi
            obtain rfl : s8 = true := hp 8 (by kernel_rfl)
            obtain ⟨bb7, AA8, cc8, hF, hM⟩ := hS
            refine eL 48 3 0 (v := .int .i64 r) hF hM (by kernel_rfl) rfl rfl (by kernel_rfl) (by kernel_rfl) fun a w hF hM => ?_
            exact ⟨bb7, AA8, cc8, ((hF.repl 17 (by kernel_rfl)).cast (by kernel_rfl)), (hM.cast (by kernel_rfl))⟩
          · intro s0 s1 s2 s3 s4 s5 s6 s7 s8 s9 s10 s11 s12 s13 s14 hc hi hp a w hS
            obtain rfl : s10 = false := hi
            obtain rfl : s9 = true := hp 9 (by kernel_rfl)
            obtain rfl : s7 = true := hp 7 (by kernel_rfl)
            obtain ⟨bb7, AA8, cc8, hF, hM⟩ := hS
            refine eM 49 (v := .int .i64 (((max en ((pr l m).1 * r)) + (pr l m).2 * 1048576 + r - 1) / r)) hF hM (by kernel_rfl) (yld_quo ((max en ((pr l m).1 * r)) + (pr l m).2 * 1048576 + r - 1) r hF rfl (by kernel_rfl) (by kernel_rfl) (by kernel_rfl) (by omega) (qpos_i64 (by omega) (by omega) (by omega))) fun a w hF hM => ?_
            exact ⟨bb7, AA8, cc8, ((hF.repl 18 (by kernel_rfl)).cast (by kernel_rfl)), (hM.cast (by kernel_rfl))⟩
          · intro s0 s1 s2 s3 s4 s5 s6 s7 s8 s9 s10 s11 s12 s13 s14 hc hi hp a w hS
            obtain rfl : s11 = false := hi
            obtain rfl : s10 = true := hp 10 (by kernel_rfl)
            obtain rfl : s2 = true := hp 2 (by kernel_rfl)
            obtain ⟨bb7, AA8, cc8, hF, hM⟩ := hS
            refine eP 50 (v0 := .int .i64 (IntKind.i64.wrap (t + ((max en ((pr l m).1 * r)) + (pr l m).2 * 1048576 + r - 1) / r))) (v := .int .i64 (t + ((max en ((pr l m).1 * r)) + (pr l m).2 * 1048576 + r - 1) / r)) hF (by kernel_rfl) (fun _ => by kernel_rfl) (wi (by omega)) fun a hF => ?_
            exact ⟨bb7, AA8, cc8, ((hF.repl 19 (by kernel_rfl)).cast (by kernel_rfl)), (hM.cast (by kernel_rfl))⟩
          · intro s0 s1 s2 s3 s4 s5 s6 s7 s8 s9 s10 s11 s12 s13 s14 hc hi hp a w hS
            obtain rfl : s12 = false := hi
            obtain rfl : s11 = true := hp 11 (by kernel_rfl)
            obtain ⟨bb7, AA8, cc8, hF, hM⟩ := hS
            refine eN 51 8 (t := 3) (fun b => .slice (some ⟨b, 0, none⟩) 1 1) #[.int .i64 (t + ((max en ((pr l m).1 * r)) + (pr l m).2 * 1048576 + r - 1) / r)] hF hM (by kernel_rfl) (fun _ => by kernel_rfl) fun bb7 a w hF hM => ?_
            exact ⟨bb7, AA8, cc8, ((hF.repl 20 (by kernel_rfl)).cast (by kernel_rfl)), ((hM.repl 3 (by kernel_rfl)).cast (by kernel_rfl))⟩
          · intro s0 s1 s2 s3 s4 s5 s6 s7 s8 s9 s10 s11 s12 s13 s14 hc hi hp a w hS
            obtain rfl : s13 = false := hi
            obtain rfl : s12 = true := hp 12 (by kernel_rfl)
            obtain rfl : s0 = true := hp 0 (by kernel_rfl)
            obtain rfl : s14 = false := hc.f 14 13 (by kernel_rfl) rfl
            obtain ⟨bb7, AA8, cc8, hF, hM⟩ := hS
            refine sApp 52 5 (e := 3) (size := 1) (bytes := 8) (z := .int .i64 0) (m := 1) (c := 1) (l := m) (cap := gc) (A := G) (news := [.int .i64 (t + ((max en ((pr l m).1 * r)) + (pr l m).2 * 1048576 + r - 1) / r)]) ((got ++ [t + ((max en ((pr l m).1 * r)) + (pr l m).2 * 1048576 + r - 1) / r]).map (Value.int .i64)) hF hM (by kernel_rfl) rfl (by kernel_rfl) (by kernel_rfl) (by kernel_rfl) rfl rfl rfl rfl (roR 8 rfl) (by simp [Value.oneCell']) (by omega) (by decide) (map_snoc' _ _ _) fun AA8 cc8 a w hF hM => ?_
            exact ⟨bb7, AA8, cc8, ((hF.repl 21 (by kernel_rfl)).cast (by kernel_rfl)), ((hM.repl 2 (by kernel_rfl)).cast (by kernel_rfl))⟩
          · intro s0 s1 s2 s3 s4 s5 s6 s7 s8 s9 s10 s11 s12 s13 s14 hc hi hp a w hS
            obtain rfl : s14 = false := hi
            obtain rfl : s13 = true := hp 13 (by kernel_rfl)
            obtain ⟨bb7, AA8, cc8, hF, hM⟩ := hS
            refine eP 7 (v0 := .slice AA8 (m + 1) cc8) (v := .slice AA8 (m + 1) cc8) hF (by kernel_rfl) (fun _ => by kernel_rfl) rfl fun a hF => ?_
            exact ⟨bb7, AA8, cc8, ((hF.repl 3 (by kernel_rfl)).cast (by kernel_rfl)), (hM.cast (by kernel_rfl))⟩
        · intro a w hS
          obtain ⟨bb7, AA8, cc8, hF, hM⟩ := hS
          replace hF : Fr 55 [(3, some (.pointer (some ⟨bb2, 0, none⟩))), (4, some (.slice none 0 0)), (5, some (.int .i64 0)), (7, some (.slice AA8 (m + 1) cc8)), (8, some (.int .i64 ((max en ((pr l m).1 * r)) + (pr l m).2 * 1048576))), (21, some (.slice A l.length c)), (22, some (.int .i64 (l.length : Int))), (23, some (.int .i64 (m : Int))), (39, some (.slice G m gc)), (40, some (.pointer (some ⟨bb2, 1, none⟩))), (41, some (.int .i64 t)), (42, some (.int .i64 ((max en ((pr l m).1 * r)) + (pr l m).2 * 1048576))), (43, some (.pointer (some ⟨bb2, 0, none⟩))), (44, some (.int .i64 r)), (45, some (.int .i64 ((max en ((pr l m).1 * r)) + (pr l m).2 * 1048576 + r))), (46, some (.int .i64 ((max en ((pr l m).1 * r)) + (pr l m).2 * 1048576 + r - 1))), (47, some (.pointer (some ⟨bb2, 0, none⟩))), (48, some (.int .i64 r)), (49, some (.int .i64 (((max en ((pr l m).1 * r)) + (pr l m).2 * 1048576 + r - 1) / r))), (50, some (.int .i64 (t + ((max en ((pr l m).1 * r)) + (pr l m).2 * 1048576 + r - 1) / r))), (51, some (.slice (some ⟨bb7, 0, none⟩) 1 1)), (52, some (.slice AA8 (m + 1) cc8))] a := hF.cast (by kernel_rfl)
          replace hM : Mem w0.heap.size w0 [(1, some (.ro A (flat2 l))), (3, some (.row bb2 23 #[.int .i64 r, .int .i64 t])), (5, some (.own (.slice AA8 (m + 1) cc8) 3 1 (m + 1) ((got ++ [t + ((max en ((pr l m).1 * r)) + (pr l m).2 * 1048576 + r - 1) / r]).map (Value.int .i64)))), (8, some (.row bb7 3 #[.int .i64 (t + ((max en ((pr l m).1 * r)) + (pr l m).2 * 1048576 + r - 1) / r)]))] w := hM.cast (by kernel_rfl)
          refine hK40 _ _ ?_
          refine wp_region_lit ?_
          refine wl (eP 53 (v0 := .int .i64 (IntKind.i64.wrap ((m : Int) + 1))) (v := .int .i64 ((m : Int) + 1)) hF (by kernel_rfl) (fun _ => by kernel_rfl) (wi (by omega)) fun a hF => ?_)
          refine sB 1 [(23, .int .i64 ((m : Int) + 1))] hF (by kernel_rfl) fun a hF => ?_
          refine wpList_nil ?_
          have hds := dr_step (r := r) (t := t) (l := l) (k := m) (got := got) (en := en) (e := (max en ((pr l m).1 * r)) + (pr l m).2 * 1048576) (by omega) (by assumption) (by assumption) (by omega)
          refine hK37 _ _ ⟨(m + 1, (max en ((pr l m).1 * r)) + (pr l m).2 * 1048576, got ++ [t + ((max en ((pr l m).1 * r)) + (pr l m).2 * 1048576 + r - 1) / r], AA8, cc8), ⟨(((((((((Fr.nil hF).c hF (i := 22) rfl rfl).c hF (i := 21) rfl rfl).c hF (i := 5) rfl rfl).c hF (i := 4) rfl rfl).c hF (i := 3) rfl rfl).c hF (i := 23) rfl (vi (show ((m : Int) + 1 : Int) = ((m + 1) : Int) from by omega))).c hF (i := 8) rfl rfl).c hF (i := 7) rfl rfl), (hM.sub (((Sub.nil.c (k := 5) rfl rfl).c (k := 3) rfl rfl).c (k := 1) rfl rfl)), (show ((m + 1) : Int) ≤ (l.length : Int) from by omega), (show (got ++ [t + ((max en ((pr l m).1 * r)) + (pr l m).2 * 1048576 + r - 1) / r]) = drL r t l (m + 1) from by exact hds.1), (show ((max en ((pr l m).1 * r)) + (pr l m).2 * 1048576) = enN r l (m + 1) from by exact hds.2), (show 0 ≤ ((max en ((pr l m).1 * r)) + (pr l m).2 * 1048576) from by omega), (show ((max en ((pr l m).1 * r)) + (pr l m).2 * 1048576) ≤ 2305843009213693952 + ((m + 1) : Int) * 1099511627776 from by omega)⟩, (show l.length - (m + 1) < l.length - m from by omega)⟩
    · skip
      replace hF := hF.c hF (i := 24) (v := .bool false) rfl (bF hz8)
      refine cF hF (by kernel_rfl) (by kernel_rfl) ?_
      refine wp_exit ?_
      refine hK35 _ _ ?_
      refine wp_seq_k fun K43 hK43 => ?_
      refine wp_region_lit ?_
      refine sB 3 [(54, .slice G m gc), (4, .slice G m gc), (5, .int .i64 0)] hF (by kernel_rfl) fun a hF => ?_
      refine wpList_nil ?_
      refine hK43 _ _ ?_
      refine wp_ret ?_
      refine hR0 _ _ ?_
      refine ret_of hF hM (.tmp rfl (.tmp rfl (.nil))) ?_
      have hml : m = l.length := by omega
      have ho := hM.ok 5 _ rfl
      refine ⟨_, _, by rw [← hml]; rfl, ?_, hM.bel⟩
      rw [← hml, ← ‹got = drL r t l m›]; exact ho

end Go.Proofs.Ytoighcbbaacnaaa
