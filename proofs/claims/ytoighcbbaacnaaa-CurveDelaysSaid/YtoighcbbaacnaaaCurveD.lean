/-
  Contracts of package curve: checkSlow, Backlog.
-/
import Derived.Test.YtoighcbbaacnaaaCurveC
import Derived.Test.YtoighcbbaacnaaaCurveLaws2
namespace Go.Proofs.Ytoighcbbaacnaaa
open Go.RowKit
set_option linter.unusedVariables false
set_option linter.unusedSimpArgs false

theorem checkSlow_w (b q r t : Int) (w0 : World) :
    Calls Try.prog 46 #[.agg #[.int .i64 b, .int .i64 q], .agg #[.int .i64 r, .int .i64 t]] w0 (Ret w0 (.int .i64 (csE b q r t))) := by
  refine enterK 10 Try.func46 rfl rfl rfl ?_
  intro a hF Q0 hR0 hN0
  have hM := Mem.start w0
  refine wp_seq_k fun K1 hK1 => ?_
  refine wp_region_lit ?_
  refine wl (eN 2 1 (t := 39) (fun b => .pointer (some ⟨b, 0, none⟩)) #[.int .i64 b, .int .i64 q] hF hM (by kernel_rfl) (fun _ => by kernel_rfl) fun bb1 a w hF hM => ?_)
  refine wl (eN 3 2 (t := 23) (fun b => .pointer (some ⟨b, 0, none⟩)) #[.int .i64 r, .int .i64 t] hF hM (by kernel_rfl) (fun _ => by kernel_rfl) fun bb2 a w hF hM => ?_)
  refine sB 1 [(4, .int .i64 0)] hF (by kernel_rfl) fun a hF => ?_
  refine wpList_nil ?_
  refine hK1 _ _ ?_
  refine wp_seq_k fun K2 hK2 => ?_
  refine wp_region_lit ?_
  refine sB 3 [(5, .func (.func 59) #[] #[.pointer (some ⟨bb1, 0, none⟩)]), (6, .func (.func 60) #[] #[.pointer (some ⟨bb2, 0, none⟩)]), (7, .func (.func 61) #[] #[.pointer (some ⟨bb1, 0, none⟩), .pointer (some ⟨bb2, 0, none⟩)])] hF (by kernel_rfl) fun a hF => ?_
  refine wl (eN 8 3 (t := 77) (fun b => .slice (some ⟨b, 0, none⟩) 3 3) #[.func (.func 59) #[] #[.pointer (some ⟨bb1, 0, none⟩)], .func (.func 60) #[] #[.pointer (some ⟨bb2, 0, none⟩)], .func (.func 61) #[] #[.pointer (some ⟨bb1, 0, none⟩), .pointer (some ⟨bb2, 0, none⟩)]] hF hM (by kernel_rfl) (fun _ => by kernel_rfl) fun bb3 a w hF hM => ?_)
  refine wl (sC (f := 34) (args := #[.slice (some ⟨bb3, 0, none⟩) 3 3]) hF (by kernel_rfl) rfl (by decide) (by kernel_rfl) (fun _ => by kernel_rfl) ?_)
  refine enterK 18 Try.func34 rfl rfl rfl ?_
  intro a1 hF1 QR3 hR3 hNR3
  refine wp_seq_k fun K4 hK4 => ?_
  refine wp_region_lit ?_
  refine sB 1 [(2, .int .i64 0)] hF1 (by kernel_rfl) fun a1 hF1 => ?_
  refine wpList_nil ?_
  refine hK4 _ _ ?_
  refine wp_seq_k fun K5 hK5 => ?_
  refine wp_seq_k fun K6 hK6 => ?_
  refine wp_region_lit ?_
  refine sB 3 [(6, .slice (some ⟨bb3, 0, none⟩) 3 3), (7, .int .i64 3), (8, .int .i64 0)] hF1 (by kernel_rfl) fun a1 hF1 => ?_
  refine wpList_nil ?_
  refine hK6 _ _ ?_
  refine wp_block ?_
  refine wp_loop_rounds 4 ?_
  refine rounds_k fun K7 hK7 => ?_
  refine wp_seq_k fun K8 hK8 => ?_
  refine wp_region_lit ?_
  refine wl (eP 9 (v0 := .bool (decide (0 < 3))) (v := .bool true) hF1 (by kernel_rfl) (fun _ => by kernel_rfl) (bT (by omega)) fun a1 hF1 => ?_)
  refine wpList_nil ?_
  refine hK8 _ _ ?_
  refine wp_seq_k fun K9 hK9 => ?_
  refine cT hF1 (by kernel_rfl) (by kernel_rfl) ?_
  refine wp_skip ?_
  refine hK9 _ _ ?_
  refine wp_seq_k fun K10 hK10 => ?_
  refine wp_block ?_
  refine wp_seq_k fun K11 hK11 => ?_
  refine wp_region_lit ?_
  refine sB 1 [(10, .pointer (some ⟨bb3, 0, none⟩))] hF1 (by kernel_rfl) fun a1 hF1 => ?_
  refine wl (eL 11 3 0 (v := .func (.func 59) #[] #[.pointer (some ⟨bb1, 0, none⟩)]) hF1 hM (by kernel_rfl) rfl rfl (by kernel_rfl) (by kernel_rfl) fun a1 w hF1 hM => ?_)
  refine sB 1 [(4, .func (.func 59) #[] #[.pointer (some ⟨bb1, 0, none⟩)])] hF1 (by kernel_rfl) fun a1 hF1 => ?_
  refine wpList_nil ?_
  refine hK11 _ _ ?_
  refine wp_seq_k fun K12 hK12 => ?_
  refine wp_region_lit ?_
  refine sB 1 [(12, .func (.func 59) #[] #[.pointer (some ⟨bb1, 0, none⟩)])] hF1 (by kernel_rfl) fun a1 hF1 => ?_
  refine wl (sC (f := 59) (args := #[.pointer (some ⟨bb1, 0, none⟩)]) hF1 (by kernel_rfl) rfl (by decide) (by kernel_rfl) (fun _ => by kernel_rfl) ?_)
  refine enterK 4 Try.func59 rfl rfl rfl ?_
  intro a2 hF2 QR13 hR13 hNR13
  refine wp_seq_k fun K14 hK14 => ?_
  refine wp_region_lit ?_
  refine sB 1 [(1, .int .i64 0)] hF2 (by kernel_rfl) fun a2 hF2 => ?_
  refine wpList_nil ?_
  refine hK14 _ _ ?_
  refine wp_seq_k fun K15 hK15 => ?_
  refine wp_region_lit ?_
  refine wl (eL 2 1 0 (v := .agg #[.int .i64 b, .int .i64 q]) hF2 hM (by kernel_rfl) rfl rfl (by kernel_rfl) (by kernel_rfl) fun a2 w hF2 hM => ?_)
  refine wl (eM 3 (v := .int .i64 (bkE b q)) hF2 hM (by kernel_rfl) (yld_call (f := 40) (args := #[.agg #[.int .i64 b, .int .i64 q]]) hF2 (by kernel_rfl) (fun _ => by kernel_rfl) (fun w hM => bkCheck_w b q w)) fun a2 w hF2 hM => ?_)
  refine sB 1 [(1, .int .i64 (bkE b q))] hF2 (by kernel_rfl) fun a2 hF2 => ?_
  refine wpList_nil ?_
  refine hK15 _ _ ?_
  refine wp_ret ?_
  refine hR13 _ _ ?_
  refine ret_of hF2 hM (.tmp rfl (.nil)) ⟨_, rfl, ?_⟩
  intro a1 hF1
  refine sB 1 [(5, .int .i64 (bkE b q))] hF1 (by kernel_rfl) fun a1 hF1 => ?_
  refine wpList_nil ?_
  refine hK12 _ _ ?_
  refine wp_seq_k fun K16 hK16 => ?_
  refine wp_region_lit ?_
  refine sB 2 [(14, .int .i64 (bkE b q)), (15, .bool (!decide (bkE b q = 0)))] hF1 (by kernel_rfl) fun a1 hF1 => ?_
  refine wpList_nil ?_
  refine hK16 _ _ ?_
  by_cases hz1 : bkE b q = 0
  · skip
    have hz2 := bkE_ok hz1
    replace hF1 := hF1.c hF1 (i := 15) (v := .bool false) rfl (nT hz1)
    refine cF hF1 (by kernel_rfl) (by kernel_rfl) ?_
    refine wp_skip ?_
    refine hK10 _ _ ?_
    refine wp_region_lit ?_
    refine wl (eP 17 (v0 := .int .i64 (IntKind.i64.wrap (0 + 1))) (v := .int .i64 1) hF1 (by kernel_rfl) (fun _ => by kernel_rfl) (vi (by decide)) fun a1 hF1 => ?_)
    refine sB 1 [(8, .int .i64 1)] hF1 (by kernel_rfl) fun a1 hF1 => ?_
    refine wpList_nil ?_
    refine hK7 _ _ ?_
    refine rounds_k fun K17 hK17 => ?_
    refine wp_seq_k fun K18 hK18 => ?_
    refine wp_region_lit ?_
    refine wl (eP 9 (v0 := .bool (decide (1 < 3))) (v := .bool true) hF1 (by kernel_rfl) (fun _ => by kernel_rfl) (bT (by omega)) fun a1 hF1 => ?_)
    refine wpList_nil ?_
    refine hK18 _ _ ?_
    refine wp_seq_k fun K19 hK19 => ?_
    refine cT hF1 (by kernel_rfl) (by kernel_rfl) ?_
    refine wp_skip ?_
    refine hK19 _ _ ?_
    refine wp_seq_k fun K20 hK20 => ?_
    refine wp_block ?_
    refine wp_seq_k fun K21 hK21 => ?_
    refine wp_region_lit ?_
    refine sB 1 [(10, .pointer (some ⟨bb3, 1, none⟩))] hF1 (by kernel_rfl) fun a1 hF1 => ?_
    refine wl (eL 11 3 1 (v := .func (.func 60) #[] #[.pointer (some ⟨bb2, 0, none⟩)]) hF1 hM (by kernel_rfl) rfl rfl (by kernel_rfl) (by kernel_rfl) fun a1 w hF1 hM => ?_)
    refine sB 1 [(4, .func (.func 60) #[] #[.pointer (some ⟨bb2, 0, none⟩)])] hF1 (by kernel_rfl) fun a1 hF1 => ?_
    refine wpList_nil ?_
    refine hK21 _ _ ?_
    refine wp_seq_k fun K22 hK22 => ?_
    refine wp_region_lit ?_
    refine sB 1 [(12, .func (.func 60) #[] #[.pointer (some ⟨bb2, 0, none⟩)])] hF1 (by kernel_rfl) fun a1 hF1 => ?_
    refine wl (sC (f := 60) (args := #[.pointer (some ⟨bb2, 0, none⟩)]) hF1 (by kernel_rfl) rfl (by decide) (by kernel_rfl) (fun _ => by kernel_rfl) ?_)
    refine enterK 4 Try.func60 rfl rfl rfl ?_
    intro a2 hF2 QR23 hR23 hNR23
    refine wp_seq_k fun K24 hK24 => ?_
    refine wp_region_lit ?_
    refine sB 1 [(1, .int .i64 0)] hF2 (by kernel_rfl) fun a2 hF2 => ?_
    refine wpList_nil ?_
    refine hK24 _ _ ?_
    refine wp_seq_k fun K25 hK25 => ?_
    refine wp_region_lit ?_
    refine wl (eL 2 2 0 (v := .agg #[.int .i64 r, .int .i64 t]) hF2 hM (by kernel_rfl) rfl rfl (by kernel_rfl) (by kernel_rfl) fun a2 w hF2 hM => ?_)
    refine wl (eM 3 (v := .int .i64 (svE r t)) hF2 hM (by kernel_rfl) (yld_call (f := 16) (args := #[.agg #[.int .i64 r, .int .i64 t]]) hF2 (by kernel_rfl) (fun _ => by kernel_rfl) (fun w hM => svCheck_w r t w)) fun a2 w hF2 hM => ?_)
    refine sB 1 [(1, .int .i64 (svE r t))] hF2 (by kernel_rfl) fun a2 hF2 => ?_
    refine wpList_nil ?_
    refine hK25 _ _ ?_
    refine wp_ret ?_
    refine hR23 _ _ ?_
    refine ret_of hF2 hM (.tmp rfl (.nil)) ⟨_, rfl, ?_⟩
    intro a1 hF1
    refine sB 1 [(5, .int .i64 (svE r t))] hF1 (by kernel_rfl) fun a1 hF1 => ?_
    refine wpList_nil ?_
    refine hK22 _ _ ?_
    refine wp_seq_k fun K26 hK26 => ?_
    refine wp_region_lit ?_
    refine sB 2 [(14, .int .i64 (svE r t)), (15, .bool (!decide (svE r t = 0)))] hF1 (by kernel_rfl) fun a1 hF1 => ?_
    refine wpList_nil ?_
    refine hK26 _ _ ?_
    by_cases hz3 : svE r t = 0
    · skip
      have hz4 := svE_ok hz3
      replace hF1 := hF1.c hF1 (i := 15) (v := .bool false) rfl (nT hz3)
      refine cF hF1 (by kernel_rfl) (by kernel_rfl) ?_
      refine wp_skip ?_
      refine hK20 _ _ ?_
      refine wp_region_lit ?_
      refine wl (eP 17 (v0 := .int .i64 (IntKind.i64.wrap (1 + 1))) (v := .int .i64 2) hF1 (by kernel_rfl) (fun _ => by kernel_rfl) (vi (by decide)) fun a1 hF1 => ?_)
      refine sB 1 [(8, .int .i64 2)] hF1 (by kernel_rfl) fun a1 hF1 => ?_
      refine wpList_nil ?_
      refine hK17 _ _ ?_
      refine rounds_k fun K27 hK27 => ?_
      refine wp_seq_k fun K28 hK28 => ?_
      refine wp_region_lit ?_
      refine wl (eP 9 (v0 := .bool (decide (2 < 3))) (v := .bool true) hF1 (by kernel_rfl) (fun _ => by kernel_rfl) (bT (by omega)) fun a1 hF1 => ?_)
      refine wpList_nil ?_
      refine hK28 _ _ ?_
      refine wp_seq_k fun K29 hK29 => ?_
      refine cT hF1 (by kernel_rfl) (by kernel_rfl) ?_
      refine wp_skip ?_
      refine hK29 _ _ ?_
      refine wp_seq_k fun K30 hK30 => ?_
      refine wp_block ?_
      refine wp_seq_k fun K31 hK31 => ?_
      refine wp_region_lit ?_
      refine sB 1 [(10, .pointer (some ⟨bb3, 2, none⟩))] hF1 (by kernel_rfl) fun a1 hF1 => ?_
      refine wl (eL 11 3 2 (v := .func (.func 61) #[] #[.pointer (some ⟨bb1, 0, none⟩), .pointer (some ⟨bb2, 0, none⟩)]) hF1 hM (by kernel_rfl) rfl rfl (by kernel_rfl) (by kernel_rfl) fun a1 w hF1 hM => ?_)
      refine sB 1 [(4, .func (.func 61) #[] #[.pointer (some ⟨bb1, 0, none⟩), .pointer (some ⟨bb2, 0, none⟩)])] hF1 (by kernel_rfl) fun a1 hF1 => ?_
      refine wpList_nil ?_
      refine hK31 _ _ ?_
      refine wp_seq_k fun K32 hK32 => ?_
      refine wp_region_lit ?_
      refine sB 1 [(12, .func (.func 61) #[] #[.pointer (some ⟨bb1, 0, none⟩), .pointer (some ⟨bb2, 0, none⟩)])] hF1 (by kernel_rfl) fun a1 hF1 => ?_
      refine wl (sC (f := 61) (args := #[.pointer (some ⟨bb1, 0, none⟩), .pointer (some ⟨bb2, 0, none⟩)]) hF1 (by kernel_rfl) rfl (by decide) (by kernel_rfl) (fun _ => by kernel_rfl) ?_)
      refine enterK 8 Try.func61 rfl rfl rfl ?_
      intro a2 hF2 QR33 hR33 hNR33
      refine wp_seq_k fun K34 hK34 => ?_
      refine wp_region_lit ?_
      refine sB 1 [(2, .int .i64 0)] hF2 (by kernel_rfl) fun a2 hF2 => ?_
      refine wpList_nil ?_
      refine hK34 _ _ ?_
      refine wp_seq_k fun K35 hK35 => ?_
      refine wp_seq_k fun K36 hK36 => ?_
      refine wp_region_lit ?_
      refine sB 1 [(3, .pointer (some ⟨bb1, 1, none⟩))] hF2 (by kernel_rfl) fun a2 hF2 => ?_
      refine wl (eL 4 1 1 (v := .int .i64 q) hF2 hM (by kernel_rfl) rfl rfl (by kernel_rfl) (by kernel_rfl) fun a2 w hF2 hM => ?_)
      refine sB 1 [(5, .pointer (some ⟨bb2, 0, none⟩))] hF2 (by kernel_rfl) fun a2 hF2 => ?_
      refine wl (eL 6 2 0 (v := .int .i64 r) hF2 hM (by kernel_rfl) rfl rfl (by kernel_rfl) (by kernel_rfl) fun a2 w hF2 hM => ?_)
      refine sB 1 [(7, .bool (decide (r < q)))] hF2 (by kernel_rfl) fun a2 hF2 => ?_
      refine wpList_nil ?_
      refine hK36 _ _ ?_
      by_cases hz5 : r < q
      · skip
        replace hF2 := hF2.c hF2 (i := 7) (v := .bool true) rfl (bT hz5)
        refine cT hF2 (by kernel_rfl) (by kernel_rfl) ?_
        refine wp_seq_k fun K37 hK37 => ?_
        refine wp_region_lit ?_
        refine sB 1 [(2, .int .i64 141)] hF2 (by kernel_rfl) fun a2 hF2 => ?_
        refine wpList_nil ?_
        refine hK37 _ _ ?_
        refine wp_ret ?_
        refine hR33 _ _ ?_
        refine ret_of hF2 hM (.tmp rfl (.nil)) ⟨_, rfl, ?_⟩
        intro a1 hF1
        refine sB 1 [(5, .int .i64 141)] hF1 (by kernel_rfl) fun a1 hF1 => ?_
        refine wpList_nil ?_
        refine hK32 _ _ ?_
        refine wp_seq_k fun K38 hK38 => ?_
        refine wp_region_lit ?_
        refine sB 1 [(14, .int .i64 141)] hF1 (by kernel_rfl) fun a1 hF1 => ?_
        refine wl (eP 15 (v0 := .bool (!decide (141 = 0))) (v := .bool true) hF1 (by kernel_rfl) (fun _ => by kernel_rfl) (nF (by omega)) fun a1 hF1 => ?_)
        refine wpList_nil ?_
        refine hK38 _ _ ?_
        refine cT hF1 (by kernel_rfl) (by kernel_rfl) ?_
        refine wp_seq_k fun K39 hK39 => ?_
        refine wp_region_lit ?_
        refine sB 2 [(16, .int .i64 141), (2, .int .i64 141)] hF1 (by kernel_rfl) fun a1 hF1 => ?_
        refine wpList_nil ?_
        refine hK39 _ _ ?_
        refine wp_ret ?_
        refine hR3 _ _ ?_
        refine ret_of hF1 hM (.tmp rfl (.nil)) ⟨_, rfl, ?_⟩
        intro a hF
        refine sB 1 [(4, .int .i64 141)] hF (by kernel_rfl) fun a hF => ?_
        refine wpList_nil ?_
        refine hK2 _ _ ?_
        refine wp_ret ?_
        refine hR0 _ _ ?_
        refine ret_of hF hM (.tmp rfl (.nil)) ?_
        exact ⟨ret_int (cs_141 hz1 hz3 (by omega)).symm, hM.bel⟩
      · skip
        replace hF2 := hF2.c hF2 (i := 7) (v := .bool false) rfl (bF hz5)
        refine cF hF2 (by kernel_rfl) (by kernel_rfl) ?_
        refine wp_skip ?_
        refine hK35 _ _ ?_
        refine wp_seq_k fun K40 hK40 => ?_
        refine wp_region_lit ?_
        refine sB 1 [(2, .int .i64 0)] hF2 (by kernel_rfl) fun a2 hF2 => ?_
        refine wpList_nil ?_
        refine hK40 _ _ ?_
        refine wp_ret ?_
        refine hR33 _ _ ?_
        refine ret_of hF2 hM (.tmp rfl (.nil)) ⟨_, rfl, ?_⟩
        intro a1 hF1
        refine sB 1 [(5, .int .i64 0)] hF1 (by kernel_rfl) fun a1 hF1 => ?_
        refine wpList_nil ?_
        refine hK32 _ _ ?_
        refine wp_seq_k fun K41 hK41 => ?_
        refine wp_region_lit ?_
        refine sB 1 [(14, .int .i64 0)] hF1 (by kernel_rfl) fun a1 hF1 => ?_
        refine wl (eP 15 (v0 := .bool (!decide (0 = 0))) (v := .bool false) hF1 (by kernel_rfl) (fun _ => by kernel_rfl) (nT (by omega)) fun a1 hF1 => ?_)
        refine wpList_nil ?_
        refine hK41 _ _ ?_
        refine cF hF1 (by kernel_rfl) (by kernel_rfl) ?_
        refine wp_skip ?_
        refine hK30 _ _ ?_
        refine wp_region_lit ?_
        refine wl (eP 17 (v0 := .int .i64 (IntKind.i64.wrap (2 + 1))) (v := .int .i64 3) hF1 (by kernel_rfl) (fun _ => by kernel_rfl) (vi (by decide)) fun a1 hF1 => ?_)
        refine sB 1 [(8, .int .i64 3)] hF1 (by kernel_rfl) fun a1 hF1 => ?_
        refine wpList_nil ?_
        refine hK27 _ _ ?_
        refine rounds_k fun K42 hK42 => ?_
        refine wp_seq_k fun K43 hK43 => ?_
        refine wp_region_lit ?_
        refine wl (eP 9 (v0 := .bool (decide (3 < 3))) (v := .bool false) hF1 (by kernel_rfl) (fun _ => by kernel_rfl) (bF (by omega)) fun a1 hF1 => ?_)
        refine wpList_nil ?_
        refine hK43 _ _ ?_
        refine wp_seq_k fun K44 hK44 => ?_
        refine cF hF1 (by kernel_rfl) (by kernel_rfl) ?_
        refine wp_exit ?_
        refine hK5 _ _ ?_
        refine wp_seq_k fun K45 hK45 => ?_
        refine wp_region_lit ?_
        refine sB 1 [(2, .int .i64 0)] hF1 (by kernel_rfl) fun a1 hF1 => ?_
        refine wpList_nil ?_
        refine hK45 _ _ ?_
        refine wp_ret ?_
        refine hR3 _ _ ?_
        refine ret_of hF1 hM (.tmp rfl (.nil)) ⟨_, rfl, ?_⟩
        intro a hF
        refine sB 1 [(4, .int .i64 0)] hF (by kernel_rfl) fun a hF => ?_
        refine wpList_nil ?_
        refine hK2 _ _ ?_
        refine wp_ret ?_
        refine hR0 _ _ ?_
        refine ret_of hF hM (.tmp rfl (.nil)) ?_
        exact ⟨ret_int (cs_0 hz1 hz3 (by omega)).symm, hM.bel⟩
    · skip
      replace hF1 := hF1.c hF1 (i := 15) (v := .bool true) rfl (nF hz3)
      refine cT hF1 (by kernel_rfl) (by kernel_rfl) ?_
      refine wp_seq_k fun K46 hK46 => ?_
      refine wp_region_lit ?_
      refine sB 2 [(16, .int .i64 (svE r t)), (2, .int .i64 (svE r t))] hF1 (by kernel_rfl) fun a1 hF1 => ?_
      refine wpList_nil ?_
      refine hK46 _ _ ?_
      refine wp_ret ?_
      refine hR3 _ _ ?_
      refine ret_of hF1 hM (.tmp rfl (.nil)) ⟨_, rfl, ?_⟩
      intro a hF
      refine sB 1 [(4, .int .i64 (svE r t))] hF (by kernel_rfl) fun a hF => ?_
      refine wpList_nil ?_
      refine hK2 _ _ ?_
      refine wp_ret ?_
      refine hR0 _ _ ?_
      refine ret_of hF hM (.tmp rfl (.nil)) ?_
      exact ⟨ret_int (by rw [cs_140 hz1 hz3, svE_no hz3]), hM.bel⟩
  · skip
    replace hF1 := hF1.c hF1 (i := 15) (v := .bool true) rfl (nF hz1)
    refine cT hF1 (by kernel_rfl) (by kernel_rfl) ?_
    refine wp_seq_k fun K47 hK47 => ?_
    refine wp_region_lit ?_
    refine sB 2 [(16, .int .i64 (bkE b q)), (2, .int .i64 (bkE b q))] hF1 (by kernel_rfl) fun a1 hF1 => ?_
    refine wpList_nil ?_
    refine hK47 _ _ ?_
    refine wp_ret ?_
    refine hR3 _ _ ?_
    refine ret_of hF1 hM (.tmp rfl (.nil)) ⟨_, rfl, ?_⟩
    intro a hF
    refine sB 1 [(4, .int .i64 (bkE b q))] hF (by kernel_rfl) fun a hF => ?_
    refine wpList_nil ?_
    refine hK2 _ _ ?_
    refine wp_ret ?_
    refine hR0 _ _ ?_
    refine ret_of hF hM (.tmp rfl (.nil)) ?_
    exact ⟨ret_int (by rw [cs_130 hz1, bkE_no hz1]), hM.bel⟩

theorem backlog_w (b q r t : Int) (w0 : World) :
    Calls Try.prog 22 #[.agg #[.int .i64 b, .int .i64 q], .agg #[.int .i64 r, .int .i64 t]] w0 (Ret w0 (.tuple #[.int .i64 (blV b q r t), .int .i64 (csE b q r t)])) := by
  refine enterK 21 Try.func22 rfl rfl rfl ?_
  intro a hF Q0 hR0 hN0
  have hM := Mem.start w0
  refine wp_seq_k fun K1 hK1 => ?_
  refine wp_region_lit ?_
  refine wl (eN 2 1 (t := 39) (fun b => .pointer (some ⟨b, 0, none⟩)) #[.int .i64 b, .int .i64 q] hF hM (by kernel_rfl) (fun _ => by kernel_rfl) fun bb1 a w hF hM => ?_)
  refine wl (eN 3 2 (t := 23) (fun b => .pointer (some ⟨b, 0, none⟩)) #[.int .i64 r, .int .i64 t] hF hM (by kernel_rfl) (fun _ => by kernel_rfl) fun bb2 a w hF hM => ?_)
  refine sB 2 [(4, .int .i64 0), (5, .int .i64 0)] hF (by kernel_rfl) fun a hF => ?_
  refine wpList_nil ?_
  refine hK1 _ _ ?_
  refine wp_seq_k fun K2 hK2 => ?_
  refine wp_seq_k fun K3 hK3 => ?_
  refine wp_region_lit ?_
  refine wl (eL 7 1 0 (v := .agg #[.int .i64 b, .int .i64 q]) hF hM (by kernel_rfl) rfl rfl (by kernel_rfl) (by kernel_rfl) fun a w hF hM => ?_)
  refine wl (eL 8 2 0 (v := .agg #[.int .i64 r, .int .i64 t]) hF hM (by kernel_rfl) rfl rfl (by kernel_rfl) (by kernel_rfl) fun a w hF hM => ?_)
  refine wl (eM 9 (v := .int .i64 (csE b q r t)) hF hM (by kernel_rfl) (yld_call (f := 46) (args := #[.agg #[.int .i64 b, .int .i64 q], .agg #[.int .i64 r, .int .i64 t]]) hF (by kernel_rfl) (fun _ => by kernel_rfl) (fun w hM => checkSlow_w b q r t w)) fun a w hF hM => ?_)
  refine sB 1 [(6, .int .i64 (csE b q r t))] hF (by kernel_rfl) fun a hF => ?_
  refine wpList_nil ?_
  refine hK3 _ _ ?_
  refine wp_seq_k fun K4 hK4 => ?_
  refine wp_region_lit ?_
  refine sB 2 [(10, .int .i64 (csE b q r t)), (11, .bool (!decide (csE b q r t = 0)))] hF (by kernel_rfl) fun a hF => ?_
  refine wpList_nil ?_
  refine hK4 _ _ ?_
  by_cases hz1 : csE b q r t = 0
  · skip
    have hz2 := cs_bd hz1
    replace hF := hF.c hF (i := 11) (v := .bool false) rfl (nT hz1)
    refine cF hF (by kernel_rfl) (by kernel_rfl) ?_
    refine wp_skip ?_
    refine hK2 _ _ ?_
    refine wp_seq_k fun K5 hK5 => ?_
    refine rQ hM (by kernel_rfl) (by kernel_rfl) ?_
    refine eQ 13 (v0 := .pointer (some ⟨bb1, 0, none⟩)) (v := .pointer (some ⟨bb1, 0, none⟩)) hF (by kernel_rfl) (fun _ => by kernel_rfl) rfl fun a hF => ?_
    refine eQL 14 1 0 (v := .int .i64 b) hF (by kernel_rfl) rfl rfl (by kernel_rfl) (by kernel_rfl) fun a hF => ?_
    refine eQ 15 (v0 := .pointer (some ⟨bb1, 1, none⟩)) (v := .pointer (some ⟨bb1, 1, none⟩)) hF (by kernel_rfl) (fun _ => by kernel_rfl) rfl fun a hF => ?_
    refine eQL 16 1 1 (v := .int .i64 q) hF (by kernel_rfl) rfl rfl (by kernel_rfl) (by kernel_rfl) fun a hF => ?_
    refine eQ 17 (v0 := .pointer (some ⟨bb2, 1, none⟩)) (v := .pointer (some ⟨bb2, 1, none⟩)) hF (by kernel_rfl) (fun _ => by kernel_rfl) rfl fun a hF => ?_
    refine eQL 18 2 1 (v := .int .i64 t) hF (by kernel_rfl) rfl rfl (by kernel_rfl) (by kernel_rfl) fun a hF => ?_
    refine eQ2 19 (v := .int .i64 (cq (q * t) 1048576)) hF (by kernel_rfl) (yld_call (f := 47) (args := #[.int .i64 q, .int .i64 t, .int .i64 1048576]) hF (by kernel_rfl) (fun _ => by kernel_rfl) (fun w hM => ceil_cq q t 1048576 w (by omega) (by omega) (by omega) (by have q := (mul_bd (lo := 0) (hi := 562949953421312) (a := q) (b := t) (1) (2097152) (0) (268435456) (by omega) (by omega) (by omega) (by omega) (by decide)); omega))) fun a hF => ?_
    have := cq_in (n := q * t) (d := 1048576) (B := 536870912) (by omega) (mul_bd (lo := 0) (hi := 562949953421312) (a := q) (b := t) (1) (2097152) (0) (268435456) (by omega) (by omega) (by omega) (by omega) (by decide)).1 (by have q := (mul_bd (lo := 0) (hi := 562949953421312) (a := q) (b := t) (1) (2097152) (0) (268435456) (by omega) (by omega) (by omega) (by omega) (by decide)); omega)
    refine eQ 20 (v0 := .int .i64 (IntKind.i64.wrap (b + cq (q * t) 1048576))) (v := .int .i64 (b + cq (q * t) 1048576)) hF (by kernel_rfl) (fun _ => by kernel_rfl) (wi (by omega)) fun a hF => ?_
    refine eQ 4 (v0 := .int .i64 (b + cq (q * t) 1048576)) (v := .int .i64 (b + cq (q * t) 1048576)) hF (by kernel_rfl) (fun _ => by kernel_rfl) rfl fun a hF => ?_
    refine eQ 5 (v0 := .int .i64 0) (v := .int .i64 0) hF (by kernel_rfl) (fun _ => by kernel_rfl) rfl fun a hF => ?_
    refine wpQuiet_nil ?_
    intro w hM
    refine hK5 _ _ ?_
    refine wp_ret ?_
    refine hR0 _ _ ?_
    refine ret_of hF hM (.tmp rfl (.tmp rfl (.nil))) ?_
    exact ⟨ret_eq (by rw [bl_yes hz1, hz1]; rfl), hM.bel⟩
  · skip
    replace hF := hF.c hF (i := 11) (v := .bool true) rfl (nF hz1)
    refine cT hF (by kernel_rfl) (by kernel_rfl) ?_
    refine wp_seq_k fun K6 hK6 => ?_
    refine wp_region_lit ?_
    refine sB 3 [(12, .int .i64 (csE b q r t)), (4, .int .i64 0), (5, .int .i64 (csE b q r t))] hF (by kernel_rfl) fun a hF => ?_
    refine wpList_nil ?_
    refine hK6 _ _ ?_
    refine wp_ret ?_
    refine hR0 _ _ ?_
    refine ret_of hF hM (.tmp rfl (.tmp rfl (.nil))) ?_
    exact ⟨ret_eq (by rw [bl_no hz1]; rfl), hM.bel⟩

end Go.Proofs.Ytoighcbbaacnaaa
