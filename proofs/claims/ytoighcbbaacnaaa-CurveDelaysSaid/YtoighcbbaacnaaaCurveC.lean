/-
  Contracts of package curve: Delay.
-/
import Derived.Test.YtoighcbbaacnaaaCurveB
import Derived.Test.YtoighcbbaacnaaaCurveLaws
namespace Go.Proofs.Ytoighcbbaacnaaa
open Go.RowKit
set_option linter.unusedVariables false
set_option linter.unusedSimpArgs false

theorem bk_next {l : List (Int × Int)} {k : Nat} (h : ∀ j, j < k → bkE (pr l j).1 (pr l j).2 = 0) (hk : bkE (pr l k).1 (pr l k).2 = 0) : ∀ j, j < k + 1 → bkE (pr l j).1 (pr l j).2 = 0 := fun j hj => by
  by_cases e : j = k
  · subst e; exact hk
  · exact h j (by omega)
theorem bkAll_k {l : List (Int × Int)} {k : Nat} (h : ∀ j, j < k → bkE (pr l j).1 (pr l j).2 = 0) (hk : l.length ≤ k) : bkAll l = true := bkAll_yes fun j hj => h j (by omega)
theorem delay_w (r t : Int) (A : Option Addr) (l : List (Int × Int)) (c : Nat) (w0 : World) (hA : Ro w0 A (flat2 l)) :
    Calls Try.prog 20 #[.slice A l.length c, .agg #[.int .i64 r, .int .i64 t]] w0 (Ret w0 (.tuple #[.int .i64 (dlV r t l), .int .i64 (dlE r t l)])) := by
  refine enterK 30 Try.func20 rfl rfl rfl ?_
  intro a hF Q0 hR0 hN0
  have hM := Mem.start w0
  replace hM := hM.addOld 1 hA (Nat.le_refl _)
  refine wp_seq_k fun K1 hK1 => ?_
  refine wp_region_lit ?_
  refine wl (eN 2 2 (t := 35) (fun b => .pointer (some ⟨b, 0, none⟩)) #[.slice A l.length c] hF hM (by kernel_rfl) (fun _ => by kernel_rfl) fun bb1 a w hF hM => ?_)
  refine wl (eN 3 3 (t := 23) (fun b => .pointer (some ⟨b, 0, none⟩)) #[.int .i64 r, .int .i64 t] hF hM (by kernel_rfl) (fun _ => by kernel_rfl) fun bb2 a w hF hM => ?_)
  refine sB 2 [(4, .int .i64 0), (5, .int .i64 0)] hF (by kernel_rfl) fun a hF => ?_
  refine wpList_nil ?_
  refine hK1 _ _ ?_
  refine wp_seq_k fun K2 hK2 => ?_
  refine wp_region_lit ?_
  refine sB 3 [(9, .func (.func 38) #[] #[.pointer (some ⟨bb1, 0, none⟩)]), (10, .func (.func 39) #[] #[.pointer (some ⟨bb1, 0, none⟩)]), (11, .func (.func 41) #[] #[.pointer (some ⟨bb2, 0, none⟩)])] hF (by kernel_rfl) fun a hF => ?_
  refine wl (eN 12 4 (t := 77) (fun b => .slice (some ⟨b, 0, none⟩) 3 3) #[.func (.func 38) #[] #[.pointer (some ⟨bb1, 0, none⟩)], .func (.func 39) #[] #[.pointer (some ⟨bb1, 0, none⟩)], .func (.func 41) #[] #[.pointer (some ⟨bb2, 0, none⟩)]] hF hM (by kernel_rfl) (fun _ => by kernel_rfl) fun bb3 a w hF hM => ?_)
  refine wl (sC (f := 34) (args := #[.slice (some ⟨bb3, 0, none⟩) 3 3]) hF (by kernel_rfl) rfl (by decide) (by kernel_rfl) (fun _ => by kernel_rfl) ?_)
  refine enterK 18 Try.func34 rfl rfl rfl ?_
  intro a1 hF1 QR3 hR3 hNR3
  refine wp_seq_k fun K4 hK4 => ?_
  refine wp_region_lit ?_
  refine sB 1 [(2, .int .i64 0)] hF1 (by kernel_rfl) fun a1 hF1 => ?_
  refine wpList_nil ?_
  refine hK4 _ _ ?_
  refine wp_seq_k fun K5 hK5 => ?_
  refine wp_seq_k fun K6 hK6 => ?_
  refine wp_region_lit ?_
  refine sB 3 [(6, .slice (some ⟨bb3, 0, none⟩) 3 3), (7, .int .i64 3), (8, .int .i64 0)] hF1 (by kernel_rfl) fun a1 hF1 => ?_
  refine wpList_nil ?_
  refine hK6 _ _ ?_
  refine wp_block ?_
  refine wp_loop_rounds 4 ?_
  refine rounds_k fun K7 hK7 => ?_
  refine wp_seq_k fun K8 hK8 => ?_
  refine wp_region_lit ?_
  refine wl (eP 9 (v0 := .bool (decide (0 < 3))) (v := .bool true) hF1 (by kernel_rfl) (fun _ => by kernel_rfl) (bT (by omega)) fun a1 hF1 => ?_)
  refine wpList_nil ?_
  refine hK8 _ _ ?_
  refine wp_seq_k fun K9 hK9 => ?_
  refine cT hF1 (by kernel_rfl) (by kernel_rfl) ?_
  refine wp_skip ?_
  refine hK9 _ _ ?_
  refine wp_seq_k fun K10 hK10 => ?_
  refine wp_block ?_
  refine wp_seq_k fun K11 hK11 => ?_
  refine wp_region_lit ?_
  refine sB 1 [(10, .pointer (some ⟨bb3, 0, none⟩))] hF1 (by kernel_rfl) fun a1 hF1 => ?_
  refine wl (eL 11 4 0 (v := .func (.func 38) #[] #[.pointer (some ⟨bb1, 0, none⟩)]) hF1 hM (by kernel_rfl) rfl rfl (by kernel_rfl) (by kernel_rfl) fun a1 w hF1 hM => ?_)
  refine sB 1 [(4, .func (.func 38) #[] #[.pointer (some ⟨bb1, 0, none⟩)])] hF1 (by kernel_rfl) fun a1 hF1 => ?_
  refine wpList_nil ?_
  refine hK11 _ _ ?_
  refine wp_seq_k fun K12 hK12 => ?_
  refine wp_region_lit ?_
  refine sB 1 [(12, .func (.func 38) #[] #[.pointer (some ⟨bb1, 0, none⟩)])] hF1 (by kernel_rfl) fun a1 hF1 => ?_
  refine wl (sC (f := 38) (args := #[.pointer (some ⟨bb1, 0, none⟩)]) hF1 (by kernel_rfl) rfl (by decide) (by kernel_rfl) (fun _ => by kernel_rfl) ?_)
  refine enterK 8 Try.func38 rfl rfl rfl ?_
  intro a2 hF2 QR13 hR13 hNR13
  refine wp_seq_k fun K14 hK14 => ?_
  refine wp_region_lit ?_
  refine sB 1 [(1, .int .i64 0)] hF2 (by kernel_rfl) fun a2 hF2 => ?_
  refine wpList_nil ?_
  refine hK14 _ _ ?_
  refine wp_seq_k fun K15 hK15 => ?_
  refine wp_seq_k fun K16 hK16 => ?_
  refine wp_region_lit ?_
  refine wl (eL 2 2 0 (v := .slice A l.length c) hF2 hM (by kernel_rfl) rfl rfl (by kernel_rfl) (by kernel_rfl) fun a2 w hF2 hM => ?_)
  refine sB 2 [(3, .int .i64 (l.length : Int)), (4, .bool (decide ((l.length : Int) = 0)))] hF2 (by kernel_rfl) fun a2 hF2 => ?_
  refine wpList_nil ?_
  refine hK16 _ _ ?_
  by_cases hz1 : (l.length : Int) = 0
  · skip
    replace hF2 := hF2.c hF2 (i := 4) (v := .bool true) rfl (bT hz1)
    refine cT hF2 (by kernel_rfl) (by kernel_rfl) ?_
    refine wp_seq_k fun K17 hK17 => ?_
    refine wp_region_lit ?_
    refine sB 1 [(1, .int .i64 2)] hF2 (by kernel_rfl) fun a2 hF2 => ?_
    refine wpList_nil ?_
    refine hK17 _ _ ?_
    refine wp_ret ?_
    refine hR13 _ _ ?_
    refine ret_of hF2 hM (.tmp rfl (.nil)) ⟨_, rfl, ?_⟩
    intro a1 hF1
    refine sB 1 [(5, .int .i64 2)] hF1 (by kernel_rfl) fun a1 hF1 => ?_
    refine wpList_nil ?_
    refine hK12 _ _ ?_
    refine wp_seq_k fun K18 hK18 => ?_
    refine wp_region_lit ?_
    refine sB 1 [(14, .int .i64 2)] hF1 (by kernel_rfl) fun a1 hF1 => ?_
    refine wl (eP 15 (v0 := .bool (!decide (2 = 0))) (v := .bool true) hF1 (by kernel_rfl) (fun _ => by kernel_rfl) (nF (by omega)) fun a1 hF1 => ?_)
    refine wpList_nil ?_
    refine hK18 _ _ ?_
    refine cT hF1 (by kernel_rfl) (by kernel_rfl) ?_
    refine wp_seq_k fun K19 hK19 => ?_
    refine wp_region_lit ?_
    refine sB 2 [(16, .int .i64 2), (2, .int .i64 2)] hF1 (by kernel_rfl) fun a1 hF1 => ?_
    refine wpList_nil ?_
    refine hK19 _ _ ?_
    refine wp_ret ?_
    refine hR3 _ _ ?_
    refine ret_of hF1 hM (.tmp rfl (.nil)) ⟨_, rfl, ?_⟩
    intro a hF
    refine sB 1 [(6, .int .i64 2)] hF (by kernel_rfl) fun a hF => ?_
    refine wpList_nil ?_
    refine hK2 _ _ ?_
    refine wp_seq_k fun K20 hK20 => ?_
    refine wp_seq_k fun K21 hK21 => ?_
    refine wp_region_lit ?_
    refine sB 1 [(14, .int .i64 2)] hF (by kernel_rfl) fun a hF => ?_
    refine wl (eP 15 (v0 := .bool (!decide (2 = 0))) (v := .bool true) hF (by kernel_rfl) (fun _ => by kernel_rfl) (nF (by omega)) fun a hF => ?_)
    refine wpList_nil ?_
    refine hK21 _ _ ?_
    refine cT hF (by kernel_rfl) (by kernel_rfl) ?_
    refine wp_seq_k fun K22 hK22 => ?_
    refine wp_region_lit ?_
    refine sB 3 [(16, .int .i64 2), (4, .int .i64 0), (5, .int .i64 2)] hF (by kernel_rfl) fun a hF => ?_
    refine wpList_nil ?_
    refine hK22 _ _ ?_
    refine wp_ret ?_
    refine hR0 _ _ ?_
    refine ret_of hF hM (.tmp rfl (.tmp rfl (.nil))) ?_
    have hd := dl_2 (r := r) (t := t) (l := l) (by omega)
    exact ⟨ret_eq (by rw [hd.1, hd.2]; rfl), hM.bel⟩
  · skip
    replace hF2 := hF2.c hF2 (i := 4) (v := .bool false) rfl (bF hz1)
    refine cF hF2 (by kernel_rfl) (by kernel_rfl) ?_
    refine wp_skip ?_
    refine hK15 _ _ ?_
    refine wp_seq_k fun K23 hK23 => ?_
    refine wp_seq_k fun K24 hK24 => ?_
    refine wp_region_lit ?_
    refine wl (eL 5 2 0 (v := .slice A l.length c) hF2 hM (by kernel_rfl) rfl rfl (by kernel_rfl) (by kernel_rfl) fun a2 w hF2 hM => ?_)
    refine sB 2 [(6, .int .i64 (l.length : Int)), (7, .bool (decide (12 < (l.length : Int))))] hF2 (by kernel_rfl) fun a2 hF2 => ?_
    refine wpList_nil ?_
    refine hK24 _ _ ?_
    by_cases hz2 : 12 < (l.length : Int)
    · skip
      replace hF2 := hF2.c hF2 (i := 7) (v := .bool true) rfl (bT hz2)
      refine cT hF2 (by kernel_rfl) (by kernel_rfl) ?_
      refine wp_seq_k fun K25 hK25 => ?_
      refine wp_region_lit ?_
      refine sB 1 [(1, .int .i64 3)] hF2 (by kernel_rfl) fun a2 hF2 => ?_
      refine wpList_nil ?_
      refine hK25 _ _ ?_
      refine wp_ret ?_
      refine hR13 _ _ ?_
      refine ret_of hF2 hM (.tmp rfl (.nil)) ⟨_, rfl, ?_⟩
      intro a1 hF1
      refine sB 1 [(5, .int .i64 3)] hF1 (by kernel_rfl) fun a1 hF1 => ?_
      refine wpList_nil ?_
      refine hK12 _ _ ?_
      refine wp_seq_k fun K26 hK26 => ?_
      refine wp_region_lit ?_
      refine sB 1 [(14, .int .i64 3)] hF1 (by kernel_rfl) fun a1 hF1 => ?_
      refine wl (eP 15 (v0 := .bool (!decide (3 = 0))) (v := .bool true) hF1 (by kernel_rfl) (fun _ => by kernel_rfl) (nF (by omega)) fun a1 hF1 => ?_)
      refine wpList_nil ?_
      refine hK26 _ _ ?_
      refine cT hF1 (by kernel_rfl) (by kernel_rfl) ?_
      refine wp_seq_k fun K27 hK27 => ?_
      refine wp_region_lit ?_
      refine sB 2 [(16, .int .i64 3), (2, .int .i64 3)] hF1 (by kernel_rfl) fun a1 hF1 => ?_
      refine wpList_nil ?_
      refine hK27 _ _ ?_
      refine wp_ret ?_
      refine hR3 _ _ ?_
      refine ret_of hF1 hM (.tmp rfl (.nil)) ⟨_, rfl, ?_⟩
      intro a hF
      refine sB 1 [(6, .int .i64 3)] hF (by kernel_rfl) fun a hF => ?_
      refine wpList_nil ?_
      refine hK2 _ _ ?_
      refine wp_seq_k fun K28 hK28 => ?_
      refine wp_seq_k fun K29 hK29 => ?_
      refine wp_region_lit ?_
      refine sB 1 [(14, .int .i64 3)] hF (by kernel_rfl) fun a hF => ?_
      refine wl (eP 15 (v0 := .bool (!decide (3 = 0))) (v := .bool true) hF (by kernel_rfl) (fun _ => by kernel_rfl) (nF (by omega)) fun a hF => ?_)
      refine wpList_nil ?_
      refine hK29 _ _ ?_
      refine cT hF (by kernel_rfl) (by kernel_rfl) ?_
      refine wp_seq_k fun K30 hK30 => ?_
      refine wp_region_lit ?_
      refine sB 3 [(16, .int .i64 3), (4, .int .i64 0), (5, .int .i64 3)] hF (by kernel_rfl) fun a hF => ?_
      refine wpList_nil ?_
      refine hK30 _ _ ?_
      refine wp_ret ?_
      refine hR0 _ _ ?_
      refine ret_of hF hM (.tmp rfl (.tmp rfl (.nil))) ?_
      have hd := dl_3 (r := r) (t := t) (l := l) (by omega)
      exact ⟨ret_eq (by rw [hd.1, hd.2]; rfl), hM.bel⟩
    · skip
      replace hF2 := hF2.c hF2 (i := 7) (v := .bool false) rfl (bF hz2)
      refine cF hF2 (by kernel_rfl) (by kernel_rfl) ?_
      refine wp_skip ?_
      refine hK23 _ _ ?_
      refine wp_seq_k fun K31 hK31 => ?_
      refine wp_region_lit ?_
      refine sB 1 [(1, .int .i64 0)] hF2 (by kernel_rfl) fun a2 hF2 => ?_
      refine wpList_nil ?_
      refine hK31 _ _ ?_
      refine wp_ret ?_
      refine hR13 _ _ ?_
      refine ret_of hF2 hM (.tmp rfl (.nil)) ⟨_, rfl, ?_⟩
      intro a1 hF1
      refine sB 1 [(5, .int .i64 0)] hF1 (by kernel_rfl) fun a1 hF1 => ?_
      refine wpList_nil ?_
      refine hK12 _ _ ?_
      refine wp_seq_k fun K32 hK32 => ?_
      refine wp_region_lit ?_
      refine sB 1 [(14, .int .i64 0)] hF1 (by kernel_rfl) fun a1 hF1 => ?_
      refine wl (eP 15 (v0 := .bool (!decide (0 = 0))) (v := .bool false) hF1 (by kernel_rfl) (fun _ => by kernel_rfl) (nT (by omega)) fun a1 hF1 => ?_)
      refine wpList_nil ?_
      refine hK32 _ _ ?_
      refine cF hF1 (by kernel_rfl) (by kernel_rfl) ?_
      refine wp_skip ?_
      refine hK10 _ _ ?_
      refine wp_region_lit ?_
      refine wl (eP 17 (v0 := .int .i64 (IntKind.i64.wrap (0 + 1))) (v := .int .i64 1) hF1 (by kernel_rfl) (fun _ => by kernel_rfl) (vi (by decide)) fun a1 hF1 => ?_)
      refine sB 1 [(8, .int .i64 1)] hF1 (by kernel_rfl) fun a1 hF1 => ?_
      refine wpList_nil ?_
      refine hK7 _ _ ?_
      refine rounds_k fun K33 hK33 => ?_
      refine wp_seq_k fun K34 hK34 => ?_
      refine wp_region_lit ?_
      refine wl (eP 9 (v0 := .bool (decide (1 < 3))) (v := .bool true) hF1 (by kernel_rfl) (fun _ => by kernel_rfl) (bT (by omega)) fun a1 hF1 => ?_)
      refine wpList_nil ?_
      refine hK34 _ _ ?_
      refine wp_seq_k fun K35 hK35 => ?_
      refine cT hF1 (by kernel_rfl) (by kernel_rfl) ?_
      refine wp_skip ?_
      refine hK35 _ _ ?_
      refine wp_seq_k fun K36 hK36 => ?_
      refine wp_block ?_
      refine wp_seq_k fun K37 hK37 => ?_
      refine wp_region_lit ?_
      refine sB 1 [(10, .pointer (some ⟨bb3, 1, none⟩))] hF1 (by kernel_rfl) fun a1 hF1 => ?_
      refine wl (eL 11 4 1 (v := .func (.func 39) #[] #[.pointer (some ⟨bb1, 0, none⟩)]) hF1 hM (by kernel_rfl) rfl rfl (by kernel_rfl) (by kernel_rfl) fun a1 w hF1 hM => ?_)
      refine sB 1 [(4, .func (.func 39) #[] #[.pointer (some ⟨bb1, 0, none⟩)])] hF1 (by kernel_rfl) fun a1 hF1 => ?_
      refine wpList_nil ?_
      refine hK37 _ _ ?_
      refine wp_seq_k fun K38 hK38 => ?_
      refine wp_region_lit ?_
      refine sB 1 [(12, .func (.func 39) #[] #[.pointer (some ⟨bb1, 0, none⟩)])] hF1 (by kernel_rfl) fun a1 hF1 => ?_
      refine wl (sC (f := 39) (args := #[.pointer (some ⟨bb1, 0, none⟩)]) hF1 (by kernel_rfl) rfl (by decide) (by kernel_rfl) (fun _ => by kernel_rfl) ?_)
      refine enterK 17 Try.func39 rfl rfl rfl ?_
      intro a2 hF2 QR39 hR39 hNR39
      refine wp_seq_k fun K40 hK40 => ?_
      refine wp_region_lit ?_
      refine sB 1 [(1, .int .i64 0)] hF2 (by kernel_rfl) fun a2 hF2 => ?_
      refine wpList_nil ?_
      refine hK40 _ _ ?_
      refine wp_seq_k fun K41 hK41 => ?_
      refine wp_seq_k fun K42 hK42 => ?_
      refine wp_region_lit ?_
      refine wl (eL 5 2 0 (v := .slice A l.length c) hF2 hM (by kernel_rfl) rfl rfl (by kernel_rfl) (by kernel_rfl) fun a2 w hF2 hM => ?_)
      refine sB 2 [(6, .int .i64 (l.length : Int)), (7, .int .i64 0)] hF2 (by kernel_rfl) fun a2 hF2 => ?_
      refine wpList_nil ?_
      refine hK42 _ _ ?_
      refine wp_block ?_
      refine wp_loop_k (G := Nat) (fun gg a w => Fr 17 [(7, some (.int .i64 (gg : Int))), (5, some (.slice A l.length c)), (6, some (.int .i64 (l.length : Int)))] a ∧ Mem w0.heap.size w0 [(1, some (.ro A (flat2 l))), (2, some (.row bb1 35 #[.slice A l.length c])), (3, some (.row bb2 23 #[.int .i64 r, .int .i64 t])), (4, some (.row bb3 77 #[.func (.func 38) #[] #[.pointer (some ⟨bb1, 0, none⟩)], .func (.func 39) #[] #[.pointer (some ⟨bb1, 0, none⟩)], .func (.func 41) #[] #[.pointer (some ⟨bb2, 0, none⟩)]]))] w ∧ ((gg : Int) ≤ (l.length : Int)) ∧ (∀ j, j < gg → bkE (pr l j).1 (pr l j).2 = 0)) (fun gg => l.length - gg) (0) ?_ ?_
      · refine ⟨((((Fr.nil hF2).c hF2 (i := 6) rfl rfl).c hF2 (i := 5) rfl rfl).c hF2 (i := 7) rfl (vi (show (0 : Int) = (0 : Int) from by omega))), (hM.sub ((((Sub.nil.c (k := 4) rfl rfl).c (k := 3) rfl rfl).c (k := 2) rfl rfl).c (k := 1) rfl rfl)), (show (0 : Int) ≤ (l.length : Int) from by omega), (show ∀ j, j < 0 → bkE (pr l j).1 (pr l j).2 = 0 from by exact fun j hj => by omega)⟩
      · intro gg a2 w hI
        intro K43 hK43
        obtain ⟨k, rfl⟩ : ∃ x, x = gg := ⟨_, rfl⟩
        try dsimp only at hI hK43
        obtain ⟨hF2, hM, hz3, hz4⟩ := hI
        refine wp_seq_k fun K44 hK44 => ?_
        refine wp_region_lit ?_
        refine sB 1 [(8, .bool (decide ((k : Int) < (l.length : Int))))] hF2 (by kernel_rfl) fun a2 hF2 => ?_
        refine wpList_nil ?_
        refine hK44 _ _ ?_
        refine wp_seq_k fun K45 hK45 => ?_
        by_cases hz5 : (k : Int) < (l.length : Int)
        · skip
          replace hF2 := hF2.c hF2 (i := 8) (v := .bool true) rfl (bT hz5)
          refine cT hF2 (by kernel_rfl) (by kernel_rfl) ?_
          refine wp_skip ?_
          refine hK45 _ _ ?_
          refine wp_seq_k fun K46 hK46 => ?_
          refine wp_block ?_
          refine wp_seq_k fun K47 hK47 => ?_
          refine wp_region_lit ?_
          refine wl (eM 9 (v := .pointer (some (ea A (k * 2)))) hF2 hM (by kernel_rfl) (yld_ix (kd := .i64) (e := 39) (len := l.length) (cap := c) (i := (k : Int)) (size := 2) (A := A) hF2 rfl (by kernel_rfl) (by kernel_rfl) (by kernel_rfl) (by kernel_rfl) (by kernel_rfl) (roK 1 rfl) (by omega) (by omega) (by rw [flat2_length]; omega)) fun a2 w hF2 hM => ?_)
          refine wl (eM 10 (v := .agg #[.int .i64 (pr l k).1, .int .i64 (pr l k).2]) hF2 hM (by kernel_rfl) (yld_roM (A := A) (j := k * 2) (us := [.int .i64 (pr l k).1, .int .i64 (pr l k).2]) hF2 rfl (by kernel_rfl) (by kernel_rfl) (roK 1 rfl) (by kernel_rfl) rfl (pr_both (k := k) (by omega) (by omega))) fun a2 w hF2 hM => ?_)
          refine wl (eN 3 5 (t := 39) (fun b => .pointer (some ⟨b, 0, none⟩)) #[.int .i64 0, .int .i64 0] hF2 hM (by kernel_rfl) (fun _ => by kernel_rfl) fun bb4 a2 w hF2 hM => ?_)
          refine wl (sStore (i := 5) (off := 0) (cs' := #[.int .i64 (pr l k).1, .int .i64 (pr l k).2]) hF2 hM (by kernel_rfl) rfl rfl (by kernel_rfl) (by kernel_rfl) rfl (by kernel_rfl) fun w hM => ?_)
          refine wpList_nil ?_
          refine hK47 _ _ ?_
          refine wp_seq_k fun K48 hK48 => ?_
          refine wp_region_lit ?_
          refine wl (eL 11 5 0 (v := .agg #[.int .i64 (pr l k).1, .int .i64 (pr l k).2]) hF2 hM (by kernel_rfl) rfl rfl (by kernel_rfl) (by kernel_rfl) fun a2 w hF2 hM => ?_)
          refine wl (eM 12 (v := .int .i64 (bkE (pr l k).1 (pr l k).2)) hF2 hM (by kernel_rfl) (yld_call (f := 40) (args := #[.agg #[.int .i64 (pr l k).1, .int .i64 (pr l k).2]]) hF2 (by kernel_rfl) (fun _ => by kernel_rfl) (fun w hM => bkCheck_w (pr l k).1 (pr l k).2 w)) fun a2 w hF2 hM => ?_)
          refine sB 1 [(4, .int .i64 (bkE (pr l k).1 (pr l k).2))] hF2 (by kernel_rfl) fun a2 hF2 => ?_
          refine wpList_nil ?_
          refine hK48 _ _ ?_
          refine wp_seq_k fun K49 hK49 => ?_
          refine wp_region_lit ?_
          refine sB 2 [(13, .int .i64 (bkE (pr l k).1 (pr l k).2)), (14, .bool (!decide (bkE (pr l k).1 (pr l k).2 = 0)))] hF2 (by kernel_rfl) fun a2 hF2 => ?_
          refine wpList_nil ?_
          refine hK49 _ _ ?_
          by_cases hz6 : bkE (pr l k).1 (pr l k).2 = 0
          · skip
            have hz7 := bkE_ok hz6
            replace hF2 := hF2.c hF2 (i := 14) (v := .bool false) rfl (nT hz6)
            refine cF hF2 (by kernel_rfl) (by kernel_rfl) ?_
            refine wp_skip ?_
            refine hK46 _ _ ?_
            refine wp_region_lit ?_
            refine wl (eP 16 (v0 := .int .i64 (IntKind.i64.wrap ((k : Int) + 1))) (v := .int .i64 ((k : Int) + 1)) hF2 (by kernel_rfl) (fun _ => by kernel_rfl) (wi (by omega)) fun a2 hF2 => ?_)
            refine sB 1 [(7, .int .i64 ((k : Int) + 1))] hF2 (by kernel_rfl) fun a2 hF2 => ?_
            refine wpList_nil ?_
            refine hK43 _ _ ⟨(k + 1), ⟨((((Fr.nil hF2).c hF2 (i := 6) rfl rfl).c hF2 (i := 5) rfl rfl).c hF2 (i := 7) rfl (vi (show ((k : Int) + 1 : Int) = ((k + 1) : Int) from by omega))), (hM.sub ((((Sub.nil.c (k := 4) rfl rfl).c (k := 3) rfl rfl).c (k := 2) rfl rfl).c (k := 1) rfl rfl)), (show ((k + 1) : Int) ≤ (l.length : Int) from by omega), (show ∀ j, j < (k + 1) → bkE (pr l j).1 (pr l j).2 = 0 from by exact bk_next (by assumption) (by assumption))⟩, (show l.length - (k + 1) < l.length - k from by omega)⟩
          · skip
            replace hF2 := hF2.c hF2 (i := 14) (v := .bool true) rfl (nF hz6)
            refine cT hF2 (by kernel_rfl) (by kernel_rfl) ?_
            refine wp_seq_k fun K50 hK50 => ?_
            refine wp_region_lit ?_
            refine sB 2 [(15, .int .i64 (bkE (pr l k).1 (pr l k).2)), (1, .int .i64 (bkE (pr l k).1 (pr l k).2))] hF2 (by kernel_rfl) fun a2 hF2 => ?_
            refine wpList_nil ?_
            refine hK50 _ _ ?_
            refine wp_ret ?_
            refine hR39 _ _ ?_
            refine ret_of hF2 hM (.tmp rfl (.nil)) ⟨_, rfl, ?_⟩
            intro a1 hF1
            refine sB 1 [(5, .int .i64 (bkE (pr l k).1 (pr l k).2))] hF1 (by kernel_rfl) fun a1 hF1 => ?_
            refine wpList_nil ?_
            refine hK38 _ _ ?_
            refine wp_seq_k fun K51 hK51 => ?_
            refine wp_region_lit ?_
            refine sB 1 [(14, .int .i64 (bkE (pr l k).1 (pr l k).2))] hF1 (by kernel_rfl) fun a1 hF1 => ?_
            refine wl (eP 15 (v0 := .bool (!decide (bkE (pr l k).1 (pr l k).2 = 0))) (v := .bool true) hF1 (by kernel_rfl) (fun _ => by kernel_rfl) (nF hz6) fun a1 hF1 => ?_)
            refine wpList_nil ?_
            refine hK51 _ _ ?_
            refine cT hF1 (by kernel_rfl) (by kernel_rfl) ?_
            refine wp_seq_k fun K52 hK52 => ?_
            refine wp_region_lit ?_
            refine sB 2 [(16, .int .i64 (bkE (pr l k).1 (pr l k).2)), (2, .int .i64 (bkE (pr l k).1 (pr l k).2))] hF1 (by kernel_rfl) fun a1 hF1 => ?_
            refine wpList_nil ?_
            refine hK52 _ _ ?_
            refine wp_ret ?_
            refine hR3 _ _ ?_
            refine ret_of hF1 hM (.tmp rfl (.nil)) ⟨_, rfl, ?_⟩
            intro a hF
            refine sB 1 [(6, .int .i64 (bkE (pr l k).1 (pr l k).2))] hF (by kernel_rfl) fun a hF => ?_
            refine wpList_nil ?_
            refine hK2 _ _ ?_
            refine wp_seq_k fun K53 hK53 => ?_
            refine wp_seq_k fun K54 hK54 => ?_
            refine wp_region_lit ?_
            refine sB 1 [(14, .int .i64 (bkE (pr l k).1 (pr l k).2))] hF (by kernel_rfl) fun a hF => ?_
            refine wl (eP 15 (v0 := .bool (!decide (bkE (pr l k).1 (pr l k).2 = 0))) (v := .bool true) hF (by kernel_rfl) (fun _ => by kernel_rfl) (nF hz6) fun a hF => ?_)
            refine wpList_nil ?_
            refine hK54 _ _ ?_
            refine cT hF (by kernel_rfl) (by kernel_rfl) ?_
            refine wp_seq_k fun K55 hK55 => ?_
            refine wp_region_lit ?_
            refine sB 3 [(16, .int .i64 (bkE (pr l k).1 (pr l k).2)), (4, .int .i64 0), (5, .int .i64 (bkE (pr l k).1 (pr l k).2))] hF (by kernel_rfl) fun a hF => ?_
            refine wpList_nil ?_
            refine hK55 _ _ ?_
            refine wp_ret ?_
            refine hR0 _ _ ?_
            refine ret_of hF hM (.tmp rfl (.tmp rfl (.nil))) ?_
            have hd := dl_130 (r := r) (t := t) (l := l) (by omega) (by omega) (bkAll_no (k := k) (by omega) hz6)
            exact ⟨ret_eq (by rw [hd.1, hd.2, bkE_no hz6]; rfl), hM.bel⟩
        · skip
          replace hF2 := hF2.c hF2 (i := 8) (v := .bool false) rfl (bF hz5)
          refine cF hF2 (by kernel_rfl) (by kernel_rfl) ?_
          refine wp_exit ?_
          refine hK41 _ _ ?_
          refine wp_seq_k fun K56 hK56 => ?_
          refine wp_region_lit ?_
          refine sB 1 [(1, .int .i64 0)] hF2 (by kernel_rfl) fun a2 hF2 => ?_
          refine wpList_nil ?_
          refine hK56 _ _ ?_
          refine wp_ret ?_
          refine hR39 _ _ ?_
          refine ret_of hF2 hM (.tmp rfl (.nil)) ⟨_, rfl, ?_⟩
          intro a1 hF1
          refine sB 1 [(5, .int .i64 0)] hF1 (by kernel_rfl) fun a1 hF1 => ?_
          refine wpList_nil ?_
          refine hK38 _ _ ?_
          refine wp_seq_k fun K57 hK57 => ?_
          refine wp_region_lit ?_
          refine sB 1 [(14, .int .i64 0)] hF1 (by kernel_rfl) fun a1 hF1 => ?_
          refine wl (eP 15 (v0 := .bool (!decide (0 = 0))) (v := .bool false) hF1 (by kernel_rfl) (fun _ => by kernel_rfl) (nT (by omega)) fun a1 hF1 => ?_)
          refine wpList_nil ?_
          refine hK57 _ _ ?_
          refine cF hF1 (by kernel_rfl) (by kernel_rfl) ?_
          refine wp_skip ?_
          refine hK36 _ _ ?_
          refine wp_region_lit ?_
          refine wl (eP 17 (v0 := .int .i64 (IntKind.i64.wrap (1 + 1))) (v := .int .i64 2) hF1 (by kernel_rfl) (fun _ => by kernel_rfl) (vi (by decide)) fun a1 hF1 => ?_)
          refine sB 1 [(8, .int .i64 2)] hF1 (by kernel_rfl) fun a1 hF1 => ?_
          refine wpList_nil ?_
          refine hK33 _ _ ?_
          refine rounds_k fun K58 hK58 => ?_
          refine wp_seq_k fun K59 hK59 => ?_
          refine wp_region_lit ?_
          refine wl (eP 9 (v0 := .bool (decide (2 < 3))) (v := .bool true) hF1 (by kernel_rfl) (fun _ => by kernel_rfl) (bT (by omega)) fun a1 hF1 => ?_)
          refine wpList_nil ?_
          refine hK59 _ _ ?_
          refine wp_seq_k fun K60 hK60 => ?_
          refine cT hF1 (by kernel_rfl) (by kernel_rfl) ?_
          refine wp_skip ?_
          refine hK60 _ _ ?_
          refine wp_seq_k fun K61 hK61 => ?_
          refine wp_block ?_
          refine wp_seq_k fun K62 hK62 => ?_
          refine wp_region_lit ?_
          refine sB 1 [(10, .pointer (some ⟨bb3, 2, none⟩))] hF1 (by kernel_rfl) fun a1 hF1 => ?_
          refine wl (eL 11 4 2 (v := .func (.func 41) #[] #[.pointer (some ⟨bb2, 0, none⟩)]) hF1 hM (by kernel_rfl) rfl rfl (by kernel_rfl) (by kernel_rfl) fun a1 w hF1 hM => ?_)
          refine sB 1 [(4, .func (.func 41) #[] #[.pointer (some ⟨bb2, 0, none⟩)])] hF1 (by kernel_rfl) fun a1 hF1 => ?_
          refine wpList_nil ?_
          refine hK62 _ _ ?_
          refine wp_seq_k fun K63 hK63 => ?_
          refine wp_region_lit ?_
          refine sB 1 [(12, .func (.func 41) #[] #[.pointer (some ⟨bb2, 0, none⟩)])] hF1 (by kernel_rfl) fun a1 hF1 => ?_
          refine wl (sC (f := 41) (args := #[.pointer (some ⟨bb2, 0, none⟩)]) hF1 (by kernel_rfl) rfl (by decide) (by kernel_rfl) (fun _ => by kernel_rfl) ?_)
          refine enterK 4 Try.func41 rfl rfl rfl ?_
          intro a2 hF2 QR64 hR64 hNR64
          refine wp_seq_k fun K65 hK65 => ?_
          refine wp_region_lit ?_
          refine sB 1 [(1, .int .i64 0)] hF2 (by kernel_rfl) fun a2 hF2 => ?_
          refine wpList_nil ?_
          refine hK65 _ _ ?_
          refine wp_seq_k fun K66 hK66 => ?_
          refine wp_region_lit ?_
          refine wl (eL 2 3 0 (v := .agg #[.int .i64 r, .int .i64 t]) hF2 hM (by kernel_rfl) rfl rfl (by kernel_rfl) (by kernel_rfl) fun a2 w hF2 hM => ?_)
          refine wl (eM 3 (v := .int .i64 (svE r t)) hF2 hM (by kernel_rfl) (yld_call (f := 16) (args := #[.agg #[.int .i64 r, .int .i64 t]]) hF2 (by kernel_rfl) (fun _ => by kernel_rfl) (fun w hM => svCheck_w r t w)) fun a2 w hF2 hM => ?_)
          refine sB 1 [(1, .int .i64 (svE r t))] hF2 (by kernel_rfl) fun a2 hF2 => ?_
          refine wpList_nil ?_
          refine hK66 _ _ ?_
          refine wp_ret ?_
          refine hR64 _ _ ?_
          refine ret_of hF2 hM (.tmp rfl (.nil)) ⟨_, rfl, ?_⟩
          intro a1 hF1
          refine sB 1 [(5, .int .i64 (svE r t))] hF1 (by kernel_rfl) fun a1 hF1 => ?_
          refine wpList_nil ?_
          refine hK63 _ _ ?_
          refine wp_seq_k fun K67 hK67 => ?_
          refine wp_region_lit ?_
          refine sB 2 [(14, .int .i64 (svE r t)), (15, .bool (!decide (svE r t = 0)))] hF1 (by kernel_rfl) fun a1 hF1 => ?_
          refine wpList_nil ?_
          refine hK67 _ _ ?_
          by_cases hz8 : svE r t = 0
          · skip
            have hz9 := svE_ok hz8
            replace hF1 := hF1.c hF1 (i := 15) (v := .bool false) rfl (nT hz8)
            refine cF hF1 (by kernel_rfl) (by kernel_rfl) ?_
            refine wp_skip ?_
            refine hK61 _ _ ?_
            refine wp_region_lit ?_
            refine wl (eP 17 (v0 := .int .i64 (IntKind.i64.wrap (2 + 1))) (v := .int .i64 3) hF1 (by kernel_rfl) (fun _ => by kernel_rfl) (vi (by decide)) fun a1 hF1 => ?_)
            refine sB 1 [(8, .int .i64 3)] hF1 (by kernel_rfl) fun a1 hF1 => ?_
            refine wpList_nil ?_
            refine hK58 _ _ ?_
            refine rounds_k fun K68 hK68 => ?_
            refine wp_seq_k fun K69 hK69 => ?_
            refine wp_region_lit ?_
            refine wl (eP 9 (v0 := .bool (decide (3 < 3))) (v := .bool false) hF1 (by kernel_rfl) (fun _ => by kernel_rfl) (bF (by omega)) fun a1 hF1 => ?_)
            refine wpList_nil ?_
            refine hK69 _ _ ?_
            refine wp_seq_k fun K70 hK70 => ?_
            refine cF hF1 (by kernel_rfl) (by kernel_rfl) ?_
            refine wp_exit ?_
            refine hK5 _ _ ?_
            refine wp_seq_k fun K71 hK71 => ?_
            refine wp_region_lit ?_
            refine sB 1 [(2, .int .i64 0)] hF1 (by kernel_rfl) fun a1 hF1 => ?_
            refine wpList_nil ?_
            refine hK71 _ _ ?_
            refine wp_ret ?_
            refine hR3 _ _ ?_
            refine ret_of hF1 hM (.tmp rfl (.nil)) ⟨_, rfl, ?_⟩
            intro a hF
            refine sB 1 [(6, .int .i64 0)] hF (by kernel_rfl) fun a hF => ?_
            refine wpList_nil ?_
            refine hK2 _ _ ?_
            refine wp_seq_k fun K72 hK72 => ?_
            refine wp_seq_k fun K73 hK73 => ?_
            refine wp_region_lit ?_
            refine sB 1 [(14, .int .i64 0)] hF (by kernel_rfl) fun a hF => ?_
            refine wl (eP 15 (v0 := .bool (!decide (0 = 0))) (v := .bool false) hF (by kernel_rfl) (fun _ => by kernel_rfl) (nT (by omega)) fun a hF => ?_)
            refine wpList_nil ?_
            refine hK73 _ _ ?_
            refine cF hF (by kernel_rfl) (by kernel_rfl) ?_
            refine wp_skip ?_
            refine hK72 _ _ ?_
            refine wp_seq_k fun K74 hK74 => ?_
            refine wp_region_lit ?_
            refine wl (eL 18 2 0 (v := .slice A l.length c) hF hM (by kernel_rfl) rfl rfl (by kernel_rfl) (by kernel_rfl) fun a w hF hM => ?_)
            refine sB 1 [(19, .pointer (some ⟨bb2, 0, none⟩))] hF (by kernel_rfl) fun a hF => ?_
            refine wl (eL 20 3 0 (v := .int .i64 r) hF hM (by kernel_rfl) rfl rfl (by kernel_rfl) (by kernel_rfl) fun a w hF hM => ?_)
            refine wl (eM 21 (v := .tuple #[.int .i64 (clF (dAll r l l.length)).1, .bool (clF (dAll r l l.length)).2]) hF hM (by kernel_rfl) (yld_call (f := 42) (args := #[.slice A l.length c, .int .i64 r]) hF (by kernel_rfl) (fun _ => by kernel_rfl) (fun w hM => clearing_w r A l _ w (by omega) (by omega) (bk_all (bkAll_k (k := k) (by assumption) (by omega))) (Ro.arr2 (hM.ok 1 _ rfl)))) fun a w hF hM => ?_)
            have := cl_bd (r := r) (l := l) (by omega) (bkAll_k (k := k) (by assumption) (by omega))
            refine sB 5 [(17, .tuple #[.int .i64 (clF (dAll r l l.length)).1, .bool (clF (dAll r l l.length)).2]), (22, .int .i64 (clF (dAll r l l.length)).1), (23, .bool (clF (dAll r l l.length)).2), (7, .int .i64 (clF (dAll r l l.length)).1), (8, .bool (clF (dAll r l l.length)).2)] hF (by kernel_rfl) fun a hF => ?_
            refine wpList_nil ?_
            refine hK74 _ _ ?_
            refine wp_seq_k fun K75 hK75 => ?_
            refine wp_seq_k fun K76 hK76 => ?_
            cases hz10 : (clF (dAll r l l.length)).2
            · skip
              replace hF := hF.c hF (i := 8) (v := .bool false) rfl (congrArg Value.bool hz10)
              replace hF := hF.c hF (i := 23) (v := .bool false) rfl (congrArg Value.bool hz10)
              refine wp_region_lit ?_
              refine sB 2 [(24, .bool false), (25, .bool true)] hF (by kernel_rfl) fun a hF => ?_
              refine wpList_nil ?_
              refine hK76 _ _ ?_
              refine cT hF (by kernel_rfl) (by kernel_rfl) ?_
              refine wp_seq_k fun K77 hK77 => ?_
              refine wp_region_lit ?_
              refine sB 2 [(4, .int .i64 0), (5, .int .i64 141)] hF (by kernel_rfl) fun a hF => ?_
              refine wpList_nil ?_
              refine hK77 _ _ ?_
              refine wp_ret ?_
              refine hR0 _ _ ?_
              refine ret_of hF hM (.tmp rfl (.tmp rfl (.nil))) ?_
              have hd := dl_141 (r := r) (t := t) (l := l) (by omega) (by omega) (bkAll_k (k := k) (by assumption) (by omega)) hz8 (by rw [hz10]; decide)
              exact ⟨ret_eq (by rw [hd.1, hd.2]; rfl), hM.bel⟩
            · skip
              replace hF := hF.c hF (i := 8) (v := .bool true) rfl (congrArg Value.bool hz10)
              replace hF := hF.c hF (i := 23) (v := .bool true) rfl (congrArg Value.bool hz10)
              refine wp_region_lit ?_
              refine sB 2 [(24, .bool true), (25, .bool false)] hF (by kernel_rfl) fun a hF => ?_
              refine wpList_nil ?_
              refine hK76 _ _ ?_
              refine cF hF (by kernel_rfl) (by kernel_rfl) ?_
              refine wp_skip ?_
              refine hK75 _ _ ?_
              refine wp_seq_k fun K78 hK78 => ?_
              refine wp_region_lit ?_
              refine sB 1 [(26, .pointer (some ⟨bb2, 1, none⟩))] hF (by kernel_rfl) fun a hF => ?_
              refine wl (eL 27 3 1 (v := .int .i64 t) hF hM (by kernel_rfl) rfl rfl (by kernel_rfl) (by kernel_rfl) fun a w hF hM => ?_)
              refine sB 1 [(28, .int .i64 (clF (dAll r l l.length)).1)] hF (by kernel_rfl) fun a hF => ?_
              refine wl (eP 29 (v0 := .int .i64 (IntKind.i64.wrap (t + (clF (dAll r l l.length)).1))) (v := .int .i64 (t + (clF (dAll r l l.length)).1)) hF (by kernel_rfl) (fun _ => by kernel_rfl) (wi (by omega)) fun a hF => ?_)
              refine sB 2 [(4, .int .i64 (t + (clF (dAll r l l.length)).1)), (5, .int .i64 0)] hF (by kernel_rfl) fun a hF => ?_
              refine wpList_nil ?_
              refine hK78 _ _ ?_
              refine wp_ret ?_
              refine hR0 _ _ ?_
              refine ret_of hF hM (.tmp rfl (.tmp rfl (.nil))) ?_
              have hd := dl_0 (r := r) (t := t) (l := l) (by omega) (by omega) (bkAll_k (k := k) (by assumption) (by omega)) hz8 hz10
              exact ⟨ret_eq (by rw [hd.1, hd.2]; rfl), hM.bel⟩
          · skip
            replace hF1 := hF1.c hF1 (i := 15) (v := .bool true) rfl (nF hz8)
            refine cT hF1 (by kernel_rfl) (by kernel_rfl) ?_
            refine wp_seq_k fun K79 hK79 => ?_
            refine wp_region_lit ?_
            refine sB 2 [(16, .int .i64 (svE r t)), (2, .int .i64 (svE r t))] hF1 (by kernel_rfl) fun a1 hF1 => ?_
            refine wpList_nil ?_
            refine hK79 _ _ ?_
            refine wp_ret ?_
            refine hR3 _ _ ?_
            refine ret_of hF1 hM (.tmp rfl (.nil)) ⟨_, rfl, ?_⟩
            intro a hF
            refine sB 1 [(6, .int .i64 (svE r t))] hF (by kernel_rfl) fun a hF => ?_
            refine wpList_nil ?_
            refine hK2 _ _ ?_
            refine wp_seq_k fun K80 hK80 => ?_
            refine wp_seq_k fun K81 hK81 => ?_
            refine wp_region_lit ?_
            refine sB 1 [(14, .int .i64 (svE r t))] hF (by kernel_rfl) fun a hF => ?_
            refine wl (eP 15 (v0 := .bool (!decide (svE r t = 0))) (v := .bool true) hF (by kernel_rfl) (fun _ => by kernel_rfl) (nF hz8) fun a hF => ?_)
            refine wpList_nil ?_
            refine hK81 _ _ ?_
            refine cT hF (by kernel_rfl) (by kernel_rfl) ?_
            refine wp_seq_k fun K82 hK82 => ?_
            refine wp_region_lit ?_
            refine sB 3 [(16, .int .i64 (svE r t)), (4, .int .i64 0), (5, .int .i64 (svE r t))] hF (by kernel_rfl) fun a hF => ?_
            refine wpList_nil ?_
            refine hK82 _ _ ?_
            refine wp_ret ?_
            refine hR0 _ _ ?_
            refine ret_of hF hM (.tmp rfl (.tmp rfl (.nil))) ?_
            have hd := dl_140 (r := r) (t := t) (l := l) (by omega) (by omega) (bkAll_k (k := k) (by assumption) (by omega)) hz8
            exact ⟨ret_eq (by rw [hd.1, hd.2, svE_no hz8]; rfl), hM.bel⟩

end Go.Proofs.Ytoighcbbaacnaaa
