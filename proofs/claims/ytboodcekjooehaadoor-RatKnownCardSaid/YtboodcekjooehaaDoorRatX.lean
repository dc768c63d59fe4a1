/-
  Contracts of package rat: sums, products, order, floor.
-/
import Derived.Test.YtboodcekjooehaaDoorRatW
namespace Go.Proofs.YtboodcekjooehaaDoor
open Go.RowKit
set_option linter.unusedVariables false
set_option linter.unusedSimpArgs false

theorem raAdd_ok (an ad bn bd : Int) (w0 : World) (hT : Tab w0) (h1 : raE an ad = 0) (h2 : raE bn bd = 0) :
    Calls Tryd.prog 16 #[.agg #[.int .i64 an, .int .i64 ad], .agg #[.int .i64 bn, .int .i64 bd]] w0 (Ret w0 (.tuple #[.agg #[.int .i64 (rmN (an * bd + bn * ad) (ad * bd)), .int .i64 (rmD (an * bd + bn * ad) (ad * bd))], .int .i64 (rmE (an * bd + bn * ad) (ad * bd))])) := by
  have g1 := raE_ok h1
  have g2 := raE_ok h2
  refine enterK 12 Tryd.func16 rfl rfl rfl ?_
  intro a hF Q0 hR0 hN0
  have hM := Mem.start w0
  have hz1 := raE_ok h1
  have hz2 := raE_ok h2
  refine wp_seq_k fun K1 hK1 => ?_
  refine wp_region_lit ?_
  refine wl (eN 2 1 (t := 23) (fun b => .pointer (some ⟨b, 0, none⟩)) #[.int .i64 an, .int .i64 ad] hF hM (by kernel_rfl) (fun _ => by kernel_rfl) fun bb1 a w hF hM => ?_)
  refine wl (eN 3 2 (t := 23) (fun b => .pointer (some ⟨b, 0, none⟩)) #[.int .i64 bn, .int .i64 bd] hF hM (by kernel_rfl) (fun _ => by kernel_rfl) fun bb2 a w hF hM => ?_)
  refine wl (eN 4 3 (t := 23) (fun b => .pointer (some ⟨b, 0, none⟩)) #[.int .i64 0, .int .i64 0] hF hM (by kernel_rfl) (fun _ => by kernel_rfl) fun bb3 a w hF hM => ?_)
  refine sB 1 [(5, .int .i64 0)] hF (by kernel_rfl) fun a hF => ?_
  refine wpList_nil ?_
  refine hK1 _ _ ?_
  refine wp_seq_k fun K2 hK2 => ?_
  refine wp_region_lit ?_
  refine wl (eL 6 1 0 (v := .agg #[.int .i64 an, .int .i64 ad]) hF hM (by kernel_rfl) rfl rfl (by kernel_rfl) (by kernel_rfl) fun a w hF hM => ?_)
  refine wl (eL 7 2 0 (v := .agg #[.int .i64 bn, .int .i64 bd]) hF hM (by kernel_rfl) rfl rfl (by kernel_rfl) (by kernel_rfl) fun a w hF hM => ?_)
  refine sB 1 [(8, .func (.func 44) #[] #[.pointer (some ⟨bb1, 0, none⟩), .pointer (some ⟨bb2, 0, none⟩)])] hF (by kernel_rfl) fun a hF => ?_
  refine wl (sC (f := 43) (args := #[.agg #[.int .i64 an, .int .i64 ad], .agg #[.int .i64 bn, .int .i64 bd], .func (.func 44) #[] #[.pointer (some ⟨bb1, 0, none⟩), .pointer (some ⟨bb2, 0, none⟩)]]) hF (by kernel_rfl) rfl (by decide) (by kernel_rfl) (fun _ => by kernel_rfl) ?_)
  refine enterK 24 Tryd.func43 rfl rfl rfl ?_
  intro a1 hF1 QR3 hR3 hNR3
  refine wp_seq_k fun K4 hK4 => ?_
  refine wp_region_lit ?_
  refine wl (eN 3 4 (t := 23) (fun b => .pointer (some ⟨b, 0, none⟩)) #[.int .i64 an, .int .i64 ad] hF1 hM (by kernel_rfl) (fun _ => by kernel_rfl) fun bb4 a1 w hF1 hM => ?_)
  refine wl (eN 4 5 (t := 23) (fun b => .pointer (some ⟨b, 0, none⟩)) #[.int .i64 bn, .int .i64 bd] hF1 hM (by kernel_rfl) (fun _ => by kernel_rfl) fun bb5 a1 w hF1 hM => ?_)
  refine wl (eN 6 6 (t := 23) (fun b => .pointer (some ⟨b, 0, none⟩)) #[.int .i64 0, .int .i64 0] hF1 hM (by kernel_rfl) (fun _ => by kernel_rfl) fun bb6 a1 w hF1 hM => ?_)
  refine sB 1 [(7, .int .i64 0)] hF1 (by kernel_rfl) fun a1 hF1 => ?_
  refine wpList_nil ?_
  refine hK4 _ _ ?_
  refine wp_seq_k fun K5 hK5 => ?_
  refine wp_seq_k fun K6 hK6 => ?_
  refine wp_region_lit ?_
  refine wl (eL 9 4 0 (v := .agg #[.int .i64 an, .int .i64 ad]) hF1 hM (by kernel_rfl) rfl rfl (by kernel_rfl) (by kernel_rfl) fun a1 w hF1 hM => ?_)
  refine wl (eL 10 5 0 (v := .agg #[.int .i64 bn, .int .i64 bd]) hF1 hM (by kernel_rfl) rfl rfl (by kernel_rfl) (by kernel_rfl) fun a1 w hF1 hM => ?_)
  refine wl (eN 11 7 (t := 23) (fun b => .slice (some ⟨b, 0, none⟩) 2 2) #[.int .i64 an, .int .i64 ad, .int .i64 bn, .int .i64 bd] hF1 hM (by kernel_rfl) (fun _ => by kernel_rfl) fun bb7 a1 w hF1 hM => ?_)
  refine wl (eM 12 (v := .int .i64 0) hF1 hM (by kernel_rfl) (yld_call (f := 49) (args := #[.slice (some ⟨bb7, 0, none⟩) 2 2]) hF1 (by kernel_rfl) (fun _ => by kernel_rfl) (fun w hM => checkAll_yes (some ⟨bb7, 0, none⟩) [(an, ad), (bn, bd)] _ w (hM.roRow (k := 7) rfl) (by simp) (hT.below (Nat.le_refl _) hM.bel) (ra_two h1 h2))) fun a1 w hF1 hM => ?_)
  refine sB 1 [(8, .int .i64 0)] hF1 (by kernel_rfl) fun a1 hF1 => ?_
  refine wpList_nil ?_
  refine hK6 _ _ ?_
  refine wp_seq_k fun K7 hK7 => ?_
  refine wp_region_lit ?_
  refine sB 1 [(13, .int .i64 0)] hF1 (by kernel_rfl) fun a1 hF1 => ?_
  refine wl (eP 14 (v0 := .bool (!decide (0 = 0))) (v := .bool false) hF1 (by kernel_rfl) (fun _ => by kernel_rfl) (nT (by omega)) fun a1 hF1 => ?_)
  refine wpList_nil ?_
  refine hK7 _ _ ?_
  refine cF hF1 (by kernel_rfl) (by kernel_rfl) ?_
  refine wp_skip ?_
  refine hK5 _ _ ?_
  refine wp_seq_k fun K8 hK8 => ?_
  refine wp_region_lit ?_
  refine sB 1 [(17, .func (.func 44) #[] #[.pointer (some ⟨bb1, 0, none⟩), .pointer (some ⟨bb2, 0, none⟩)])] hF1 (by kernel_rfl) fun a1 hF1 => ?_
  refine wl (sC (f := 44) (args := #[.pointer (some ⟨bb1, 0, none⟩), .pointer (some ⟨bb2, 0, none⟩)]) hF1 (by kernel_rfl) rfl (by decide) (by kernel_rfl) (fun _ => by kernel_rfl) ?_)
  refine enterK 20 Tryd.func44 rfl rfl rfl ?_
  intro a2 hF2 QR9 hR9 hNR9
  refine wp_seq_k fun K10 hK10 => ?_
  refine wp_region_lit ?_
  refine sB 2 [(2, .int .i64 0), (3, .int .i64 0)] hF2 (by kernel_rfl) fun a2 hF2 => ?_
  refine wpList_nil ?_
  refine hK10 _ _ ?_
  refine wp_seq_k fun K11 hK11 => ?_
  refine rQ hM (by kernel_rfl) (by kernel_rfl) ?_
  refine eQ 4 (v0 := .pointer (some ⟨bb1, 0, none⟩)) (v := .pointer (some ⟨bb1, 0, none⟩)) hF2 (by kernel_rfl) (fun _ => by kernel_rfl) rfl fun a2 hF2 => ?_
  refine eQL 5 1 0 (v := .int .i64 an) hF2 (by kernel_rfl) rfl rfl (by kernel_rfl) (by kernel_rfl) fun a2 hF2 => ?_
  refine eQ 6 (v0 := .pointer (some ⟨bb2, 1, none⟩)) (v := .pointer (some ⟨bb2, 1, none⟩)) hF2 (by kernel_rfl) (fun _ => by kernel_rfl) rfl fun a2 hF2 => ?_
  refine eQL 7 2 1 (v := .int .i64 bd) hF2 (by kernel_rfl) rfl rfl (by kernel_rfl) (by kernel_rfl) fun a2 hF2 => ?_
  have hz3 : -1152921504606846976 ≤ an * bd ∧ an * bd ≤ 1152921504606846976 := mul_bd (-1073741824) (1073741824) (1) (1073741824) (by omega) (by omega) (by omega) (by omega) (by decide)
  refine eQ 8 (v0 := .int .i64 (IntKind.i64.wrap (an * bd))) (v := .int .i64 (an * bd)) hF2 (by kernel_rfl) (fun _ => by kernel_rfl) (wi (by omega)) fun a2 hF2 => ?_
  refine eQ 9 (v0 := .pointer (some ⟨bb2, 0, none⟩)) (v := .pointer (some ⟨bb2, 0, none⟩)) hF2 (by kernel_rfl) (fun _ => by kernel_rfl) rfl fun a2 hF2 => ?_
  refine eQL 10 2 0 (v := .int .i64 bn) hF2 (by kernel_rfl) rfl rfl (by kernel_rfl) (by kernel_rfl) fun a2 hF2 => ?_
  refine eQ 11 (v0 := .pointer (some ⟨bb1, 1, none⟩)) (v := .pointer (some ⟨bb1, 1, none⟩)) hF2 (by kernel_rfl) (fun _ => by kernel_rfl) rfl fun a2 hF2 => ?_
  refine eQL 12 1 1 (v := .int .i64 ad) hF2 (by kernel_rfl) rfl rfl (by kernel_rfl) (by kernel_rfl) fun a2 hF2 => ?_
  have hz4 : -1152921504606846976 ≤ bn * ad ∧ bn * ad ≤ 1152921504606846976 := mul_bd (-1073741824) (1073741824) (1) (1073741824) (by omega) (by omega) (by omega) (by omega) (by decide)
  refine eQ 13 (v0 := .int .i64 (IntKind.i64.wrap (bn * ad))) (v := .int .i64 (bn * ad)) hF2 (by kernel_rfl) (fun _ => by kernel_rfl) (wi (by omega)) fun a2 hF2 => ?_
  refine eQ 14 (v0 := .int .i64 (IntKind.i64.wrap (an * bd + bn * ad))) (v := .int .i64 (an * bd + bn * ad)) hF2 (by kernel_rfl) (fun _ => by kernel_rfl) (wi (by omega)) fun a2 hF2 => ?_
  refine eQ 15 (v0 := .pointer (some ⟨bb1, 1, none⟩)) (v := .pointer (some ⟨bb1, 1, none⟩)) hF2 (by kernel_rfl) (fun _ => by kernel_rfl) rfl fun a2 hF2 => ?_
  refine eQL 16 1 1 (v := .int .i64 ad) hF2 (by kernel_rfl) rfl rfl (by kernel_rfl) (by kernel_rfl) fun a2 hF2 => ?_
  refine eQ 17 (v0 := .pointer (some ⟨bb2, 1, none⟩)) (v := .pointer (some ⟨bb2, 1, none⟩)) hF2 (by kernel_rfl) (fun _ => by kernel_rfl) rfl fun a2 hF2 => ?_
  refine eQL 18 2 1 (v := .int .i64 bd) hF2 (by kernel_rfl) rfl rfl (by kernel_rfl) (by kernel_rfl) fun a2 hF2 => ?_
  have hz5 : 1 ≤ ad * bd ∧ ad * bd ≤ 1152921504606846976 := mul_bd (1) (1073741824) (1) (1073741824) (by omega) (by omega) (by omega) (by omega) (by decide)
  refine eQ 19 (v0 := .int .i64 (IntKind.i64.wrap (ad * bd))) (v := .int .i64 (ad * bd)) hF2 (by kernel_rfl) (fun _ => by kernel_rfl) (wi (by omega)) fun a2 hF2 => ?_
  refine eQ 2 (v0 := .int .i64 (an * bd + bn * ad)) (v := .int .i64 (an * bd + bn * ad)) hF2 (by kernel_rfl) (fun _ => by kernel_rfl) rfl fun a2 hF2 => ?_
  refine eQ 3 (v0 := .int .i64 (ad * bd)) (v := .int .i64 (ad * bd)) hF2 (by kernel_rfl) (fun _ => by kernel_rfl) rfl fun a2 hF2 => ?_
  refine wpQuiet_nil ?_
  intro w hM
  refine hK11 _ _ ?_
  refine wp_ret ?_
  refine hR9 _ _ ?_
  refine ret_of hF2 hM (.tmp rfl (.tmp rfl (.nil))) ⟨_, rfl, ?_⟩
  intro a1 hF1
  refine sB 2 [(19, .int .i64 (an * bd + bn * ad)), (20, .int .i64 (ad * bd))] hF1 (by kernel_rfl) fun a1 hF1 => ?_
  refine wl (eM 21 (v := .tuple #[.agg #[.int .i64 (rmN (an * bd + bn * ad) (ad * bd)), .int .i64 (rmD (an * bd + bn * ad) (ad * bd))], .int .i64 (rmE (an * bd + bn * ad) (ad * bd))]) hF1 hM (by kernel_rfl) (yld_call (f := 10) (args := #[.int .i64 (an * bd + bn * ad), .int .i64 (ad * bd)]) hF1 (by kernel_rfl) (fun _ => by kernel_rfl) (fun w hM => raMake_w (an * bd + bn * ad) (ad * bd) w (hT.below (Nat.le_refl _) hM.bel))) fun a1 w hF1 hM => ?_)
  refine sB 2 [(22, .agg #[.int .i64 (rmN (an * bd + bn * ad) (ad * bd)), .int .i64 (rmD (an * bd + bn * ad) (ad * bd))]), (23, .int .i64 (rmE (an * bd + bn * ad) (ad * bd)))] hF1 (by kernel_rfl) fun a1 hF1 => ?_
  refine wl (sStore (i := 6) (off := 0) (cs' := #[.int .i64 (rmN (an * bd + bn * ad) (ad * bd)), .int .i64 (rmD (an * bd + bn * ad) (ad * bd))]) hF1 hM (by kernel_rfl) rfl rfl (by kernel_rfl) (by kernel_rfl) rfl (by kernel_rfl) fun w hM => ?_)
  refine sB 1 [(7, .int .i64 (rmE (an * bd + bn * ad) (ad * bd)))] hF1 (by kernel_rfl) fun a1 hF1 => ?_
  refine wpList_nil ?_
  refine hK8 _ _ ?_
  refine wp_ret ?_
  refine hR3 _ _ ?_
  refine ret_of hF1 hM (.cell (i := 6) rfl rfl (v := .agg #[.int .i64 (rmN (an * bd + bn * ad) (ad * bd)), .int .i64 (rmD (an * bd + bn * ad) (ad * bd))]) (by kernel_rfl) (.tmp rfl (.nil))) ⟨_, rfl, ?_⟩
  intro a hF
  refine sB 2 [(10, .agg #[.int .i64 (rmN (an * bd + bn * ad) (ad * bd)), .int .i64 (rmD (an * bd + bn * ad) (ad * bd))]), (11, .int .i64 (rmE (an * bd + bn * ad) (ad * bd)))] hF (by kernel_rfl) fun a hF => ?_
  refine wl (sStore (i := 3) (off := 0) (cs' := #[.int .i64 (rmN (an * bd + bn * ad) (ad * bd)), .int .i64 (rmD (an * bd + bn * ad) (ad * bd))]) hF hM (by kernel_rfl) rfl rfl (by kernel_rfl) (by kernel_rfl) rfl (by kernel_rfl) fun w hM => ?_)
  refine sB 1 [(5, .int .i64 (rmE (an * bd + bn * ad) (ad * bd)))] hF (by kernel_rfl) fun a hF => ?_
  refine wpList_nil ?_
  refine hK2 _ _ ?_
  refine wp_ret ?_
  refine hR0 _ _ ?_
  refine ret_of hF hM (.cell (i := 3) rfl rfl (v := .agg #[.int .i64 (rmN (an * bd + bn * ad) (ad * bd)), .int .i64 (rmD (an * bd + bn * ad) (ad * bd))]) (by kernel_rfl) (.tmp rfl (.nil))) ?_
  exact ⟨rfl, hM.bel⟩

theorem raAdd_no (an ad bn bd : Int) (w0 : World) (hT : Tab w0) (h : ¬ (raE an ad = 0 ∧ raE bn bd = 0)) :
    Calls Tryd.prog 16 #[.agg #[.int .i64 an, .int .i64 ad], .agg #[.int .i64 bn, .int .i64 bd]] w0 (Ret w0 (.tuple #[.agg #[.int .i64 0, .int .i64 0], .int .i64 120])) := by
  refine enterK 12 Tryd.func16 rfl rfl rfl ?_
  intro a hF Q0 hR0 hN0
  have hM := Mem.start w0
  refine wp_seq_k fun K1 hK1 => ?_
  refine wp_region_lit ?_
  refine wl (eN 2 1 (t := 23) (fun b => .pointer (some ⟨b, 0, none⟩)) #[.int .i64 an, .int .i64 ad] hF hM (by kernel_rfl) (fun _ => by kernel_rfl) fun bb1 a w hF hM => ?_)
  refine wl (eN 3 2 (t := 23) (fun b => .pointer (some ⟨b, 0, none⟩)) #[.int .i64 bn, .int .i64 bd] hF hM (by kernel_rfl) (fun _ => by kernel_rfl) fun bb2 a w hF hM => ?_)
  refine wl (eN 4 3 (t := 23) (fun b => .pointer (some ⟨b, 0, none⟩)) #[.int .i64 0, .int .i64 0] hF hM (by kernel_rfl) (fun _ => by kernel_rfl) fun bb3 a w hF hM => ?_)
  refine sB 1 [(5, .int .i64 0)] hF (by kernel_rfl) fun a hF => ?_
  refine wpList_nil ?_
  refine hK1 _ _ ?_
  refine wp_seq_k fun K2 hK2 => ?_
  refine wp_region_lit ?_
  refine wl (eL 6 1 0 (v := .agg #[.int .i64 an, .int .i64 ad]) hF hM (by kernel_rfl) rfl rfl (by kernel_rfl) (by kernel_rfl) fun a w hF hM => ?_)
  refine wl (eL 7 2 0 (v := .agg #[.int .i64 bn, .int .i64 bd]) hF hM (by kernel_rfl) rfl rfl (by kernel_rfl) (by kernel_rfl) fun a w hF hM => ?_)
  refine sB 1 [(8, .func (.func 44) #[] #[.pointer (some ⟨bb1, 0, none⟩), .pointer (some ⟨bb2, 0, none⟩)])] hF (by kernel_rfl) fun a hF => ?_
  refine wl (sC (f := 43) (args := #[.agg #[.int .i64 an, .int .i64 ad], .agg #[.int .i64 bn, .int .i64 bd], .func (.func 44) #[] #[.pointer (some ⟨bb1, 0, none⟩), .pointer (some ⟨bb2, 0, none⟩)]]) hF (by kernel_rfl) rfl (by decide) (by kernel_rfl) (fun _ => by kernel_rfl) ?_)
  refine enterK 24 Tryd.func43 rfl rfl rfl ?_
  intro a1 hF1 QR3 hR3 hNR3
  refine wp_seq_k fun K4 hK4 => ?_
  refine wp_region_lit ?_
  refine wl (eN 3 4 (t := 23) (fun b => .pointer (some ⟨b, 0, none⟩)) #[.int .i64 an, .int .i64 ad] hF1 hM (by kernel_rfl) (fun _ => by kernel_rfl) fun bb4 a1 w hF1 hM => ?_)
  refine wl (eN 4 5 (t := 23) (fun b => .pointer (some ⟨b, 0, none⟩)) #[.int .i64 bn, .int .i64 bd] hF1 hM (by kernel_rfl) (fun _ => by kernel_rfl) fun bb5 a1 w hF1 hM => ?_)
  refine wl (eN 6 6 (t := 23) (fun b => .pointer (some ⟨b, 0, none⟩)) #[.int .i64 0, .int .i64 0] hF1 hM (by kernel_rfl) (fun _ => by kernel_rfl) fun bb6 a1 w hF1 hM => ?_)
  refine sB 1 [(7, .int .i64 0)] hF1 (by kernel_rfl) fun a1 hF1 => ?_
  refine wpList_nil ?_
  refine hK4 _ _ ?_
  refine wp_seq_k fun K5 hK5 => ?_
  refine wp_seq_k fun K6 hK6 => ?_
  by_cases hz1 : raE an ad = 0
  · skip
    have hz2 := raE_ok hz1
    by_cases hz3 : raE bn bd = 0
    · skip
      have hz4 := raE_ok hz3
      exact absurd ⟨hz1, hz3⟩ h
    · skip
      refine wp_region_lit ?_
      refine wl (eL 9 4 0 (v := .agg #[.int .i64 an, .int .i64 ad]) hF1 hM (by kernel_rfl) rfl rfl (by kernel_rfl) (by kernel_rfl) fun a1 w hF1 hM => ?_)
      refine wl (eL 10 5 0 (v := .agg #[.int .i64 bn, .int .i64 bd]) hF1 hM (by kernel_rfl) rfl rfl (by kernel_rfl) (by kernel_rfl) fun a1 w hF1 hM => ?_)
      refine wl (eN 11 9 (t := 23) (fun b => .slice (some ⟨b, 0, none⟩) 2 2) #[.int .i64 an, .int .i64 ad, .int .i64 bn, .int .i64 bd] hF1 hM (by kernel_rfl) (fun _ => by kernel_rfl) fun bb9 a1 w hF1 hM => ?_)
      refine wl (eM 12 (v := .int .i64 120) hF1 hM (by kernel_rfl) (yld_call (f := 49) (args := #[.slice (some ⟨bb9, 0, none⟩) 2 2]) hF1 (by kernel_rfl) (fun _ => by kernel_rfl) (fun w hM => checkAll_no (some ⟨bb9, 0, none⟩) [(an, ad), (bn, bd)] _ w (hM.roRow (k := 9) rfl) (by simp) (hT.below (Nat.le_refl _) hM.bel) (ra_notwo (fun q => hz3 q.2)))) fun a1 w hF1 hM => ?_)
      refine sB 1 [(8, .int .i64 120)] hF1 (by kernel_rfl) fun a1 hF1 => ?_
      refine wpList_nil ?_
      refine hK6 _ _ ?_
      refine wp_seq_k fun K7 hK7 => ?_
      refine wp_region_lit ?_
      refine sB 1 [(13, .int .i64 120)] hF1 (by kernel_rfl) fun a1 hF1 => ?_
      refine wl (eP 14 (v0 := .bool (!decide (120 = 0))) (v := .bool true) hF1 (by kernel_rfl) (fun _ => by kernel_rfl) (nF (by omega)) fun a1 hF1 => ?_)
      refine wpList_nil ?_
      refine hK7 _ _ ?_
      refine cT hF1 (by kernel_rfl) (by kernel_rfl) ?_
      refine wp_seq_k fun K8 hK8 => ?_
      refine wp_region_lit ?_
      refine sB 2 [(15, .agg #[.int .i64 0, .int .i64 0]), (16, .int .i64 120)] hF1 (by kernel_rfl) fun a1 hF1 => ?_
      refine wl (sStore (i := 6) (off := 0) (cs' := #[.int .i64 0, .int .i64 0]) hF1 hM (by kernel_rfl) rfl rfl (by kernel_rfl) (by kernel_rfl) rfl (by kernel_rfl) fun w hM => ?_)
      refine sB 1 [(7, .int .i64 120)] hF1 (by kernel_rfl) fun a1 hF1 => ?_
      refine wpList_nil ?_
      refine hK8 _ _ ?_
      refine wp_ret ?_
      refine hR3 _ _ ?_
      refine ret_of hF1 hM (.cell (i := 6) rfl rfl (v := .agg #[.int .i64 0, .int .i64 0]) (by kernel_rfl) (.tmp rfl (.nil))) ⟨_, rfl, ?_⟩
      intro a hF
      refine sB 2 [(10, .agg #[.int .i64 0, .int .i64 0]), (11, .int .i64 120)] hF (by kernel_rfl) fun a hF => ?_
      refine wl (sStore (i := 3) (off := 0) (cs' := #[.int .i64 0, .int .i64 0]) hF hM (by kernel_rfl) rfl rfl (by kernel_rfl) (by kernel_rfl) rfl (by kernel_rfl) fun w hM => ?_)
      refine sB 1 [(5, .int .i64 120)] hF (by kernel_rfl) fun a hF => ?_
      refine wpList_nil ?_
      refine hK2 _ _ ?_
      refine wp_ret ?_
      refine hR0 _ _ ?_
      refine ret_of hF hM (.cell (i := 3) rfl rfl (v := .agg #[.int .i64 0, .int .i64 0]) (by kernel_rfl) (.tmp rfl (.nil))) ?_
      exact ⟨rfl, hM.bel⟩
  · skip
    refine wp_region_lit ?_
    refine wl (eL 9 4 0 (v := .agg #[.int .i64 an, .int .i64 ad]) hF1 hM (by kernel_rfl) rfl rfl (by kernel_rfl) (by kernel_rfl) fun a1 w hF1 hM => ?_)
    refine wl (eL 10 5 0 (v := .agg #[.int .i64 bn, .int .i64 bd]) hF1 hM (by kernel_rfl) rfl rfl (by kernel_rfl) (by kernel_rfl) fun a1 w hF1 hM => ?_)
    refine wl (eN 11 10 (t := 23) (fun b => .slice (some ⟨b, 0, none⟩) 2 2) #[.int .i64 an, .int .i64 ad, .int .i64 bn, .int .i64 bd] hF1 hM (by kernel_rfl) (fun _ => by kernel_rfl) fun bb10 a1 w hF1 hM => ?_)
    refine wl (eM 12 (v := .int .i64 120) hF1 hM (by kernel_rfl) (yld_call (f := 49) (args := #[.slice (some ⟨bb10, 0, none⟩) 2 2]) hF1 (by kernel_rfl) (fun _ => by kernel_rfl) (fun w hM => checkAll_no (some ⟨bb10, 0, none⟩) [(an, ad), (bn, bd)] _ w (hM.roRow (k := 10) rfl) (by simp) (hT.below (Nat.le_refl _) hM.bel) (ra_notwo (fun q => hz1 q.1)))) fun a1 w hF1 hM => ?_)
    refine sB 1 [(8, .int .i64 120)] hF1 (by kernel_rfl) fun a1 hF1 => ?_
    refine wpList_nil ?_
    refine hK6 _ _ ?_
    refine wp_seq_k fun K9 hK9 => ?_
    refine wp_region_lit ?_
    refine sB 1 [(13, .int .i64 120)] hF1 (by kernel_rfl) fun a1 hF1 => ?_
    refine wl (eP 14 (v0 := .bool (!decide (120 = 0))) (v := .bool true) hF1 (by kernel_rfl) (fun _ => by kernel_rfl) (nF (by omega)) fun a1 hF1 => ?_)
    refine wpList_nil ?_
    refine hK9 _ _ ?_
    refine cT hF1 (by kernel_rfl) (by kernel_rfl) ?_
    refine wp_seq_k fun K10 hK10 => ?_
    refine wp_region_lit ?_
    refine sB 2 [(15, .agg #[.int .i64 0, .int .i64 0]), (16, .int .i64 120)] hF1 (by kernel_rfl) fun a1 hF1 => ?_
    refine wl (sStore (i := 6) (off := 0) (cs' := #[.int .i64 0, .int .i64 0]) hF1 hM (by kernel_rfl) rfl rfl (by kernel_rfl) (by kernel_rfl) rfl (by kernel_rfl) fun w hM => ?_)
    refine sB 1 [(7, .int .i64 120)] hF1 (by kernel_rfl) fun a1 hF1 => ?_
    refine wpList_nil ?_
    refine hK10 _ _ ?_
    refine wp_ret ?_
    refine hR3 _ _ ?_
    refine ret_of hF1 hM (.cell (i := 6) rfl rfl (v := .agg #[.int .i64 0, .int .i64 0]) (by kernel_rfl) (.tmp rfl (.nil))) ⟨_, rfl, ?_⟩
    intro a hF
    refine sB 2 [(10, .agg #[.int .i64 0, .int .i64 0]), (11, .int .i64 120)] hF (by kernel_rfl) fun a hF => ?_
    refine wl (sStore (i := 3) (off := 0) (cs' := #[.int .i64 0, .int .i64 0]) hF hM (by kernel_rfl) rfl rfl (by kernel_rfl) (by kernel_rfl) rfl (by kernel_rfl) fun w hM => ?_)
    refine sB 1 [(5, .int .i64 120)] hF (by kernel_rfl) fun a hF => ?_
    refine wpList_nil ?_
    refine hK2 _ _ ?_
    refine wp_ret ?_
    refine hR0 _ _ ?_
    refine ret_of hF hM (.cell (i := 3) rfl rfl (v := .agg #[.int .i64 0, .int .i64 0]) (by kernel_rfl) (.tmp rfl (.nil))) ?_
    exact ⟨rfl, hM.bel⟩

theorem raSub_ok (an ad bn bd : Int) (w0 : World) (hT : Tab w0) (h1 : raE an ad = 0) (h2 : raE bn bd = 0) :
    Calls Tryd.prog 18 #[.agg #[.int .i64 an, .int .i64 ad], .agg #[.int .i64 bn, .int .i64 bd]] w0 (Ret w0 (.tuple #[.agg #[.int .i64 (rmN (an * bd - bn * ad) (ad * bd)), .int .i64 (rmD (an * bd - bn * ad) (ad * bd))], .int .i64 (rmE (an * bd - bn * ad) (ad * bd))])) := by
  have g1 := raE_ok h1
  have g2 := raE_ok h2
  refine enterK 12 Tryd.func18 rfl rfl rfl ?_
  intro a hF Q0 hR0 hN0
  have hM := Mem.start w0
  have hz1 := raE_ok h1
  have hz2 := raE_ok h2
  refine wp_seq_k fun K1 hK1 => ?_
  refine wp_region_lit ?_
  refine wl (eN 2 1 (t := 23) (fun b => .pointer (some ⟨b, 0, none⟩)) #[.int .i64 an, .int .i64 ad] hF hM (by kernel_rfl) (fun _ => by kernel_rfl) fun bb1 a w hF hM => ?_)
  refine wl (eN 3 2 (t := 23) (fun b => .pointer (some ⟨b, 0, none⟩)) #[.int .i64 bn, .int .i64 bd] hF hM (by kernel_rfl) (fun _ => by kernel_rfl) fun bb2 a w hF hM => ?_)
  refine wl (eN 4 3 (t := 23) (fun b => .pointer (some ⟨b, 0, none⟩)) #[.int .i64 0, .int .i64 0] hF hM (by kernel_rfl) (fun _ => by kernel_rfl) fun bb3 a w hF hM => ?_)
  refine sB 1 [(5, .int .i64 0)] hF (by kernel_rfl) fun a hF => ?_
  refine wpList_nil ?_
  refine hK1 _ _ ?_
  refine wp_seq_k fun K2 hK2 => ?_
  refine wp_region_lit ?_
  refine wl (eL 6 1 0 (v := .agg #[.int .i64 an, .int .i64 ad]) hF hM (by kernel_rfl) rfl rfl (by kernel_rfl) (by kernel_rfl) fun a w hF hM => ?_)
  refine wl (eL 7 2 0 (v := .agg #[.int .i64 bn, .int .i64 bd]) hF hM (by kernel_rfl) rfl rfl (by kernel_rfl) (by kernel_rfl) fun a w hF hM => ?_)
  refine sB 1 [(8, .func (.func 46) #[] #[.pointer (some ⟨bb1, 0, none⟩), .pointer (some ⟨bb2, 0, none⟩)])] hF (by kernel_rfl) fun a hF => ?_
  refine wl (sC (f := 43) (args := #[.agg #[.int .i64 an, .int .i64 ad], .agg #[.int .i64 bn, .int .i64 bd], .func (.func 46) #[] #[.pointer (some ⟨bb1, 0, none⟩), .pointer (some ⟨bb2, 0, none⟩)]]) hF (by kernel_rfl) rfl (by decide) (by kernel_rfl) (fun _ => by kernel_rfl) ?_)
  refine enterK 24 Tryd.func43 rfl rfl rfl ?_
  intro a1 hF1 QR3 hR3 hNR3
  refine wp_seq_k fun K4 hK4 => ?_
  refine wp_region_lit ?_
  refine wl (eN 3 4 (t := 23) (fun b => .pointer (some ⟨b, 0, none⟩)) #[.int .i64 an, .int .i64 ad] hF1 hM (by kernel_rfl) (fun _ => by kernel_rfl) fun bb4 a1 w hF1 hM => ?_)
  refine wl (eN 4 5 (t := 23) (fun b => .pointer (some ⟨b, 0, none⟩)) #[.int .i64 bn, .int .i64 bd] hF1 hM (by kernel_rfl) (fun _ => by kernel_rfl) fun bb5 a1 w hF1 hM => ?_)
  refine wl (eN 6 6 (t := 23) (fun b => .pointer (some ⟨b, 0, none⟩)) #[.int .i64 0, .int .i64 0] hF1 hM (by kernel_rfl) (fun _ => by kernel_rfl) fun bb6 a1 w hF1 hM => ?_)
  refine sB 1 [(7, .int .i64 0)] hF1 (by kernel_rfl) fun a1 hF1 => ?_
  refine wpList_nil ?_
  refine hK4 _ _ ?_
  refine wp_seq_k fun K5 hK5 => ?_
  refine wp_seq_k fun K6 hK6 => ?_
  refine wp_region_lit ?_
  refine wl (eL 9 4 0 (v := .agg #[.int .i64 an, .int .i64 ad]) hF1 hM (by kernel_rfl) rfl rfl (by kernel_rfl) (by kernel_rfl) fun a1 w hF1 hM => ?_)
  refine wl (eL 10 5 0 (v := .agg #[.int .i64 bn, .int .i64 bd]) hF1 hM (by kernel_rfl) rfl rfl (by kernel_rfl) (by kernel_rfl) fun a1 w hF1 hM => ?_)
  refine wl (eN 11 7 (t := 23) (fun b => .slice (some ⟨b, 0, none⟩) 2 2) #[.int .i64 an, .int .i64 ad, .int .i64 bn, .int .i64 bd] hF1 hM (by kernel_rfl) (fun _ => by kernel_rfl) fun bb7 a1 w hF1 hM => ?_)
  refine wl (eM 12 (v := .int .i64 0) hF1 hM (by kernel_rfl) (yld_call (f := 49) (args := #[.slice (some ⟨bb7, 0, none⟩) 2 2]) hF1 (by kernel_rfl) (fun _ => by kernel_rfl) (fun w hM => checkAll_yes (some ⟨bb7, 0, none⟩) [(an, ad), (bn, bd)] _ w (hM.roRow (k := 7) rfl) (by simp) (hT.below (Nat.le_refl _) hM.bel) (ra_two h1 h2))) fun a1 w hF1 hM => ?_)
  refine sB 1 [(8, .int .i64 0)] hF1 (by kernel_rfl) fun a1 hF1 => ?_
  refine wpList_nil ?_
  refine hK6 _ _ ?_
  refine wp_seq_k fun K7 hK7 => ?_
  refine wp_region_lit ?_
  refine sB 1 [(13, .int .i64 0)] hF1 (by kernel_rfl) fun a1 hF1 => ?_
  refine wl (eP 14 (v0 := .bool (!decide (0 = 0))) (v := .bool false) hF1 (by kernel_rfl) (fun _ => by kernel_rfl) (nT (by omega)) fun a1 hF1 => ?_)
  refine wpList_nil ?_
  refine hK7 _ _ ?_
  refine cF hF1 (by kernel_rfl) (by kernel_rfl) ?_
  refine wp_skip ?_
  refine hK5 _ _ ?_
  refine wp_seq_k fun K8 hK8 => ?_
  refine wp_region_lit ?_
  refine sB 1 [(17, .func (.func 46) #[] #[.pointer (some ⟨bb1, 0, none⟩), .pointer (some ⟨bb2, 0, none⟩)])] hF1 (by kernel_rfl) fun a1 hF1 => ?_
  refine wl (sC (f := 46) (args := #[.pointer (some ⟨bb1, 0, none⟩), .pointer (some ⟨bb2, 0, none⟩)]) hF1 (by kernel_rfl) rfl (by decide) (by kernel_rfl) (fun _ => by kernel_rfl) ?_)
  refine enterK 20 Tryd.func46 rfl rfl rfl ?_
  intro a2 hF2 QR9 hR9 hNR9
  refine wp_seq_k fun K10 hK10 => ?_
  refine wp_region_lit ?_
  refine sB 2 [(2, .int .i64 0), (3, .int .i64 0)] hF2 (by kernel_rfl) fun a2 hF2 => ?_
  refine wpList_nil ?_
  refine hK10 _ _ ?_
  refine wp_seq_k fun K11 hK11 => ?_
  refine rQ hM (by kernel_rfl) (by kernel_rfl) ?_
  refine eQ 4 (v0 := .pointer (some ⟨bb1, 0, none⟩)) (v := .pointer (some ⟨bb1, 0, none⟩)) hF2 (by kernel_rfl) (fun _ => by kernel_rfl) rfl fun a2 hF2 => ?_
  refine eQL 5 1 0 (v := .int .i64 an) hF2 (by kernel_rfl) rfl rfl (by kernel_rfl) (by kernel_rfl) fun a2 hF2 => ?_
  refine eQ 6 (v0 := .pointer (some ⟨bb2, 1, none⟩)) (v := .pointer (some ⟨bb2, 1, none⟩)) hF2 (by kernel_rfl) (fun _ => by kernel_rfl) rfl fun a2 hF2 => ?_
  refine eQL 7 2 1 (v := .int .i64 bd) hF2 (by kernel_rfl) rfl rfl (by kernel_rfl) (by kernel_rfl) fun a2 hF2 => ?_
  have hz3 : -1152921504606846976 ≤ an * bd ∧ an * bd ≤ 1152921504606846976 := mul_bd (-1073741824) (1073741824) (1) (1073741824) (by omega) (by omega) (by omega) (by omega) (by decide)
  refine eQ 8 (v0 := .int .i64 (IntKind.i64.wrap (an * bd))) (v := .int .i64 (an * bd)) hF2 (by kernel_rfl) (fun _ => by kernel_rfl) (wi (by omega)) fun a2 hF2 => ?_
  refine eQ 9 (v0 := .pointer (some ⟨bb2, 0, none⟩)) (v := .pointer (some ⟨bb2, 0, none⟩)) hF2 (by kernel_rfl) (fun _ => by kernel_rfl) rfl fun a2 hF2 => ?_
  refine eQL 10 2 0 (v := .int .i64 bn) hF2 (by kernel_rfl) rfl rfl (by kernel_rfl) (by kernel_rfl) fun a2 hF2 => ?_
  refine eQ 11 (v0 := .pointer (some ⟨bb1, 1, none⟩)) (v := .pointer (some ⟨bb1, 1, none⟩)) hF2 (by kernel_rfl) (fun _ => by kernel_rfl) rfl fun a2 hF2 => ?_
  refine eQL 12 1 1 (v := .int .i64 ad) hF2 (by kernel_rfl) rfl rfl (by kernel_rfl) (by kernel_rfl) fun a2 hF2 => ?_
  have hz4 : -1152921504606846976 ≤ bn * ad ∧ bn * ad ≤ 1152921504606846976 := mul_bd (-1073741824) (1073741824) (1) (1073741824) (by omega) (by omega) (by omega) (by omega) (by decide)
  refine eQ 13 (v0 := .int .i64 (IntKind.i64.wrap (bn * ad))) (v := .int .i64 (bn * ad)) hF2 (by kernel_rfl) (fun _ => by kernel_rfl) (wi (by omega)) fun a2 hF2 => ?_
  refine eQ 14 (v0 := .int .i64 (IntKind.i64.wrap (an * bd - bn * ad))) (v := .int .i64 (an * bd - bn * ad)) hF2 (by kernel_rfl) (fun _ => by kernel_rfl) (wi (by omega)) fun a2 hF2 => ?_
  refine eQ 15 (v0 := .pointer (some ⟨bb1, 1, none⟩)) (v := .pointer (some ⟨bb1, 1, none⟩)) hF2 (by kernel_rfl) (fun _ => by kernel_rfl) rfl fun a2 hF2 => ?_
  refine eQL 16 1 1 (v := .int .i64 ad) hF2 (by kernel_rfl) rfl rfl (by kernel_rfl) (by kernel_rfl) fun a2 hF2 => ?_
  refine eQ 17 (v0 := .pointer (some ⟨bb2, 1, none⟩)) (v := .pointer (some ⟨bb2, 1, none⟩)) hF2 (by kernel_rfl) (fun _ => by kernel_rfl) rfl fun a2 hF2 => ?_
  refine eQL 18 2 1 (v := .int .i64 bd) hF2 (by kernel_rfl) rfl rfl (by kernel_rfl) (by kernel_rfl) fun a2 hF2 => ?_
  have hz5 : 1 ≤ ad * bd ∧ ad * bd ≤ 1152921504606846976 := mul_bd (1) (1073741824) (1) (1073741824) (by omega) (by omega) (by omega) (by omega) (by decide)
  refine eQ 19 (v0 := .int .i64 (IntKind.i64.wrap (ad * bd))) (v := .int .i64 (ad * bd)) hF2 (by kernel_rfl) (fun _ => by kernel_rfl) (wi (by omega)) fun a2 hF2 => ?_
  refine eQ 2 (v0 := .int .i64 (an * bd - bn * ad)) (v := .int .i64 (an * bd - bn * ad)) hF2 (by kernel_rfl) (fun _ => by kernel_rfl) rfl fun a2 hF2 => ?_
  refine eQ 3 (v0 := .int .i64 (ad * bd)) (v := .int .i64 (ad * bd)) hF2 (by kernel_rfl) (fun _ => by kernel_rfl) rfl fun a2 hF2 => ?_
  refine wpQuiet_nil ?_
  intro w hM
  refine hK11 _ _ ?_
  refine wp_ret ?_
  refine hR9 _ _ ?_
  refine ret_of hF2 hM (.tmp rfl (.tmp rfl (.nil))) ⟨_, rfl, ?_⟩
  intro a1 hF1
  refine sB 2 [(19, .int .i64 (an * bd - bn * ad)), (20, .int .i64 (ad * bd))] hF1 (by kernel_rfl) fun a1 hF1 => ?_
  refine wl (eM 21 (v := .tuple #[.agg #[.int .i64 (rmN (an * bd - bn * ad) (ad * bd)), .int .i64 (rmD (an * bd - bn * ad) (ad * bd))], .int .i64 (rmE (an * bd - bn * ad) (ad * bd))]) hF1 hM (by kernel_rfl) (yld_call (f := 10) (args := #[.int .i64 (an * bd - bn * ad), .int .i64 (ad * bd)]) hF1 (by kernel_rfl) (fun _ => by kernel_rfl) (fun w hM => raMake_w (an * bd - bn * ad) (ad * bd) w (hT.below (Nat.le_refl _) hM.bel))) fun a1 w hF1 hM => ?_)
  refine sB 2 [(22, .agg #[.int .i64 (rmN (an * bd - bn * ad) (ad * bd)), .int .i64 (rmD (an * bd - bn * ad) (ad * bd))]), (23, .int .i64 (rmE (an * bd - bn * ad) (ad * bd)))] hF1 (by kernel_rfl) fun a1 hF1 => ?_
  refine wl (sStore (i := 6) (off := 0) (cs' := #[.int .i64 (rmN (an * bd - bn * ad) (ad * bd)), .int .i64 (rmD (an * bd - bn * ad) (ad * bd))]) hF1 hM (by kernel_rfl) rfl rfl (by kernel_rfl) (by kernel_rfl) rfl (by kernel_rfl) fun w hM => ?_)
  refine sB 1 [(7, .int .i64 (rmE (an * bd - bn * ad) (ad * bd)))] hF1 (by kernel_rfl) fun a1 hF1 => ?_
  refine wpList_nil ?_
  refine hK8 _ _ ?_
  refine wp_ret ?_
  refine hR3 _ _ ?_
  refine ret_of hF1 hM (.cell (i := 6) rfl rfl (v := .agg #[.int .i64 (rmN (an * bd - bn * ad) (ad * bd)), .int .i64 (rmD (an * bd - bn * ad) (ad * bd))]) (by kernel_rfl) (.tmp rfl (.nil))) ⟨_, rfl, ?_⟩
  intro a hF
  refine sB 2 [(10, .agg #[.int .i64 (rmN (an * bd - bn * ad) (ad * bd)), .int .i64 (rmD (an * bd - bn * ad) (ad * bd))]), (11, .int .i64 (rmE (an * bd - bn * ad) (ad * bd)))] hF (by kernel_rfl) fun a hF => ?_
  refine wl (sStore (i := 3) (off := 0) (cs' := #[.int .i64 (rmN (an * bd - bn * ad) (ad * bd)), .int .i64 (rmD (an * bd - bn * ad) (ad * bd))]) hF hM (by kernel_rfl) rfl rfl (by kernel_rfl) (by kernel_rfl) rfl (by kernel_rfl) fun w hM => ?_)
  refine sB 1 [(5, .int .i64 (rmE (an * bd - bn * ad) (ad * bd)))] hF (by kernel_rfl) fun a hF => ?_
  refine wpList_nil ?_
  refine hK2 _ _ ?_
  refine wp_ret ?_
  refine hR0 _ _ ?_
  refine ret_of hF hM (.cell (i := 3) rfl rfl (v := .agg #[.int .i64 (rmN (an * bd - bn * ad) (ad * bd)), .int .i64 (rmD (an * bd - bn * ad) (ad * bd))]) (by kernel_rfl) (.tmp rfl (.nil))) ?_
  exact ⟨rfl, hM.bel⟩

theorem raSub_no (an ad bn bd : Int) (w0 : World) (hT : Tab w0) (h : ¬ (raE an ad = 0 ∧ raE bn bd = 0)) :
    Calls Tryd.prog 18 #[.agg #[.int .i64 an, .int .i64 ad], .agg #[.int .i64 bn, .int .i64 bd]] w0 (Ret w0 (.tuple #[.agg #[.int .i64 0, .int .i64 0], .int .i64 120])) := by
  refine enterK 12 Tryd.func18 rfl rfl rfl ?_
  intro a hF Q0 hR0 hN0
  have hM := Mem.start w0
  refine wp_seq_k fun K1 hK1 => ?_
  refine wp_region_lit ?_
  refine wl (eN 2 1 (t := 23) (fun b => .pointer (some ⟨b, 0, none⟩)) #[.int .i64 an, .int .i64 ad] hF hM (by kernel_rfl) (fun _ => by kernel_rfl) fun bb1 a w hF hM => ?_)
  refine wl (eN 3 2 (t := 23) (fun b => .pointer (some ⟨b, 0, none⟩)) #[.int .i64 bn, .int .i64 bd] hF hM (by kernel_rfl) (fun _ => by kernel_rfl) fun bb2 a w hF hM => ?_)
  refine wl (eN 4 3 (t := 23) (fun b => .pointer (some ⟨b, 0, none⟩)) #[.int .i64 0, .int .i64 0] hF hM (by kernel_rfl) (fun _ => by kernel_rfl) fun bb3 a w hF hM => ?_)
  refine sB 1 [(5, .int .i64 0)] hF (by kernel_rfl) fun a hF => ?_
  refine wpList_nil ?_
  refine hK1 _ _ ?_
  refine wp_seq_k fun K2 hK2 => ?_
  refine wp_region_lit ?_
  refine wl (eL 6 1 0 (v := .agg #[.int .i64 an, .int .i64 ad]) hF hM (by kernel_rfl) rfl rfl (by kernel_rfl) (by kernel_rfl) fun a w hF hM => ?_)
  refine wl (eL 7 2 0 (v := .agg #[.int .i64 bn, .int .i64 bd]) hF hM (by kernel_rfl) rfl rfl (by kernel_rfl) (by kernel_rfl) fun a w hF hM => ?_)
  refine sB 1 [(8, .func (.func 46) #[] #[.pointer (some ⟨bb1, 0, none⟩), .pointer (some ⟨bb2, 0, none⟩)])] hF (by kernel_rfl) fun a hF => ?_
  refine wl (sC (f := 43) (args := #[.agg #[.int .i64 an, .int .i64 ad], .agg #[.int .i64 bn, .int .i64 bd], .func (.func 46) #[] #[.pointer (some ⟨bb1, 0, none⟩), .pointer (some ⟨bb2, 0, none⟩)]]) hF (by kernel_rfl) rfl (by decide) (by kernel_rfl) (fun _ => by kernel_rfl) ?_)
  refine enterK 24 Tryd.func43 rfl rfl rfl ?_
  intro a1 hF1 QR3 hR3 hNR3
  refine wp_seq_k fun K4 hK4 => ?_
  refine wp_region_lit ?_
  refine wl (eN 3 4 (t := 23) (fun b => .pointer (some ⟨b, 0, none⟩)) #[.int .i64 an, .int .i64 ad] hF1 hM (by kernel_rfl) (fun _ => by kernel_rfl) fun bb4 a1 w hF1 hM => ?_)
  refine wl (eN 4 5 (t := 23) (fun b => .pointer (some ⟨b, 0, none⟩)) #[.int .i64 bn, .int .i64 bd] hF1 hM (by kernel_rfl) (fun _ => by kernel_rfl) fun bb5 a1 w hF1 hM => ?_)
  refine wl (eN 6 6 (t := 23) (fun b => .pointer (some ⟨b, 0, none⟩)) #[.int .i64 0, .int .i64 0] hF1 hM (by kernel_rfl) (fun _ => by kernel_rfl) fun bb6 a1 w hF1 hM => ?_)
  refine sB 1 [(7, .int .i64 0)] hF1 (by kernel_rfl) fun a1 hF1 => ?_
  refine wpList_nil ?_
  refine hK4 _ _ ?_
  refine wp_seq_k fun K5 hK5 => ?_
  refine wp_seq_k fun K6 hK6 => ?_
  by_cases hz1 : raE an ad = 0
  · skip
    have hz2 := raE_ok hz1
    by_cases hz3 : raE bn bd = 0
    · skip
      have hz4 := raE_ok hz3
      exact absurd ⟨hz1, hz3⟩ h
    · skip
      refine wp_region_lit ?_
      refine wl (eL 9 4 0 (v := .agg #[.int .i64 an, .int .i64 ad]) hF1 hM (by kernel_rfl) rfl rfl (by kernel_rfl) (by kernel_rfl) fun a1 w hF1 hM => ?_)
      refine wl (eL 10 5 0 (v := .agg #[.int .i64 bn, .int .i64 bd]) hF1 hM (by kernel_rfl) rfl rfl (by kernel_rfl) (by kernel_rfl) fun a1 w hF1 hM => ?_)
      refine wl (eN 11 9 (t := 23) (fun b => .slice (some ⟨b, 0, none⟩) 2 2) #[.int .i64 an, .int .i64 ad, .int .i64 bn, .int .i64 bd] hF1 hM (by kernel_rfl) (fun _ => by kernel_rfl) fun bb9 a1 w hF1 hM => ?_)
      refine wl (eM 12 (v := .int .i64 120) hF1 hM (by kernel_rfl) (yld_call (f := 49) (args := #[.slice (some ⟨bb9, 0, none⟩) 2 2]) hF1 (by kernel_rfl) (fun _ => by kernel_rfl) (fun w hM => checkAll_no (some ⟨bb9, 0, none⟩) [(an, ad), (bn, bd)] _ w (hM.roRow (k := 9) rfl) (by simp) (hT.below (Nat.le_refl _) hM.bel) (ra_notwo (fun q => hz3 q.2)))) fun a1 w hF1 hM => ?_)
      refine sB 1 [(8, .int .i64 120)] hF1 (by kernel_rfl) fun a1 hF1 => ?_
      refine wpList_nil ?_
      refine hK6 _ _ ?_
      refine wp_seq_k fun K7 hK7 => ?_
      refine wp_region_lit ?_
      refine sB 1 [(13, .int .i64 120)] hF1 (by kernel_rfl) fun a1 hF1 => ?_
      refine wl (eP 14 (v0 := .bool (!decide (120 = 0))) (v := .bool true) hF1 (by kernel_rfl) (fun _ => by kernel_rfl) (nF (by omega)) fun a1 hF1 => ?_)
      refine wpList_nil ?_
      refine hK7 _ _ ?_
      refine cT hF1 (by kernel_rfl) (by kernel_rfl) ?_
      refine wp_seq_k fun K8 hK8 => ?_
      refine wp_region_lit ?_
      refine sB 2 [(15, .agg #[.int .i64 0, .int .i64 0]), (16, .int .i64 120)] hF1 (by kernel_rfl) fun a1 hF1 => ?_
      refine wl (sStore (i := 6) (off := 0) (cs' := #[.int .i64 0, .int .i64 0]) hF1 hM (by kernel_rfl) rfl rfl (by kernel_rfl) (by kernel_rfl) rfl (by kernel_rfl) fun w hM => ?_)
      refine sB 1 [(7, .int .i64 120)] hF1 (by kernel_rfl) fun a1 hF1 => ?_
      refine wpList_nil ?_
      refine hK8 _ _ ?_
      refine wp_ret ?_
      refine hR3 _ _ ?_
      refine ret_of hF1 hM (.cell (i := 6) rfl rfl (v := .agg #[.int .i64 0, .int .i64 0]) (by kernel_rfl) (.tmp rfl (.nil))) ⟨_, rfl, ?_⟩
      intro a hF
      refine sB 2 [(10, .agg #[.int .i64 0, .int .i64 0]), (11, .int .i64 120)] hF (by kernel_rfl) fun a hF => ?_
      refine wl (sStore (i := 3) (off := 0) (cs' := #[.int .i64 0, .int .i64 0]) hF hM (by kernel_rfl) rfl rfl (by kernel_rfl) (by kernel_rfl) rfl (by kernel_rfl) fun w hM => ?_)
      refine sB 1 [(5, .int .i64 120)] hF (by kernel_rfl) fun a hF => ?_
      refine wpList_nil ?_
      refine hK2 _ _ ?_
      refine wp_ret ?_
      refine hR0 _ _ ?_
      refine ret_of hF hM (.cell (i := 3) rfl rfl (v := .agg #[.int .i64 0, .int .i64 0]) (by kernel_rfl) (.tmp rfl (.nil))) ?_
      exact ⟨rfl, hM.bel⟩
  · skip
    refine wp_region_lit ?_
    refine wl (eL 9 4 0 (v := .agg #[.int .i64 an, .int .i64 ad]) hF1 hM (by kernel_rfl) rfl rfl (by kernel_rfl) (by kernel_rfl) fun a1 w hF1 hM => ?_)
    refine wl (eL 10 5 0 (v := .agg #[.int .i64 bn, .int .i64 bd]) hF1 hM (by kernel_rfl) rfl rfl (by kernel_rfl) (by kernel_rfl) fun a1 w hF1 hM => ?_)
    refine wl (eN 11 10 (t := 23) (fun b => .slice (some ⟨b, 0, none⟩) 2 2) #[.int .i64 an, .int .i64 ad, .int .i64 bn, .int .i64 bd] hF1 hM (by kernel_rfl) (fun _ => by kernel_rfl) fun bb10 a1 w hF1 hM => ?_)
    refine wl (eM 12 (v := .int .i64 120) hF1 hM (by kernel_rfl) (yld_call (f := 49) (args := #[.slice (some ⟨bb10, 0, none⟩) 2 2]) hF1 (by kernel_rfl) (fun _ => by kernel_rfl) (fun w hM => checkAll_no (some ⟨bb10, 0, none⟩) [(an, ad), (bn, bd)] _ w (hM.roRow (k := 10) rfl) (by simp) (hT.below (Nat.le_refl _) hM.bel) (ra_notwo (fun q => hz1 q.1)))) fun a1 w hF1 hM => ?_)
    refine sB 1 [(8, .int .i64 120)] hF1 (by kernel_rfl) fun a1 hF1 => ?_
    refine wpList_nil ?_
    refine hK6 _ _ ?_
    refine wp_seq_k fun K9 hK9 => ?_
    refine wp_region_lit ?_
    refine sB 1 [(13, .int .i64 120)] hF1 (by kernel_rfl) fun a1 hF1 => ?_
    refine wl (eP 14 (v0 := .bool (!decide (120 = 0))) (v := .bool true) hF1 (by kernel_rfl) (fun _ => by kernel_rfl) (nF (by omega)) fun a1 hF1 => ?_)
    refine wpList_nil ?_
    refine hK9 _ _ ?_
    refine cT hF1 (by kernel_rfl) (by kernel_rfl) ?_
    refine wp_seq_k fun K10 hK10 => ?_
    refine wp_region_lit ?_
    refine sB 2 [(15, .agg #[.int .i64 0, .int .i64 0]), (16, .int .i64 120)] hF1 (by kernel_rfl) fun a1 hF1 => ?_
    refine wl (sStore (i := 6) (off := 0) (cs' := #[.int .i64 0, .int .i64 0]) hF1 hM (by kernel_rfl) rfl rfl (by kernel_rfl) (by kernel_rfl) rfl (by kernel_rfl) fun w hM => ?_)
    refine sB 1 [(7, .int .i64 120)] hF1 (by kernel_rfl) fun a1 hF1 => ?_
    refine wpList_nil ?_
    refine hK10 _ _ ?_
    refine wp_ret ?_
    refine hR3 _ _ ?_
    refine ret_of hF1 hM (.cell (i := 6) rfl rfl (v := .agg #[.int .i64 0, .int .i64 0]) (by kernel_rfl) (.tmp rfl (.nil))) ⟨_, rfl, ?_⟩
    intro a hF
    refine sB 2 [(10, .agg #[.int .i64 0, .int .i64 0]), (11, .int .i64 120)] hF (by kernel_rfl) fun a hF => ?_
    refine wl (sStore (i := 3) (off := 0) (cs' := #[.int .i64 0, .int .i64 0]) hF hM (by kernel_rfl) rfl rfl (by kernel_rfl) (by kernel_rfl) rfl (by kernel_rfl) fun w hM => ?_)
    refine sB 1 [(5, .int .i64 120)] hF (by kernel_rfl) fun a hF => ?_
    refine wpList_nil ?_
    refine hK2 _ _ ?_
    refine wp_ret ?_
    refine hR0 _ _ ?_
    refine ret_of hF hM (.cell (i := 3) rfl rfl (v := .agg #[.int .i64 0, .int .i64 0]) (by kernel_rfl) (.tmp rfl (.nil))) ?_
    exact ⟨rfl, hM.bel⟩

theorem raMul_ok (an ad bn bd : Int) (w0 : World) (hT : Tab w0) (h1 : raE an ad = 0) (h2 : raE bn bd = 0) :
    Calls Tryd.prog 20 #[.agg #[.int .i64 an, .int .i64 ad], .agg #[.int .i64 bn, .int .i64 bd]] w0 (Ret w0 (.tuple #[.agg #[.int .i64 (rmN (an * bn) (ad * bd)), .int .i64 (rmD (an * bn) (ad * bd))], .int .i64 (rmE (an * bn) (ad * bd))])) := by
  have g1 := raE_ok h1
  have g2 := raE_ok h2
  refine enterK 12 Tryd.func20 rfl rfl rfl ?_
  intro a hF Q0 hR0 hN0
  have hM := Mem.start w0
  have hz1 := raE_ok h1
  have hz2 := raE_ok h2
  refine wp_seq_k fun K1 hK1 => ?_
  refine wp_region_lit ?_
  refine wl (eN 2 1 (t := 23) (fun b => .pointer (some ⟨b, 0, none⟩)) #[.int .i64 an, .int .i64 ad] hF hM (by kernel_rfl) (fun _ => by kernel_rfl) fun bb1 a w hF hM => ?_)
  refine wl (eN 3 2 (t := 23) (fun b => .pointer (some ⟨b, 0, none⟩)) #[.int .i64 bn, .int .i64 bd] hF hM (by kernel_rfl) (fun _ => by kernel_rfl) fun bb2 a w hF hM => ?_)
  refine wl (eN 4 3 (t := 23) (fun b => .pointer (some ⟨b, 0, none⟩)) #[.int .i64 0, .int .i64 0] hF hM (by kernel_rfl) (fun _ => by kernel_rfl) fun bb3 a w hF hM => ?_)
  refine sB 1 [(5, .int .i64 0)] hF (by kernel_rfl) fun a hF => ?_
  refine wpList_nil ?_
  refine hK1 _ _ ?_
  refine wp_seq_k fun K2 hK2 => ?_
  refine wp_region_lit ?_
  refine wl (eL 6 1 0 (v := .agg #[.int .i64 an, .int .i64 ad]) hF hM (by kernel_rfl) rfl rfl (by kernel_rfl) (by kernel_rfl) fun a w hF hM => ?_)
  refine wl (eL 7 2 0 (v := .agg #[.int .i64 bn, .int .i64 bd]) hF hM (by kernel_rfl) rfl rfl (by kernel_rfl) (by kernel_rfl) fun a w hF hM => ?_)
  refine sB 1 [(8, .func (.func 47) #[] #[.pointer (some ⟨bb1, 0, none⟩), .pointer (some ⟨bb2, 0, none⟩)])] hF (by kernel_rfl) fun a hF => ?_
  refine wl (sC (f := 43) (args := #[.agg #[.int .i64 an, .int .i64 ad], .agg #[.int .i64 bn, .int .i64 bd], .func (.func 47) #[] #[.pointer (some ⟨bb1, 0, none⟩), .pointer (some ⟨bb2, 0, none⟩)]]) hF (by kernel_rfl) rfl (by decide) (by kernel_rfl) (fun _ => by kernel_rfl) ?_)
  refine enterK 24 Tryd.func43 rfl rfl rfl ?_
  intro a1 hF1 QR3 hR3 hNR3
  refine wp_seq_k fun K4 hK4 => ?_
  refine wp_region_lit ?_
  refine wl (eN 3 4 (t := 23) (fun b => .pointer (some ⟨b, 0, none⟩)) #[.int .i64 an, .int .i64 ad] hF1 hM (by kernel_rfl) (fun _ => by kernel_rfl) fun bb4 a1 w hF1 hM => ?_)
  refine wl (eN 4 5 (t := 23) (fun b => .pointer (some ⟨b, 0, none⟩)) #[.int .i64 bn, .int .i64 bd] hF1 hM (by kernel_rfl) (fun _ => by kernel_rfl) fun bb5 a1 w hF1 hM => ?_)
  refine wl (eN 6 6 (t := 23) (fun b => .pointer (some ⟨b, 0, none⟩)) #[.int .i64 0, .int .i64 0] hF1 hM (by kernel_rfl) (fun _ => by kernel_rfl) fun bb6 a1 w hF1 hM => ?_)
  refine sB 1 [(7, .int .i64 0)] hF1 (by kernel_rfl) fun a1 hF1 => ?_
  refine wpList_nil ?_
  refine hK4 _ _ ?_
  refine wp_seq_k fun K5 hK5 => ?_
  refine wp_seq_k fun K6 hK6 => ?_
  refine wp_region_lit ?_
  refine wl (eL 9 4 0 (v := .agg #[.int .i64 an, .int .i64 ad]) hF1 hM (by kernel_rfl) rfl rfl (by kernel_rfl) (by kernel_rfl) fun a1 w hF1 hM => ?_)
  refine wl (eL 10 5 0 (v := .agg #[.int .i64 bn, .int .i64 bd]) hF1 hM (by kernel_rfl) rfl rfl (by kernel_rfl) (by kernel_rfl) fun a1 w hF1 hM => ?_)
  refine wl (eN 11 7 (t := 23) (fun b => .slice (some ⟨b, 0, none⟩) 2 2) #[.int .i64 an, .int .i64 ad, .int .i64 bn, .int .i64 bd] hF1 hM (by kernel_rfl) (fun _ => by kernel_rfl) fun bb7 a1 w hF1 hM => ?_)
  refine wl (eM 12 (v := .int .i64 0) hF1 hM (by kernel_rfl) (yld_call (f := 49) (args := #[.slice (some ⟨bb7, 0, none⟩) 2 2]) hF1 (by kernel_rfl) (fun _ => by kernel_rfl) (fun w hM => checkAll_yes (some ⟨bb7, 0, none⟩) [(an, ad), (bn, bd)] _ w (hM.roRow (k := 7) rfl) (by simp) (hT.below (Nat.le_refl _) hM.bel) (ra_two h1 h2))) fun a1 w hF1 hM => ?_)
  refine sB 1 [(8, .int .i64 0)] hF1 (by kernel_rfl) fun a1 hF1 => ?_
  refine wpList_nil ?_
  refine hK6 _ _ ?_
  refine wp_seq_k fun K7 hK7 => ?_
  refine wp_region_lit ?_
  refine sB 1 [(13, .int .i64 0)] hF1 (by kernel_rfl) fun a1 hF1 => ?_
  refine wl (eP 14 (v0 := .bool (!decide (0 = 0))) (v := .bool false) hF1 (by kernel_rfl) (fun _ => by kernel_rfl) (nT (by omega)) fun a1 hF1 => ?_)
  refine wpList_nil ?_
  refine hK7 _ _ ?_
  refine cF hF1 (by kernel_rfl) (by kernel_rfl) ?_
  refine wp_skip ?_
  refine hK5 _ _ ?_
  refine wp_seq_k fun K8 hK8 => ?_
  refine wp_region_lit ?_
  refine sB 1 [(17, .func (.func 47) #[] #[.pointer (some ⟨bb1, 0, none⟩), .pointer (some ⟨bb2, 0, none⟩)])] hF1 (by kernel_rfl) fun a1 hF1 => ?_
  refine wl (sC (f := 47) (args := #[.pointer (some ⟨bb1, 0, none⟩), .pointer (some ⟨bb2, 0, none⟩)]) hF1 (by kernel_rfl) rfl (by decide) (by kernel_rfl) (fun _ => by kernel_rfl) ?_)
  refine enterK 14 Tryd.func47 rfl rfl rfl ?_
  intro a2 hF2 QR9 hR9 hNR9
  refine wp_seq_k fun K10 hK10 => ?_
  refine wp_region_lit ?_
  refine sB 2 [(2, .int .i64 0), (3, .int .i64 0)] hF2 (by kernel_rfl) fun a2 hF2 => ?_
  refine wpList_nil ?_
  refine hK10 _ _ ?_
  refine wp_seq_k fun K11 hK11 => ?_
  refine rQ hM (by kernel_rfl) (by kernel_rfl) ?_
  refine eQ 4 (v0 := .pointer (some ⟨bb1, 0, none⟩)) (v := .pointer (some ⟨bb1, 0, none⟩)) hF2 (by kernel_rfl) (fun _ => by kernel_rfl) rfl fun a2 hF2 => ?_
  refine eQL 5 1 0 (v := .int .i64 an) hF2 (by kernel_rfl) rfl rfl (by kernel_rfl) (by kernel_rfl) fun a2 hF2 => ?_
  refine eQ 6 (v0 := .pointer (some ⟨bb2, 0, none⟩)) (v := .pointer (some ⟨bb2, 0, none⟩)) hF2 (by kernel_rfl) (fun _ => by kernel_rfl) rfl fun a2 hF2 => ?_
  refine eQL 7 2 0 (v := .int .i64 bn) hF2 (by kernel_rfl) rfl rfl (by kernel_rfl) (by kernel_rfl) fun a2 hF2 => ?_
  have hz3 : -1152921504606846976 ≤ an * bn ∧ an * bn ≤ 1152921504606846976 := mul_bd (-1073741824) (1073741824) (-1073741824) (1073741824) (by omega) (by omega) (by omega) (by omega) (by decide)
  refine eQ 8 (v0 := .int .i64 (IntKind.i64.wrap (an * bn))) (v := .int .i64 (an * bn)) hF2 (by kernel_rfl) (fun _ => by kernel_rfl) (wi (by omega)) fun a2 hF2 => ?_
  refine eQ 9 (v0 := .pointer (some ⟨bb1, 1, none⟩)) (v := .pointer (some ⟨bb1, 1, none⟩)) hF2 (by kernel_rfl) (fun _ => by kernel_rfl) rfl fun a2 hF2 => ?_
  refine eQL 10 1 1 (v := .int .i64 ad) hF2 (by kernel_rfl) rfl rfl (by kernel_rfl) (by kernel_rfl) fun a2 hF2 => ?_
  refine eQ 11 (v0 := .pointer (some ⟨bb2, 1, none⟩)) (v := .pointer (some ⟨bb2, 1, none⟩)) hF2 (by kernel_rfl) (fun _ => by kernel_rfl) rfl fun a2 hF2 => ?_
  refine eQL 12 2 1 (v := .int .i64 bd) hF2 (by kernel_rfl) rfl rfl (by kernel_rfl) (by kernel_rfl) fun a2 hF2 => ?_
  have hz4 : 1 ≤ ad * bd ∧ ad * bd ≤ 1152921504606846976 := mul_bd (1) (1073741824) (1) (1073741824) (by omega) (by omega) (by omega) (by omega) (by decide)
  refine eQ 13 (v0 := .int .i64 (IntKind.i64.wrap (ad * bd))) (v := .int .i64 (ad * bd)) hF2 (by kernel_rfl) (fun _ => by kernel_rfl) (wi (by omega)) fun a2 hF2 => ?_
  refine eQ 2 (v0 := .int .i64 (an * bn)) (v := .int .i64 (an * bn)) hF2 (by kernel_rfl) (fun _ => by kernel_rfl) rfl fun a2 hF2 => ?_
  refine eQ 3 (v0 := .int .i64 (ad * bd)) (v := .int .i64 (ad * bd)) hF2 (by kernel_rfl) (fun _ => by kernel_rfl) rfl fun a2 hF2 => ?_
  refine wpQuiet_nil ?_
  intro w hM
  refine hK11 _ _ ?_
  refine wp_ret ?_
  refine hR9 _ _ ?_
  refine ret_of hF2 hM (.tmp rfl (.tmp rfl (.nil))) ⟨_, rfl, ?_⟩
  intro a1 hF1
  refine sB 2 [(19, .int .i64 (an * bn)), (20, .int .i64 (ad * bd))] hF1 (by kernel_rfl) fun a1 hF1 => ?_
  refine wl (eM 21 (v := .tuple #[.agg #[.int .i64 (rmN (an * bn) (ad * bd)), .int .i64 (rmD (an * bn) (ad * bd))], .int .i64 (rmE (an * bn) (ad * bd))]) hF1 hM (by kernel_rfl) (yld_call (f := 10) (args := #[.int .i64 (an * bn), .int .i64 (ad * bd)]) hF1 (by kernel_rfl) (fun _ => by kernel_rfl) (fun w hM => raMake_w (an * bn) (ad * bd) w (hT.below (Nat.le_refl _) hM.bel))) fun a1 w hF1 hM => ?_)
  refine sB 2 [(22, .agg #[.int .i64 (rmN (an * bn) (ad * bd)), .int .i64 (rmD (an * bn) (ad * bd))]), (23, .int .i64 (rmE (an * bn) (ad * bd)))] hF1 (by kernel_rfl) fun a1 hF1 => ?_
  refine wl (sStore (i := 6) (off := 0) (cs' := #[.int .i64 (rmN (an * bn) (ad * bd)), .int .i64 (rmD (an * bn) (ad * bd))]) hF1 hM (by kernel_rfl) rfl rfl (by kernel_rfl) (by kernel_rfl) rfl (by kernel_rfl) fun w hM => ?_)
  refine sB 1 [(7, .int .i64 (rmE (an * bn) (ad * bd)))] hF1 (by kernel_rfl) fun a1 hF1 => ?_
  refine wpList_nil ?_
  refine hK8 _ _ ?_
  refine wp_ret ?_
  refine hR3 _ _ ?_
  refine ret_of hF1 hM (.cell (i := 6) rfl rfl (v := .agg #[.int .i64 (rmN (an * bn) (ad * bd)), .int .i64 (rmD (an * bn) (ad * bd))]) (by kernel_rfl) (.tmp rfl (.nil))) ⟨_, rfl, ?_⟩
  intro a hF
  refine sB 2 [(10, .agg #[.int .i64 (rmN (an * bn) (ad * bd)), .int .i64 (rmD (an * bn) (ad * bd))]), (11, .int .i64 (rmE (an * bn) (ad * bd)))] hF (by kernel_rfl) fun a hF => ?_
  refine wl (sStore (i := 3) (off := 0) (cs' := #[.int .i64 (rmN (an * bn) (ad * bd)), .int .i64 (rmD (an * bn) (ad * bd))]) hF hM (by kernel_rfl) rfl rfl (by kernel_rfl) (by kernel_rfl) rfl (by kernel_rfl) fun w hM => ?_)
  refine sB 1 [(5, .int .i64 (rmE (an * bn) (ad * bd)))] hF (by kernel_rfl) fun a hF => ?_
  refine wpList_nil ?_
  refine hK2 _ _ ?_
  refine wp_ret ?_
  refine hR0 _ _ ?_
  refine ret_of hF hM (.cell (i := 3) rfl rfl (v := .agg #[.int .i64 (rmN (an * bn) (ad * bd)), .int .i64 (rmD (an * bn) (ad * bd))]) (by kernel_rfl) (.tmp rfl (.nil))) ?_
  exact ⟨rfl, hM.bel⟩

theorem raMul_no (an ad bn bd : Int) (w0 : World) (hT : Tab w0) (h : ¬ (raE an ad = 0 ∧ raE bn bd = 0)) :
    Calls Tryd.prog 20 #[.agg #[.int .i64 an, .int .i64 ad], .agg #[.int .i64 bn, .int .i64 bd]] w0 (Ret w0 (.tuple #[.agg #[.int .i64 0, .int .i64 0], .int .i64 120])) := by
  refine enterK 12 Tryd.func20 rfl rfl rfl ?_
  intro a hF Q0 hR0 hN0
  have hM := Mem.start w0
  refine wp_seq_k fun K1 hK1 => ?_
  refine wp_region_lit ?_
  refine wl (eN 2 1 (t := 23) (fun b => .pointer (some ⟨b, 0, none⟩)) #[.int .i64 an, .int .i64 ad] hF hM (by kernel_rfl) (fun _ => by kernel_rfl) fun bb1 a w hF hM => ?_)
  refine wl (eN 3 2 (t := 23) (fun b => .pointer (some ⟨b, 0, none⟩)) #[.int .i64 bn, .int .i64 bd] hF hM (by kernel_rfl) (fun _ => by kernel_rfl) fun bb2 a w hF hM => ?_)
  refine wl (eN 4 3 (t := 23) (fun b => .pointer (some ⟨b, 0, none⟩)) #[.int .i64 0, .int .i64 0] hF hM (by kernel_rfl) (fun _ => by kernel_rfl) fun bb3 a w hF hM => ?_)
  refine sB 1 [(5, .int .i64 0)] hF (by kernel_rfl) fun a hF => ?_
  refine wpList_nil ?_
  refine hK1 _ _ ?_
  refine wp_seq_k fun K2 hK2 => ?_
  refine wp_region_lit ?_
  refine wl (eL 6 1 0 (v := .agg #[.int .i64 an, .int .i64 ad]) hF hM (by kernel_rfl) rfl rfl (by kernel_rfl) (by kernel_rfl) fun a w hF hM => ?_)
  refine wl (eL 7 2 0 (v := .agg #[.int .i64 bn, .int .i64 bd]) hF hM (by kernel_rfl) rfl rfl (by kernel_rfl) (by kernel_rfl) fun a w hF hM => ?_)
  refine sB 1 [(8, .func (.func 47) #[] #[.pointer (some ⟨bb1, 0, none⟩), .pointer (some ⟨bb2, 0, none⟩)])] hF (by kernel_rfl) fun a hF => ?_
  refine wl (sC (f := 43) (args := #[.agg #[.int .i64 an, .int .i64 ad], .agg #[.int .i64 bn, .int .i64 bd], .func (.func 47) #[] #[.pointer (some ⟨bb1, 0, none⟩), .pointer (some ⟨bb2, 0, none⟩)]]) hF (by kernel_rfl) rfl (by decide) (by kernel_rfl) (fun _ => by kernel_rfl) ?_)
  refine enterK 24 Tryd.func43 rfl rfl rfl ?_
  intro a1 hF1 QR3 hR3 hNR3
  refine wp_seq_k fun K4 hK4 => ?_
  refine wp_region_lit ?_
  refine wl (eN 3 4 (t := 23) (fun b => .pointer (some ⟨b, 0, none⟩)) #[.int .i64 an, .int .i64 ad] hF1 hM (by kernel_rfl) (fun _ => by kernel_rfl) fun bb4 a1 w hF1 hM => ?_)
  refine wl (eN 4 5 (t := 23) (fun b => .pointer (some ⟨b, 0, none⟩)) #[.int .i64 bn, .int .i64 bd] hF1 hM (by kernel_rfl) (fun _ => by kernel_rfl) fun bb5 a1 w hF1 hM => ?_)
  refine wl (eN 6 6 (t := 23) (fun b => .pointer (some ⟨b, 0, none⟩)) #[.int .i64 0, .int .i64 0] hF1 hM (by kernel_rfl) (fun _ => by kernel_rfl) fun bb6 a1 w hF1 hM => ?_)
  refine sB 1 [(7, .int .i64 0)] hF1 (by kernel_rfl) fun a1 hF1 => ?_
  refine wpList_nil ?_
  refine hK4 _ _ ?_
  refine wp_seq_k fun K5 hK5 => ?_
  refine wp_seq_k fun K6 hK6 => ?_
  by_cases hz1 : raE an ad = 0
  · skip
    have hz2 := raE_ok hz1
    by_cases hz3 : raE bn bd = 0
    · skip
      have hz4 := raE_ok hz3
      exact absurd ⟨hz1, hz3⟩ h
    · skip
      refine wp_region_lit ?_
      refine wl (eL 9 4 0 (v := .agg #[.int .i64 an, .int .i64 ad]) hF1 hM (by kernel_rfl) rfl rfl (by kernel_rfl) (by kernel_rfl) fun a1 w hF1 hM => ?_)
      refine wl (eL 10 5 0 (v := .agg #[.int .i64 bn, .int .i64 bd]) hF1 hM (by kernel_rfl) rfl rfl (by kernel_rfl) (by kernel_rfl) fun a1 w hF1 hM => ?_)
      refine wl (eN 11 9 (t := 23) (fun b => .slice (some ⟨b, 0, none⟩) 2 2) #[.int .i64 an, .int .i64 ad, .int .i64 bn, .int .i64 bd] hF1 hM (by kernel_rfl) (fun _ => by kernel_rfl) fun bb9 a1 w hF1 hM => ?_)
      refine wl (eM 12 (v := .int .i64 120) hF1 hM (by kernel_rfl) (yld_call (f := 49) (args := #[.slice (some ⟨bb9, 0, none⟩) 2 2]) hF1 (by kernel_rfl) (fun _ => by kernel_rfl) (fun w hM => checkAll_no (some ⟨bb9, 0, none⟩) [(an, ad), (bn, bd)] _ w (hM.roRow (k := 9) rfl) (by simp) (hT.below (Nat.le_refl _) hM.bel) (ra_notwo (fun q => hz3 q.2)))) fun a1 w hF1 hM => ?_)
      refine sB 1 [(8, .int .i64 120)] hF1 (by kernel_rfl) fun a1 hF1 => ?_
      refine wpList_nil ?_
      refine hK6 _ _ ?_
      refine wp_seq_k fun K7 hK7 => ?_
      refine wp_region_lit ?_
      refine sB 1 [(13, .int .i64 120)] hF1 (by kernel_rfl) fun a1 hF1 => ?_
      refine wl (eP 14 (v0 := .bool (!decide (120 = 0))) (v := .bool true) hF1 (by kernel_rfl) (fun _ => by kernel_rfl) (nF (by omega)) fun a1 hF1 => ?_)
      refine wpList_nil ?_
      refine hK7 _ _ ?_
      refine cT hF1 (by kernel_rfl) (by kernel_rfl) ?_
      refine wp_seq_k fun K8 hK8 => ?_
      refine wp_region_lit ?_
      refine sB 2 [(15, .agg #[.int .i64 0, .int .i64 0]), (16, .int .i64 120)] hF1 (by kernel_rfl) fun a1 hF1 => ?_
      refine wl (sStore (i := 6) (off := 0) (cs' := #[.int .i64 0, .int .i64 0]) hF1 hM (by kernel_rfl) rfl rfl (by kernel_rfl) (by kernel_rfl) rfl (by kernel_rfl) fun w hM => ?_)
      refine sB 1 [(7, .int .i64 120)] hF1 (by kernel_rfl) fun a1 hF1 => ?_
      refine wpList_nil ?_
      refine hK8 _ _ ?_
      refine wp_ret ?_
      refine hR3 _ _ ?_
      refine ret_of hF1 hM (.cell (i := 6) rfl rfl (v := .agg #[.int .i64 0, .int .i64 0]) (by kernel_rfl) (.tmp rfl (.nil))) ⟨_, rfl, ?_⟩
      intro a hF
      refine sB 2 [(10, .agg #[.int .i64 0, .int .i64 0]), (11, .int .i64 120)] hF (by kernel_rfl) fun a hF => ?_
      refine wl (sStore (i := 3) (off := 0) (cs' := #[.int .i64 0, .int .i64 0]) hF hM (by kernel_rfl) rfl rfl (by kernel_rfl) (by kernel_rfl) rfl (by kernel_rfl) fun w hM => ?_)
      refine sB 1 [(5, .int .i64 120)] hF (by kernel_rfl) fun a hF => ?_
      refine wpList_nil ?_
      refine hK2 _ _ ?_
      refine wp_ret ?_
      refine hR0 _ _ ?_
      refine ret_of hF hM (.cell (i := 3) rfl rfl (v := .agg #[.int .i64 0, .int .i64 0]) (by kernel_rfl) (.tmp rfl (.nil))) ?_
      exact ⟨rfl, hM.bel⟩
  · skip
    refine wp_region_lit ?_
    refine wl (eL 9 4 0 (v := .agg #[.int .i64 an, .int .i64 ad]) hF1 hM (by kernel_rfl) rfl rfl (by kernel_rfl) (by kernel_rfl) fun a1 w hF1 hM => ?_)
    refine wl (eL 10 5 0 (v := .agg #[.int .i64 bn, .int .i64 bd]) hF1 hM (by kernel_rfl) rfl rfl (by kernel_rfl) (by kernel_rfl) fun a1 w hF1 hM => ?_)
    refine wl (eN 11 10 (t := 23) (fun b => .slice (some ⟨b, 0, none⟩) 2 2) #[.int .i64 an, .int .i64 ad, .int .i64 bn, .int .i64 bd] hF1 hM (by kernel_rfl) (fun _ => by kernel_rfl) fun bb10 a1 w hF1 hM => ?_)
    refine wl (eM 12 (v := .int .i64 120) hF1 hM (by kernel_rfl) (yld_call (f := 49) (args := #[.slice (some ⟨bb10, 0, none⟩) 2 2]) hF1 (by kernel_rfl) (fun _ => by kernel_rfl) (fun w hM => checkAll_no (some ⟨bb10, 0, none⟩) [(an, ad), (bn, bd)] _ w (hM.roRow (k := 10) rfl) (by simp) (hT.below (Nat.le_refl _) hM.bel) (ra_notwo (fun q => hz1 q.1)))) fun a1 w hF1 hM => ?_)
    refine sB 1 [(8, .int .i64 120)] hF1 (by kernel_rfl) fun a1 hF1 => ?_
    refine wpList_nil ?_
    refine hK6 _ _ ?_
    refine wp_seq_k fun K9 hK9 => ?_
    refine wp_region_lit ?_
    refine sB 1 [(13, .int .i64 120)] hF1 (by kernel_rfl) fun a1 hF1 => ?_
    refine wl (eP 14 (v0 := .bool (!decide (120 = 0))) (v := .bool true) hF1 (by kernel_rfl) (fun _ => by kernel_rfl) (nF (by omega)) fun a1 hF1 => ?_)
    refine wpList_nil ?_
    refine hK9 _ _ ?_
    refine cT hF1 (by kernel_rfl) (by kernel_rfl) ?_
    refine wp_seq_k fun K10 hK10 => ?_
    refine wp_region_lit ?_
    refine sB 2 [(15, .agg #[.int .i64 0, .int .i64 0]), (16, .int .i64 120)] hF1 (by kernel_rfl) fun a1 hF1 => ?_
    refine wl (sStore (i := 6) (off := 0) (cs' := #[.int .i64 0, .int .i64 0]) hF1 hM (by kernel_rfl) rfl rfl (by kernel_rfl) (by kernel_rfl) rfl (by kernel_rfl) fun w hM => ?_)
    refine sB 1 [(7, .int .i64 120)] hF1 (by kernel_rfl) fun a1 hF1 => ?_
    refine wpList_nil ?_
    refine hK10 _ _ ?_
    refine wp_ret ?_
    refine hR3 _ _ ?_
    refine ret_of hF1 hM (.cell (i := 6) rfl rfl (v := .agg #[.int .i64 0, .int .i64 0]) (by kernel_rfl) (.tmp rfl (.nil))) ⟨_, rfl, ?_⟩
    intro a hF
    refine sB 2 [(10, .agg #[.int .i64 0, .int .i64 0]), (11, .int .i64 120)] hF (by kernel_rfl) fun a hF => ?_
    refine wl (sStore (i := 3) (off := 0) (cs' := #[.int .i64 0, .int .i64 0]) hF hM (by kernel_rfl) rfl rfl (by kernel_rfl) (by kernel_rfl) rfl (by kernel_rfl) fun w hM => ?_)
    refine sB 1 [(5, .int .i64 120)] hF (by kernel_rfl) fun a hF => ?_
    refine wpList_nil ?_
    refine hK2 _ _ ?_
    refine wp_ret ?_
    refine hR0 _ _ ?_
    refine ret_of hF hM (.cell (i := 3) rfl rfl (v := .agg #[.int .i64 0, .int .i64 0]) (by kernel_rfl) (.tmp rfl (.nil))) ?_
    exact ⟨rfl, hM.bel⟩

theorem raDiv_ok (an ad bn bd : Int) (w0 : World) (hT : Tab w0) (h1 : raE an ad = 0) (h2 : raE bn bd = 0) :
    Calls Tryd.prog 22 #[.agg #[.int .i64 an, .int .i64 ad], .agg #[.int .i64 bn, .int .i64 bd]] w0 (Ret w0 (.tuple #[.agg #[.int .i64 (rmN (an * bd) (ad * bn)), .int .i64 (rmD (an * bd) (ad * bn))], .int .i64 (rmE (an * bd) (ad * bn))])) := by
  have g1 := raE_ok h1
  have g2 := raE_ok h2
  refine enterK 12 Tryd.func22 rfl rfl rfl ?_
  intro a hF Q0 hR0 hN0
  have hM := Mem.start w0
  have hz1 := raE_ok h1
  have hz2 := raE_ok h2
  refine wp_seq_k fun K1 hK1 => ?_
  refine wp_region_lit ?_
  refine wl (eN 2 1 (t := 23) (fun b => .pointer (some ⟨b, 0, none⟩)) #[.int .i64 an, .int .i64 ad] hF hM (by kernel_rfl) (fun _ => by kernel_rfl) fun bb1 a w hF hM => ?_)
  refine wl (eN 3 2 (t := 23) (fun b => .pointer (some ⟨b, 0, none⟩)) #[.int .i64 bn, .int .i64 bd] hF hM (by kernel_rfl) (fun _ => by kernel_rfl) fun bb2 a w hF hM => ?_)
  refine wl (eN 4 3 (t := 23) (fun b => .pointer (some ⟨b, 0, none⟩)) #[.int .i64 0, .int .i64 0] hF hM (by kernel_rfl) (fun _ => by kernel_rfl) fun bb3 a w hF hM => ?_)
  refine sB 1 [(5, .int .i64 0)] hF (by kernel_rfl) fun a hF => ?_
  refine wpList_nil ?_
  refine hK1 _ _ ?_
  refine wp_seq_k fun K2 hK2 => ?_
  refine wp_region_lit ?_
  refine wl (eL 6 1 0 (v := .agg #[.int .i64 an, .int .i64 ad]) hF hM (by kernel_rfl) rfl rfl (by kernel_rfl) (by kernel_rfl) fun a w hF hM => ?_)
  refine wl (eL 7 2 0 (v := .agg #[.int .i64 bn, .int .i64 bd]) hF hM (by kernel_rfl) rfl rfl (by kernel_rfl) (by kernel_rfl) fun a w hF hM => ?_)
  refine sB 1 [(8, .func (.func 48) #[] #[.pointer (some ⟨bb1, 0, none⟩), .pointer (some ⟨bb2, 0, none⟩)])] hF (by kernel_rfl) fun a hF => ?_
  refine wl (sC (f := 43) (args := #[.agg #[.int .i64 an, .int .i64 ad], .agg #[.int .i64 bn, .int .i64 bd], .func (.func 48) #[] #[.pointer (some ⟨bb1, 0, none⟩), .pointer (some ⟨bb2, 0, none⟩)]]) hF (by kernel_rfl) rfl (by decide) (by kernel_rfl) (fun _ => by kernel_rfl) ?_)
  refine enterK 24 Tryd.func43 rfl rfl rfl ?_
  intro a1 hF1 QR3 hR3 hNR3
  refine wp_seq_k fun K4 hK4 => ?_
  refine wp_region_lit ?_
  refine wl (eN 3 4 (t := 23) (fun b => .pointer (some ⟨b, 0, none⟩)) #[.int .i64 an, .int .i64 ad] hF1 hM (by kernel_rfl) (fun _ => by kernel_rfl) fun bb4 a1 w hF1 hM => ?_)
  refine wl (eN 4 5 (t := 23) (fun b => .pointer (some ⟨b, 0, none⟩)) #[.int .i64 bn, .int .i64 bd] hF1 hM (by kernel_rfl) (fun _ => by kernel_rfl) fun bb5 a1 w hF1 hM => ?_)
  refine wl (eN 6 6 (t := 23) (fun b => .pointer (some ⟨b, 0, none⟩)) #[.int .i64 0, .int .i64 0] hF1 hM (by kernel_rfl) (fun _ => by kernel_rfl) fun bb6 a1 w hF1 hM => ?_)
  refine sB 1 [(7, .int .i64 0)] hF1 (by kernel_rfl) fun a1 hF1 => ?_
  refine wpList_nil ?_
  refine hK4 _ _ ?_
  refine wp_seq_k fun K5 hK5 => ?_
  refine wp_seq_k fun K6 hK6 => ?_
  refine wp_region_lit ?_
  refine wl (eL 9 4 0 (v := .agg #[.int .i64 an, .int .i64 ad]) hF1 hM (by kernel_rfl) rfl rfl (by kernel_rfl) (by kernel_rfl) fun a1 w hF1 hM => ?_)
  refine wl (eL 10 5 0 (v := .agg #[.int .i64 bn, .int .i64 bd]) hF1 hM (by kernel_rfl) rfl rfl (by kernel_rfl) (by kernel_rfl) fun a1 w hF1 hM => ?_)
  refine wl (eN 11 7 (t := 23) (fun b => .slice (some ⟨b, 0, none⟩) 2 2) #[.int .i64 an, .int .i64 ad, .int .i64 bn, .int .i64 bd] hF1 hM (by kernel_rfl) (fun _ => by kernel_rfl) fun bb7 a1 w hF1 hM => ?_)
  refine wl (eM 12 (v := .int .i64 0) hF1 hM (by kernel_rfl) (yld_call (f := 49) (args := #[.slice (some ⟨bb7, 0, none⟩) 2 2]) hF1 (by kernel_rfl) (fun _ => by kernel_rfl) (fun w hM => checkAll_yes (some ⟨bb7, 0, none⟩) [(an, ad), (bn, bd)] _ w (hM.roRow (k := 7) rfl) (by simp) (hT.below (Nat.le_refl _) hM.bel) (ra_two h1 h2))) fun a1 w hF1 hM => ?_)
  refine sB 1 [(8, .int .i64 0)] hF1 (by kernel_rfl) fun a1 hF1 => ?_
  refine wpList_nil ?_
  refine hK6 _ _ ?_
  refine wp_seq_k fun K7 hK7 => ?_
  refine wp_region_lit ?_
  refine sB 1 [(13, .int .i64 0)] hF1 (by kernel_rfl) fun a1 hF1 => ?_
  refine wl (eP 14 (v0 := .bool (!decide (0 = 0))) (v := .bool false) hF1 (by kernel_rfl) (fun _ => by kernel_rfl) (nT (by omega)) fun a1 hF1 => ?_)
  refine wpList_nil ?_
  refine hK7 _ _ ?_
  refine cF hF1 (by kernel_rfl) (by kernel_rfl) ?_
  refine wp_skip ?_
  refine hK5 _ _ ?_
  refine wp_seq_k fun K8 hK8 => ?_
  refine wp_region_lit ?_
  refine sB 1 [(17, .func (.func 48) #[] #[.pointer (some ⟨bb1, 0, none⟩), .pointer (some ⟨bb2, 0, none⟩)])] hF1 (by kernel_rfl) fun a1 hF1 => ?_
  refine wl (sC (f := 48) (args := #[.pointer (some ⟨bb1, 0, none⟩), .pointer (some ⟨bb2, 0, none⟩)]) hF1 (by kernel_rfl) rfl (by decide) (by kernel_rfl) (fun _ => by kernel_rfl) ?_)
  refine enterK 14 Tryd.func48 rfl rfl rfl ?_
  intro a2 hF2 QR9 hR9 hNR9
  refine wp_seq_k fun K10 hK10 => ?_
  refine wp_region_lit ?_
  refine sB 2 [(2, .int .i64 0), (3, .int .i64 0)] hF2 (by kernel_rfl) fun a2 hF2 => ?_
  refine wpList_nil ?_
  refine hK10 _ _ ?_
  refine wp_seq_k fun K11 hK11 => ?_
  refine rQ hM (by kernel_rfl) (by kernel_rfl) ?_
  refine eQ 4 (v0 := .pointer (some ⟨bb1, 0, none⟩)) (v := .pointer (some ⟨bb1, 0, none⟩)) hF2 (by kernel_rfl) (fun _ => by kernel_rfl) rfl fun a2 hF2 => ?_
  refine eQL 5 1 0 (v := .int .i64 an) hF2 (by kernel_rfl) rfl rfl (by kernel_rfl) (by kernel_rfl) fun a2 hF2 => ?_
  refine eQ 6 (v0 := .pointer (some ⟨bb2, 1, none⟩)) (v := .pointer (some ⟨bb2, 1, none⟩)) hF2 (by kernel_rfl) (fun _ => by kernel_rfl) rfl fun a2 hF2 => ?_
  refine eQL 7 2 1 (v := .int .i64 bd) hF2 (by kernel_rfl) rfl rfl (by kernel_rfl) (by kernel_rfl) fun a2 hF2 => ?_
  have hz3 : -1152921504606846976 ≤ an * bd ∧ an * bd ≤ 1152921504606846976 := mul_bd (-1073741824) (1073741824) (1) (1073741824) (by omega) (by omega) (by omega) (by omega) (by decide)
  refine eQ 8 (v0 := .int .i64 (IntKind.i64.wrap (an * bd))) (v := .int .i64 (an * bd)) hF2 (by kernel_rfl) (fun _ => by kernel_rfl) (wi (by omega)) fun a2 hF2 => ?_
  refine eQ 9 (v0 := .pointer (some ⟨bb1, 1, none⟩)) (v := .pointer (some ⟨bb1, 1, none⟩)) hF2 (by kernel_rfl) (fun _ => by kernel_rfl) rfl fun a2 hF2 => ?_
  refine eQL 10 1 1 (v := .int .i64 ad) hF2 (by kernel_rfl) rfl rfl (by kernel_rfl) (by kernel_rfl) fun a2 hF2 => ?_
  refine eQ 11 (v0 := .pointer (some ⟨bb2, 0, none⟩)) (v := .pointer (some ⟨bb2, 0, none⟩)) hF2 (by kernel_rfl) (fun _ => by kernel_rfl) rfl fun a2 hF2 => ?_
  refine eQL 12 2 0 (v := .int .i64 bn) hF2 (by kernel_rfl) rfl rfl (by kernel_rfl) (by kernel_rfl) fun a2 hF2 => ?_
  have hz4 : -1152921504606846976 ≤ ad * bn ∧ ad * bn ≤ 1152921504606846976 := mul_bd (1) (1073741824) (-1073741824) (1073741824) (by omega) (by omega) (by omega) (by omega) (by decide)
  refine eQ 13 (v0 := .int .i64 (IntKind.i64.wrap (ad * bn))) (v := .int .i64 (ad * bn)) hF2 (by kernel_rfl) (fun _ => by kernel_rfl) (wi (by omega)) fun a2 hF2 => ?_
  refine eQ 2 (v0 := .int .i64 (an * bd)) (v := .int .i64 (an * bd)) hF2 (by kernel_rfl) (fun _ => by kernel_rfl) rfl fun a2 hF2 => ?_
  refine eQ 3 (v0 := .int .i64 (ad * bn)) (v := .int .i64 (ad * bn)) hF2 (by kernel_rfl) (fun _ => by kernel_rfl) rfl fun a2 hF2 => ?_
  refine wpQuiet_nil ?_
  intro w hM
  refine hK11 _ _ ?_
  refine wp_ret ?_
  refine hR9 _ _ ?_
  refine ret_of hF2 hM (.tmp rfl (.tmp rfl (.nil))) ⟨_, rfl, ?_⟩
  intro a1 hF1
  refine sB 2 [(19, .int .i64 (an * bd)), (20, .int .i64 (ad * bn))] hF1 (by kernel_rfl) fun a1 hF1 => ?_
  refine wl (eM 21 (v := .tuple #[.agg #[.int .i64 (rmN (an * bd) (ad * bn)), .int .i64 (rmD (an * bd) (ad * bn))], .int .i64 (rmE (an * bd) (ad * bn))]) hF1 hM (by kernel_rfl) (yld_call (f := 10) (args := #[.int .i64 (an * bd), .int .i64 (ad * bn)]) hF1 (by kernel_rfl) (fun _ => by kernel_rfl) (fun w hM => raMake_w (an * bd) (ad * bn) w (hT.below (Nat.le_refl _) hM.bel))) fun a1 w hF1 hM => ?_)
  refine sB 2 [(22, .agg #[.int .i64 (rmN (an * bd) (ad * bn)), .int .i64 (rmD (an * bd) (ad * bn))]), (23, .int .i64 (rmE (an * bd) (ad * bn)))] hF1 (by kernel_rfl) fun a1 hF1 => ?_
  refine wl (sStore (i := 6) (off := 0) (cs' := #[.int .i64 (rmN (an * bd) (ad * bn)), .int .i64 (rmD (an * bd) (ad * bn))]) hF1 hM (by kernel_rfl) rfl rfl (by kernel_rfl) (by kernel_rfl) rfl (by kernel_rfl) fun w hM => ?_)
  refine sB 1 [(7, .int .i64 (rmE (an * bd) (ad * bn)))] hF1 (by kernel_rfl) fun a1 hF1 => ?_
  refine wpList_nil ?_
  refine hK8 _ _ ?_
  refine wp_ret ?_
  refine hR3 _ _ ?_
  refine ret_of hF1 hM (.cell (i := 6) rfl rfl (v := .agg #[.int .i64 (rmN (an * bd) (ad * bn)), .int .i64 (rmD (an * bd) (ad * bn))]) (by kernel_rfl) (.tmp rfl (.nil))) ⟨_, rfl, ?_⟩
  intro a hF
  refine sB 2 [(10, .agg #[.int .i64 (rmN (an * bd) (ad * bn)), .int .i64 (rmD (an * bd) (ad * bn))]), (11, .int .i64 (rmE (an * bd) (ad * bn)))] hF (by kernel_rfl) fun a hF => ?_
  refine wl (sStore (i := 3) (off := 0) (cs' := #[.int .i64 (rmN (an * bd) (ad * bn)), .int .i64 (rmD (an * bd) (ad * bn))]) hF hM (by kernel_rfl) rfl rfl (by kernel_rfl) (by kernel_rfl) rfl (by kernel_rfl) fun w hM => ?_)
  refine sB 1 [(5, .int .i64 (rmE (an * bd) (ad * bn)))] hF (by kernel_rfl) fun a hF => ?_
  refine wpList_nil ?_
  refine hK2 _ _ ?_
  refine wp_ret ?_
  refine hR0 _ _ ?_
  refine ret_of hF hM (.cell (i := 3) rfl rfl (v := .agg #[.int .i64 (rmN (an * bd) (ad * bn)), .int .i64 (rmD (an * bd) (ad * bn))]) (by kernel_rfl) (.tmp rfl (.nil))) ?_
  exact ⟨rfl, hM.bel⟩

theorem raDiv_no (an ad bn bd : Int) (w0 : World) (hT : Tab w0) (h : ¬ (raE an ad = 0 ∧ raE bn bd = 0)) :
    Calls Tryd.prog 22 #[.agg #[.int .i64 an, .int .i64 ad], .agg #[.int .i64 bn, .int .i64 bd]] w0 (Ret w0 (.tuple #[.agg #[.int .i64 0, .int .i64 0], .int .i64 120])) := by
  refine enterK 12 Tryd.func22 rfl rfl rfl ?_
  intro a hF Q0 hR0 hN0
  have hM := Mem.start w0
  refine wp_seq_k fun K1 hK1 => ?_
  refine wp_region_lit ?_
  refine wl (eN 2 1 (t := 23) (fun b => .pointer (some ⟨b, 0, none⟩)) #[.int .i64 an, .int .i64 ad] hF hM (by kernel_rfl) (fun _ => by kernel_rfl) fun bb1 a w hF hM => ?_)
  refine wl (eN 3 2 (t := 23) (fun b => .pointer (some ⟨b, 0, none⟩)) #[.int .i64 bn, .int .i64 bd] hF hM (by kernel_rfl) (fun _ => by kernel_rfl) fun bb2 a w hF hM => ?_)
  refine wl (eN 4 3 (t := 23) (fun b => .pointer (some ⟨b, 0, none⟩)) #[.int .i64 0, .int .i64 0] hF hM (by kernel_rfl) (fun _ => by kernel_rfl) fun bb3 a w hF hM => ?_)
  refine sB 1 [(5, .int .i64 0)] hF (by kernel_rfl) fun a hF => ?_
  refine wpList_nil ?_
  refine hK1 _ _ ?_
  refine wp_seq_k fun K2 hK2 => ?_
  refine wp_region_lit ?_
  refine wl (eL 6 1 0 (v := .agg #[.int .i64 an, .int .i64 ad]) hF hM (by kernel_rfl) rfl rfl (by kernel_rfl) (by kernel_rfl) fun a w hF hM => ?_)
  refine wl (eL 7 2 0 (v := .agg #[.int .i64 bn, .int .i64 bd]) hF hM (by kernel_rfl) rfl rfl (by kernel_rfl) (by kernel_rfl) fun a w hF hM => ?_)
  refine sB 1 [(8, .func (.func 48) #[] #[.pointer (some ⟨bb1, 0, none⟩), .pointer (some ⟨bb2, 0, none⟩)])] hF (by kernel_rfl) fun a hF => ?_
  refine wl (sC (f := 43) (args := #[.agg #[.int .i64 an, .int .i64 ad], .agg #[.int .i64 bn, .int .i64 bd], .func (.func 48) #[] #[.pointer (some ⟨bb1, 0, none⟩), .pointer (some ⟨bb2, 0, none⟩)]]) hF (by kernel_rfl) rfl (by decide) (by kernel_rfl) (fun _ => by kernel_rfl) ?_)
  refine enterK 24 Tryd.func43 rfl rfl rfl ?_
  intro a1 hF1 QR3 hR3 hNR3
  refine wp_seq_k fun K4 hK4 => ?_
  refine wp_region_lit ?_
  refine wl (eN 3 4 (t := 23) (fun b => .pointer (some ⟨b, 0, none⟩)) #[.int .i64 an, .int .i64 ad] hF1 hM (by kernel_rfl) (fun _ => by kernel_rfl) fun bb4 a1 w hF1 hM => ?_)
  refine wl (eN 4 5 (t := 23) (fun b => .pointer (some ⟨b, 0, none⟩)) #[.int .i64 bn, .int .i64 bd] hF1 hM (by kernel_rfl) (fun _ => by kernel_rfl) fun bb5 a1 w hF1 hM => ?_)
  refine wl (eN 6 6 (t := 23) (fun b => .pointer (some ⟨b, 0, none⟩)) #[.int .i64 0, .int .i64 0] hF1 hM (by kernel_rfl) (fun _ => by kernel_rfl) fun bb6 a1 w hF1 hM => ?_)
  refine sB 1 [(7, .int .i64 0)] hF1 (by kernel_rfl) fun a1 hF1 => ?_
  refine wpList_nil ?_
  refine hK4 _ _ ?_
  refine wp_seq_k fun K5 hK5 => ?_
  refine wp_seq_k fun K6 hK6 => ?_
  by_cases hz1 : raE an ad = 0
  · skip
    have hz2 := raE_ok hz1
    by_cases hz3 : raE bn bd = 0
    · skip
      have hz4 := raE_ok hz3
      exact absurd ⟨hz1, hz3⟩ h
    · skip
      refine wp_region_lit ?_
      refine wl (eL 9 4 0 (v := .agg #[.int .i64 an, .int .i64 ad]) hF1 hM (by kernel_rfl) rfl rfl (by kernel_rfl) (by kernel_rfl) fun a1 w hF1 hM => ?_)
      refine wl (eL 10 5 0 (v := .agg #[.int .i64 bn, .int .i64 bd]) hF1 hM (by kernel_rfl) rfl rfl (by kernel_rfl) (by kernel_rfl) fun a1 w hF1 hM => ?_)
      refine wl (eN 11 9 (t := 23) (fun b => .slice (some ⟨b, 0, none⟩) 2 2) #[.int .i64 an, .int .i64 ad, .int .i64 bn, .int .i64 bd] hF1 hM (by kernel_rfl) (fun _ => by kernel_rfl) fun bb9 a1 w hF1 hM => ?_)
      refine wl (eM 12 (v := .int .i64 120) hF1 hM (by kernel_rfl) (yld_call (f := 49) (args := #[.slice (some ⟨bb9, 0, none⟩) 2 2]) hF1 (by kernel_rfl) (fun _ => by kernel_rfl) (fun w hM => checkAll_no (some ⟨bb9, 0, none⟩) [(an, ad), (bn, bd)] _ w (hM.roRow (k := 9) rfl) (by simp) (hT.below (Nat.le_refl _) hM.bel) (ra_notwo (fun q => hz3 q.2)))) fun a1 w hF1 hM => ?_)
      refine sB 1 [(8, .int .i64 120)] hF1 (by kernel_rfl) fun a1 hF1 => ?_
      refine wpList_nil ?_
      refine hK6 _ _ ?_
      refine wp_seq_k fun K7 hK7 => ?_
      refine wp_region_lit ?_
      refine sB 1 [(13, .int .i64 120)] hF1 (by kernel_rfl) fun a1 hF1 => ?_
      refine wl (eP 14 (v0 := .bool (!decide (120 = 0))) (v := .bool true) hF1 (by kernel_rfl) (fun _ => by kernel_rfl) (nF (by omega)) fun a1 hF1 => ?_)
      refine wpList_nil ?_
      refine hK7 _ _ ?_
      refine cT hF1 (by kernel_rfl) (by kernel_rfl) ?_
      refine wp_seq_k fun K8 hK8 => ?_
      refine wp_region_lit ?_
      refine sB 2 [(15, .agg #[.int .i64 0, .int .i64 0]), (16, .int .i64 120)] hF1 (by kernel_rfl) fun a1 hF1 => ?_
      refine wl (sStore (i := 6) (off := 0) (cs' := #[.int .i64 0, .int .i64 0]) hF1 hM (by kernel_rfl) rfl rfl (by kernel_rfl) (by kernel_rfl) rfl (by kernel_rfl) fun w hM => ?_)
      refine sB 1 [(7, .int .i64 120)] hF1 (by kernel_rfl) fun a1 hF1 => ?_
      refine wpList_nil ?_
      refine hK8 _ _ ?_
      refine wp_ret ?_
      refine hR3 _ _ ?_
      refine ret_of hF1 hM (.cell (i := 6) rfl rfl (v := .agg #[.int .i64 0, .int .i64 0]) (by kernel_rfl) (.tmp rfl (.nil))) ⟨_, rfl, ?_⟩
      intro a hF
      refine sB 2 [(10, .agg #[.int .i64 0, .int .i64 0]), (11, .int .i64 120)] hF (by kernel_rfl) fun a hF => ?_
      refine wl (sStore (i := 3) (off := 0) (cs' := #[.int .i64 0, .int .i64 0]) hF hM (by kernel_rfl) rfl rfl (by kernel_rfl) (by kernel_rfl) rfl (by kernel_rfl) fun w hM => ?_)
      refine sB 1 [(5, .int .i64 120)] hF (by kernel_rfl) fun a hF => ?_
      refine wpList_nil ?_
      refine hK2 _ _ ?_
      refine wp_ret ?_
      refine hR0 _ _ ?_
      refine ret_of hF hM (.cell (i := 3) rfl rfl (v := .agg #[.int .i64 0, .int .i64 0]) (by kernel_rfl) (.tmp rfl (.nil))) ?_
      exact ⟨rfl, hM.bel⟩
  · skip
    refine wp_region_lit ?_
    refine wl (eL 9 4 0 (v := .agg #[.int .i64 an, .int .i64 ad]) hF1 hM (by kernel_rfl) rfl rfl (by kernel_rfl) (by kernel_rfl) fun a1 w hF1 hM => ?_)
    refine wl (eL 10 5 0 (v := .agg #[.int .i64 bn, .int .i64 bd]) hF1 hM (by kernel_rfl) rfl rfl (by kernel_rfl) (by kernel_rfl) fun a1 w hF1 hM => ?_)
    refine wl (eN 11 10 (t := 23) (fun b => .slice (some ⟨b, 0, none⟩) 2 2) #[.int .i64 an, .int .i64 ad, .int .i64 bn, .int .i64 bd] hF1 hM (by kernel_rfl) (fun _ => by kernel_rfl) fun bb10 a1 w hF1 hM => ?_)
    refine wl (eM 12 (v := .int .i64 120) hF1 hM (by kernel_rfl) (yld_call (f := 49) (args := #[.slice (some ⟨bb10, 0, none⟩) 2 2]) hF1 (by kernel_rfl) (fun _ => by kernel_rfl) (fun w hM => checkAll_no (some ⟨bb10, 0, none⟩) [(an, ad), (bn, bd)] _ w (hM.roRow (k := 10) rfl) (by simp) (hT.below (Nat.le_refl _) hM.bel) (ra_notwo (fun q => hz1 q.1)))) fun a1 w hF1 hM => ?_)
    refine sB 1 [(8, .int .i64 120)] hF1 (by kernel_rfl) fun a1 hF1 => ?_
    refine wpList_nil ?_
    refine hK6 _ _ ?_
    refine wp_seq_k fun K9 hK9 => ?_
    refine wp_region_lit ?_
    refine sB 1 [(13, .int .i64 120)] hF1 (by kernel_rfl) fun a1 hF1 => ?_
    refine wl (eP 14 (v0 := .bool (!decide (120 = 0))) (v := .bool true) hF1 (by kernel_rfl) (fun _ => by kernel_rfl) (nF (by omega)) fun a1 hF1 => ?_)
    refine wpList_nil ?_
    refine hK9 _ _ ?_
    refine cT hF1 (by kernel_rfl) (by kernel_rfl) ?_
    refine wp_seq_k fun K10 hK10 => ?_
    refine wp_region_lit ?_
    refine sB 2 [(15, .agg #[.int .i64 0, .int .i64 0]), (16, .int .i64 120)] hF1 (by kernel_rfl) fun a1 hF1 => ?_
    refine wl (sStore (i := 6) (off := 0) (cs' := #[.int .i64 0, .int .i64 0]) hF1 hM (by kernel_rfl) rfl rfl (by kernel_rfl) (by kernel_rfl) rfl (by kernel_rfl) fun w hM => ?_)
    refine sB 1 [(7, .int .i64 120)] hF1 (by kernel_rfl) fun a1 hF1 => ?_
    refine wpList_nil ?_
    refine hK10 _ _ ?_
    refine wp_ret ?_
    refine hR3 _ _ ?_
    refine ret_of hF1 hM (.cell (i := 6) rfl rfl (v := .agg #[.int .i64 0, .int .i64 0]) (by kernel_rfl) (.tmp rfl (.nil))) ⟨_, rfl, ?_⟩
    intro a hF
    refine sB 2 [(10, .agg #[.int .i64 0, .int .i64 0]), (11, .int .i64 120)] hF (by kernel_rfl) fun a hF => ?_
    refine wl (sStore (i := 3) (off := 0) (cs' := #[.int .i64 0, .int .i64 0]) hF hM (by kernel_rfl) rfl rfl (by kernel_rfl) (by kernel_rfl) rfl (by kernel_rfl) fun w hM => ?_)
    refine sB 1 [(5, .int .i64 120)] hF (by kernel_rfl) fun a hF => ?_
    refine wpList_nil ?_
    refine hK2 _ _ ?_
    refine wp_ret ?_
    refine hR0 _ _ ?_
    refine ret_of hF hM (.cell (i := 3) rfl rfl (v := .agg #[.int .i64 0, .int .i64 0]) (by kernel_rfl) (.tmp rfl (.nil))) ?_
    exact ⟨rfl, hM.bel⟩

theorem rbAdd_ok (an ad bn bd : Int) (w0 : World) (h1 : raE an ad = 0) (h2 : raE bn bd = 0) :
    Calls Tryd.prog 17 #[.agg #[.int .i64 an, .int .i64 ad], .agg #[.int .i64 bn, .int .i64 bd]] w0 (Ret w0 (.tuple #[.agg #[.int .i64 (rmN (an * bd + bn * ad) (ad * bd)), .int .i64 (rmD (an * bd + bn * ad) (ad * bd))], .int .i64 (rmE (an * bd + bn * ad) (ad * bd))])) := by
  have g1 := raE_ok h1
  have g2 := raE_ok h2
  refine enterK 30 Tryd.func17 rfl rfl rfl ?_
  intro a hF Q0 hR0 hN0
  have hM := Mem.start w0
  have hz1 := raE_ok h1
  have hz2 := raE_ok h2
  refine wp_seq_k fun K1 hK1 => ?_
  refine wp_region_lit ?_
  refine wl (eN 2 1 (t := 23) (fun b => .pointer (some ⟨b, 0, none⟩)) #[.int .i64 an, .int .i64 ad] hF hM (by kernel_rfl) (fun _ => by kernel_rfl) fun bb1 a w hF hM => ?_)
  refine wl (eN 3 2 (t := 23) (fun b => .pointer (some ⟨b, 0, none⟩)) #[.int .i64 bn, .int .i64 bd] hF hM (by kernel_rfl) (fun _ => by kernel_rfl) fun bb2 a w hF hM => ?_)
  refine wl (eN 4 3 (t := 23) (fun b => .pointer (some ⟨b, 0, none⟩)) #[.int .i64 0, .int .i64 0] hF hM (by kernel_rfl) (fun _ => by kernel_rfl) fun bb3 a w hF hM => ?_)
  refine sB 1 [(5, .int .i64 0)] hF (by kernel_rfl) fun a hF => ?_
  refine wpList_nil ?_
  refine hK1 _ _ ?_
  refine wp_seq_k fun K2 hK2 => ?_
  refine wp_seq_k fun K3 hK3 => ?_
  refine wp_region_lit ?_
  refine wl (eL 6 1 0 (v := .agg #[.int .i64 an, .int .i64 ad]) hF hM (by kernel_rfl) rfl rfl (by kernel_rfl) (by kernel_rfl) fun a w hF hM => ?_)
  refine wl (eL 7 2 0 (v := .agg #[.int .i64 bn, .int .i64 bd]) hF hM (by kernel_rfl) rfl rfl (by kernel_rfl) (by kernel_rfl) fun a w hF hM => ?_)
  refine wl (eM 8 (v := .int .i64 0) hF hM (by kernel_rfl) (yld_call (f := 45) (args := #[.agg #[.int .i64 an, .int .i64 ad], .agg #[.int .i64 bn, .int .i64 bd]]) hF (by kernel_rfl) (fun _ => by kernel_rfl) (fun w hM => rBoth_ok an ad bn bd w h1 h2)) fun a w hF hM => ?_)
  refine wl (eP 9 (v0 := .bool (!decide (0 = 0))) (v := .bool false) hF (by kernel_rfl) (fun _ => by kernel_rfl) (nT (by omega)) fun a hF => ?_)
  refine wpList_nil ?_
  refine hK3 _ _ ?_
  refine cF hF (by kernel_rfl) (by kernel_rfl) ?_
  refine wp_skip ?_
  refine hK2 _ _ ?_
  refine wp_seq_k fun K4 hK4 => ?_
  refine wp_region_lit ?_
  refine sB 1 [(11, .pointer (some ⟨bb1, 0, none⟩))] hF (by kernel_rfl) fun a hF => ?_
  refine wl (eL 12 1 0 (v := .int .i64 an) hF hM (by kernel_rfl) rfl rfl (by kernel_rfl) (by kernel_rfl) fun a w hF hM => ?_)
  refine sB 1 [(13, .pointer (some ⟨bb2, 1, none⟩))] hF (by kernel_rfl) fun a hF => ?_
  refine wl (eL 14 2 1 (v := .int .i64 bd) hF hM (by kernel_rfl) rfl rfl (by kernel_rfl) (by kernel_rfl) fun a w hF hM => ?_)
  have hz3 : -1152921504606846976 ≤ an * bd ∧ an * bd ≤ 1152921504606846976 := mul_bd (-1073741824) (1073741824) (1) (1073741824) (by omega) (by omega) (by omega) (by omega) (by decide)
  refine wl (eP 15 (v0 := .int .i64 (IntKind.i64.wrap (an * bd))) (v := .int .i64 (an * bd)) hF (by kernel_rfl) (fun _ => by kernel_rfl) (wi (by omega)) fun a hF => ?_)
  refine sB 1 [(16, .pointer (some ⟨bb2, 0, none⟩))] hF (by kernel_rfl) fun a hF => ?_
  refine wl (eL 17 2 0 (v := .int .i64 bn) hF hM (by kernel_rfl) rfl rfl (by kernel_rfl) (by kernel_rfl) fun a w hF hM => ?_)
  refine sB 1 [(18, .pointer (some ⟨bb1, 1, none⟩))] hF (by kernel_rfl) fun a hF => ?_
  refine wl (eL 19 1 1 (v := .int .i64 ad) hF hM (by kernel_rfl) rfl rfl (by kernel_rfl) (by kernel_rfl) fun a w hF hM => ?_)
  have hz4 : -1152921504606846976 ≤ bn * ad ∧ bn * ad ≤ 1152921504606846976 := mul_bd (-1073741824) (1073741824) (1) (1073741824) (by omega) (by omega) (by omega) (by omega) (by decide)
  refine wl (eP 20 (v0 := .int .i64 (IntKind.i64.wrap (bn * ad))) (v := .int .i64 (bn * ad)) hF (by kernel_rfl) (fun _ => by kernel_rfl) (wi (by omega)) fun a hF => ?_)
  refine wl (eP 21 (v0 := .int .i64 (IntKind.i64.wrap (an * bd + bn * ad))) (v := .int .i64 (an * bd + bn * ad)) hF (by kernel_rfl) (fun _ => by kernel_rfl) (wi (by omega)) fun a hF => ?_)
  refine sB 1 [(22, .pointer (some ⟨bb1, 1, none⟩))] hF (by kernel_rfl) fun a hF => ?_
  refine wl (eL 23 1 1 (v := .int .i64 ad) hF hM (by kernel_rfl) rfl rfl (by kernel_rfl) (by kernel_rfl) fun a w hF hM => ?_)
  refine sB 1 [(24, .pointer (some ⟨bb2, 1, none⟩))] hF (by kernel_rfl) fun a hF => ?_
  refine wl (eL 25 2 1 (v := .int .i64 bd) hF hM (by kernel_rfl) rfl rfl (by kernel_rfl) (by kernel_rfl) fun a w hF hM => ?_)
  have hz5 : 1 ≤ ad * bd ∧ ad * bd ≤ 1152921504606846976 := mul_bd (1) (1073741824) (1) (1073741824) (by omega) (by omega) (by omega) (by omega) (by decide)
  refine wl (eP 26 (v0 := .int .i64 (IntKind.i64.wrap (ad * bd))) (v := .int .i64 (ad * bd)) hF (by kernel_rfl) (fun _ => by kernel_rfl) (wi (by omega)) fun a hF => ?_)
  refine wl (eM 27 (v := .tuple #[.agg #[.int .i64 (rmN (an * bd + bn * ad) (ad * bd)), .int .i64 (rmD (an * bd + bn * ad) (ad * bd))], .int .i64 (rmE (an * bd + bn * ad) (ad * bd))]) hF hM (by kernel_rfl) (yld_call (f := 11) (args := #[.int .i64 (an * bd + bn * ad), .int .i64 (ad * bd)]) hF (by kernel_rfl) (fun _ => by kernel_rfl) (fun w hM => raMakeR_w (an * bd + bn * ad) (ad * bd) w)) fun a w hF hM => ?_)
  refine sB 2 [(28, .agg #[.int .i64 (rmN (an * bd + bn * ad) (ad * bd)), .int .i64 (rmD (an * bd + bn * ad) (ad * bd))]), (29, .int .i64 (rmE (an * bd + bn * ad) (ad * bd)))] hF (by kernel_rfl) fun a hF => ?_
  refine wl (sStore (i := 3) (off := 0) (cs' := #[.int .i64 (rmN (an * bd + bn * ad) (ad * bd)), .int .i64 (rmD (an * bd + bn * ad) (ad * bd))]) hF hM (by kernel_rfl) rfl rfl (by kernel_rfl) (by kernel_rfl) rfl (by kernel_rfl) fun w hM => ?_)
  refine sB 1 [(5, .int .i64 (rmE (an * bd + bn * ad) (ad * bd)))] hF (by kernel_rfl) fun a hF => ?_
  refine wpList_nil ?_
  refine hK4 _ _ ?_
  refine wp_ret ?_
  refine hR0 _ _ ?_
  refine ret_of hF hM (.cell (i := 3) rfl rfl (v := .agg #[.int .i64 (rmN (an * bd + bn * ad) (ad * bd)), .int .i64 (rmD (an * bd + bn * ad) (ad * bd))]) (by kernel_rfl) (.tmp rfl (.nil))) ?_
  exact ⟨rfl, hM.bel⟩

theorem rbAdd_no (an ad bn bd : Int) (w0 : World) (h : ¬ (raE an ad = 0 ∧ raE bn bd = 0)) :
    Calls Tryd.prog 17 #[.agg #[.int .i64 an, .int .i64 ad], .agg #[.int .i64 bn, .int .i64 bd]] w0 (Ret w0 (.tuple #[.agg #[.int .i64 0, .int .i64 0], .int .i64 120])) := by
  refine enterK 30 Tryd.func17 rfl rfl rfl ?_
  intro a hF Q0 hR0 hN0
  have hM := Mem.start w0
  refine wp_seq_k fun K1 hK1 => ?_
  refine wp_region_lit ?_
  refine wl (eN 2 1 (t := 23) (fun b => .pointer (some ⟨b, 0, none⟩)) #[.int .i64 an, .int .i64 ad] hF hM (by kernel_rfl) (fun _ => by kernel_rfl) fun bb1 a w hF hM => ?_)
  refine wl (eN 3 2 (t := 23) (fun b => .pointer (some ⟨b, 0, none⟩)) #[.int .i64 bn, .int .i64 bd] hF hM (by kernel_rfl) (fun _ => by kernel_rfl) fun bb2 a w hF hM => ?_)
  refine wl (eN 4 3 (t := 23) (fun b => .pointer (some ⟨b, 0, none⟩)) #[.int .i64 0, .int .i64 0] hF hM (by kernel_rfl) (fun _ => by kernel_rfl) fun bb3 a w hF hM => ?_)
  refine sB 1 [(5, .int .i64 0)] hF (by kernel_rfl) fun a hF => ?_
  refine wpList_nil ?_
  refine hK1 _ _ ?_
  refine wp_seq_k fun K2 hK2 => ?_
  refine wp_seq_k fun K3 hK3 => ?_
  by_cases hz1 : raE an ad = 0
  · skip
    have hz2 := raE_ok hz1
    by_cases hz3 : raE bn bd = 0
    · skip
      have hz4 := raE_ok hz3
      exact absurd ⟨hz1, hz3⟩ h
    · skip
      refine wp_region_lit ?_
      refine wl (eL 6 1 0 (v := .agg #[.int .i64 an, .int .i64 ad]) hF hM (by kernel_rfl) rfl rfl (by kernel_rfl) (by kernel_rfl) fun a w hF hM => ?_)
      refine wl (eL 7 2 0 (v := .agg #[.int .i64 bn, .int .i64 bd]) hF hM (by kernel_rfl) rfl rfl (by kernel_rfl) (by kernel_rfl) fun a w hF hM => ?_)
      refine wl (eM 8 (v := .int .i64 120) hF hM (by kernel_rfl) (yld_call (f := 45) (args := #[.agg #[.int .i64 an, .int .i64 ad], .agg #[.int .i64 bn, .int .i64 bd]]) hF (by kernel_rfl) (fun _ => by kernel_rfl) (fun w hM => rBoth_no an ad bn bd w (fun q => hz3 q.2))) fun a w hF hM => ?_)
      refine wl (eP 9 (v0 := .bool (!decide (120 = 0))) (v := .bool true) hF (by kernel_rfl) (fun _ => by kernel_rfl) (nF (by omega)) fun a hF => ?_)
      refine wpList_nil ?_
      refine hK3 _ _ ?_
      refine cT hF (by kernel_rfl) (by kernel_rfl) ?_
      refine wp_seq_k fun K4 hK4 => ?_
      refine wp_region_lit ?_
      refine sB 1 [(10, .agg #[.int .i64 0, .int .i64 0])] hF (by kernel_rfl) fun a hF => ?_
      refine wl (sStore (i := 3) (off := 0) (cs' := #[.int .i64 0, .int .i64 0]) hF hM (by kernel_rfl) rfl rfl (by kernel_rfl) (by kernel_rfl) rfl (by kernel_rfl) fun w hM => ?_)
      refine sB 1 [(5, .int .i64 120)] hF (by kernel_rfl) fun a hF => ?_
      refine wpList_nil ?_
      refine hK4 _ _ ?_
      refine wp_ret ?_
      refine hR0 _ _ ?_
      refine ret_of hF hM (.cell (i := 3) rfl rfl (v := .agg #[.int .i64 0, .int .i64 0]) (by kernel_rfl) (.tmp rfl (.nil))) ?_
      exact ⟨rfl, hM.bel⟩
  · skip
    refine wp_region_lit ?_
    refine wl (eL 6 1 0 (v := .agg #[.int .i64 an, .int .i64 ad]) hF hM (by kernel_rfl) rfl rfl (by kernel_rfl) (by kernel_rfl) fun a w hF hM => ?_)
    refine wl (eL 7 2 0 (v := .agg #[.int .i64 bn, .int .i64 bd]) hF hM (by kernel_rfl) rfl rfl (by kernel_rfl) (by kernel_rfl) fun a w hF hM => ?_)
    refine wl (eM 8 (v := .int .i64 120) hF hM (by kernel_rfl) (yld_call (f := 45) (args := #[.agg #[.int .i64 an, .int .i64 ad], .agg #[.int .i64 bn, .int .i64 bd]]) hF (by kernel_rfl) (fun _ => by kernel_rfl) (fun w hM => rBoth_no an ad bn bd w (fun q => hz1 q.1))) fun a w hF hM => ?_)
    refine wl (eP 9 (v0 := .bool (!decide (120 = 0))) (v := .bool true) hF (by kernel_rfl) (fun _ => by kernel_rfl) (nF (by omega)) fun a hF => ?_)
    refine wpList_nil ?_
    refine hK3 _ _ ?_
    refine cT hF (by kernel_rfl) (by kernel_rfl) ?_
    refine wp_seq_k fun K5 hK5 => ?_
    refine wp_region_lit ?_
    refine sB 1 [(10, .agg #[.int .i64 0, .int .i64 0])] hF (by kernel_rfl) fun a hF => ?_
    refine wl (sStore (i := 3) (off := 0) (cs' := #[.int .i64 0, .int .i64 0]) hF hM (by kernel_rfl) rfl rfl (by kernel_rfl) (by kernel_rfl) rfl (by kernel_rfl) fun w hM => ?_)
    refine sB 1 [(5, .int .i64 120)] hF (by kernel_rfl) fun a hF => ?_
    refine wpList_nil ?_
    refine hK5 _ _ ?_
    refine wp_ret ?_
    refine hR0 _ _ ?_
    refine ret_of hF hM (.cell (i := 3) rfl rfl (v := .agg #[.int .i64 0, .int .i64 0]) (by kernel_rfl) (.tmp rfl (.nil))) ?_
    exact ⟨rfl, hM.bel⟩

theorem rbSub_ok (an ad bn bd : Int) (w0 : World) (h1 : raE an ad = 0) (h2 : raE bn bd = 0) :
    Calls Tryd.prog 19 #[.agg #[.int .i64 an, .int .i64 ad], .agg #[.int .i64 bn, .int .i64 bd]] w0 (Ret w0 (.tuple #[.agg #[.int .i64 (rmN (an * bd - bn * ad) (ad * bd)), .int .i64 (rmD (an * bd - bn * ad) (ad * bd))], .int .i64 (rmE (an * bd - bn * ad) (ad * bd))])) := by
  have g1 := raE_ok h1
  have g2 := raE_ok h2
  refine enterK 30 Tryd.func19 rfl rfl rfl ?_
  intro a hF Q0 hR0 hN0
  have hM := Mem.start w0
  have hz1 := raE_ok h1
  have hz2 := raE_ok h2
  refine wp_seq_k fun K1 hK1 => ?_
  refine wp_region_lit ?_
  refine wl (eN 2 1 (t := 23) (fun b => .pointer (some ⟨b, 0, none⟩)) #[.int .i64 an, .int .i64 ad] hF hM (by kernel_rfl) (fun _ => by kernel_rfl) fun bb1 a w hF hM => ?_)
  refine wl (eN 3 2 (t := 23) (fun b => .pointer (some ⟨b, 0, none⟩)) #[.int .i64 bn, .int .i64 bd] hF hM (by kernel_rfl) (fun _ => by kernel_rfl) fun bb2 a w hF hM => ?_)
  refine wl (eN 4 3 (t := 23) (fun b => .pointer (some ⟨b, 0, none⟩)) #[.int .i64 0, .int .i64 0] hF hM (by kernel_rfl) (fun _ => by kernel_rfl) fun bb3 a w hF hM => ?_)
  refine sB 1 [(5, .int .i64 0)] hF (by kernel_rfl) fun a hF => ?_
  refine wpList_nil ?_
  refine hK1 _ _ ?_
  refine wp_seq_k fun K2 hK2 => ?_
  refine wp_seq_k fun K3 hK3 => ?_
  refine wp_region_lit ?_
  refine wl (eL 6 1 0 (v := .agg #[.int .i64 an, .int .i64 ad]) hF hM (by kernel_rfl) rfl rfl (by kernel_rfl) (by kernel_rfl) fun a w hF hM => ?_)
  refine wl (eL 7 2 0 (v := .agg #[.int .i64 bn, .int .i64 bd]) hF hM (by kernel_rfl) rfl rfl (by kernel_rfl) (by kernel_rfl) fun a w hF hM => ?_)
  refine wl (eM 8 (v := .int .i64 0) hF hM (by kernel_rfl) (yld_call (f := 45) (args := #[.agg #[.int .i64 an, .int .i64 ad], .agg #[.int .i64 bn, .int .i64 bd]]) hF (by kernel_rfl) (fun _ => by kernel_rfl) (fun w hM => rBoth_ok an ad bn bd w h1 h2)) fun a w hF hM => ?_)
  refine wl (eP 9 (v0 := .bool (!decide (0 = 0))) (v := .bool false) hF (by kernel_rfl) (fun _ => by kernel_rfl) (nT (by omega)) fun a hF => ?_)
  refine wpList_nil ?_
  refine hK3 _ _ ?_
  refine cF hF (by kernel_rfl) (by kernel_rfl) ?_
  refine wp_skip ?_
  refine hK2 _ _ ?_
  refine wp_seq_k fun K4 hK4 => ?_
  refine wp_region_lit ?_
  refine sB 1 [(11, .pointer (some ⟨bb1, 0, none⟩))] hF (by kernel_rfl) fun a hF => ?_
  refine wl (eL 12 1 0 (v := .int .i64 an) hF hM (by kernel_rfl) rfl rfl (by kernel_rfl) (by kernel_rfl) fun a w hF hM => ?_)
  refine sB 1 [(13, .pointer (some ⟨bb2, 1, none⟩))] hF (by kernel_rfl) fun a hF => ?_
  refine wl (eL 14 2 1 (v := .int .i64 bd) hF hM (by kernel_rfl) rfl rfl (by kernel_rfl) (by kernel_rfl) fun a w hF hM => ?_)
  have hz3 : -1152921504606846976 ≤ an * bd ∧ an * bd ≤ 1152921504606846976 := mul_bd (-1073741824) (1073741824) (1) (1073741824) (by omega) (by omega) (by omega) (by omega) (by decide)
  refine wl (eP 15 (v0 := .int .i64 (IntKind.i64.wrap (an * bd))) (v := .int .i64 (an * bd)) hF (by kernel_rfl) (fun _ => by kernel_rfl) (wi (by omega)) fun a hF => ?_)
  refine sB 1 [(16, .pointer (some ⟨bb2, 0, none⟩))] hF (by kernel_rfl) fun a hF => ?_
  refine wl (eL 17 2 0 (v := .int .i64 bn) hF hM (by kernel_rfl) rfl rfl (by kernel_rfl) (by kernel_rfl) fun a w hF hM => ?_)
  refine sB 1 [(18, .pointer (some ⟨bb1, 1, none⟩))] hF (by kernel_rfl) fun a hF => ?_
  refine wl (eL 19 1 1 (v := .int .i64 ad) hF hM (by kernel_rfl) rfl rfl (by kernel_rfl) (by kernel_rfl) fun a w hF hM => ?_)
  have hz4 : -1152921504606846976 ≤ bn * ad ∧ bn * ad ≤ 1152921504606846976 := mul_bd (-1073741824) (1073741824) (1) (1073741824) (by omega) (by omega) (by omega) (by omega) (by decide)
  refine wl (eP 20 (v0 := .int .i64 (IntKind.i64.wrap (bn * ad))) (v := .int .i64 (bn * ad)) hF (by kernel_rfl) (fun _ => by kernel_rfl) (wi (by omega)) fun a hF => ?_)
  refine wl (eP 21 (v0 := .int .i64 (IntKind.i64.wrap (an * bd - bn * ad))) (v := .int .i64 (an * bd - bn * ad)) hF (by kernel_rfl) (fun _ => by kernel_rfl) (wi (by omega)) fun a hF => ?_)
  refine sB 1 [(22, .pointer (some ⟨bb1, 1, none⟩))] hF (by kernel_rfl) fun a hF => ?_
  refine wl (eL 23 1 1 (v := .int .i64 ad) hF hM (by kernel_rfl) rfl rfl (by kernel_rfl) (by kernel_rfl) fun a w hF hM => ?_)
  refine sB 1 [(24, .pointer (some ⟨bb2, 1, none⟩))] hF (by kernel_rfl) fun a hF => ?_
  refine wl (eL 25 2 1 (v := .int .i64 bd) hF hM (by kernel_rfl) rfl rfl (by kernel_rfl) (by kernel_rfl) fun a w hF hM => ?_)
  have hz5 : 1 ≤ ad * bd ∧ ad * bd ≤ 1152921504606846976 := mul_bd (1) (1073741824) (1) (1073741824) (by omega) (by omega) (by omega) (by omega) (by decide)
  refine wl (eP 26 (v0 := .int .i64 (IntKind.i64.wrap (ad * bd))) (v := .int .i64 (ad * bd)) hF (by kernel_rfl) (fun _ => by kernel_rfl) (wi (by omega)) fun a hF => ?_)
  refine wl (eM 27 (v := .tuple #[.agg #[.int .i64 (rmN (an * bd - bn * ad) (ad * bd)), .int .i64 (rmD (an * bd - bn * ad) (ad * bd))], .int .i64 (rmE (an * bd - bn * ad) (ad * bd))]) hF hM (by kernel_rfl) (yld_call (f := 11) (args := #[.int .i64 (an * bd - bn * ad), .int .i64 (ad * bd)]) hF (by kernel_rfl) (fun _ => by kernel_rfl) (fun w hM => raMakeR_w (an * bd - bn * ad) (ad * bd) w)) fun a w hF hM => ?_)
  refine sB 2 [(28, .agg #[.int .i64 (rmN (an * bd - bn * ad) (ad * bd)), .int .i64 (rmD (an * bd - bn * ad) (ad * bd))]), (29, .int .i64 (rmE (an * bd - bn * ad) (ad * bd)))] hF (by kernel_rfl) fun a hF => ?_
  refine wl (sStore (i := 3) (off := 0) (cs' := #[.int .i64 (rmN (an * bd - bn * ad) (ad * bd)), .int .i64 (rmD (an * bd - bn * ad) (ad * bd))]) hF hM (by kernel_rfl) rfl rfl (by kernel_rfl) (by kernel_rfl) rfl (by kernel_rfl) fun w hM => ?_)
  refine sB 1 [(5, .int .i64 (rmE (an * bd - bn * ad) (ad * bd)))] hF (by kernel_rfl) fun a hF => ?_
  refine wpList_nil ?_
  refine hK4 _ _ ?_
  refine wp_ret ?_
  refine hR0 _ _ ?_
  refine ret_of hF hM (.cell (i := 3) rfl rfl (v := .agg #[.int .i64 (rmN (an * bd - bn * ad) (ad * bd)), .int .i64 (rmD (an * bd - bn * ad) (ad * bd))]) (by kernel_rfl) (.tmp rfl (.nil))) ?_
  exact ⟨rfl, hM.bel⟩

theorem rbSub_no (an ad bn bd : Int) (w0 : World) (h : ¬ (raE an ad = 0 ∧ raE bn bd = 0)) :
    Calls Tryd.prog 19 #[.agg #[.int .i64 an, .int .i64 ad], .agg #[.int .i64 bn, .int .i64 bd]] w0 (Ret w0 (.tuple #[.agg #[.int .i64 0, .int .i64 0], .int .i64 120])) := by
  refine enterK 30 Tryd.func19 rfl rfl rfl ?_
  intro a hF Q0 hR0 hN0
  have hM := Mem.start w0
  refine wp_seq_k fun K1 hK1 => ?_
  refine wp_region_lit ?_
  refine wl (eN 2 1 (t := 23) (fun b => .pointer (some ⟨b, 0, none⟩)) #[.int .i64 an, .int .i64 ad] hF hM (by kernel_rfl) (fun _ => by kernel_rfl) fun bb1 a w hF hM => ?_)
  refine wl (eN 3 2 (t := 23) (fun b => .pointer (some ⟨b, 0, none⟩)) #[.int .i64 bn, .int .i64 bd] hF hM (by kernel_rfl) (fun _ => by kernel_rfl) fun bb2 a w hF hM => ?_)
  refine wl (eN 4 3 (t := 23) (fun b => .pointer (some ⟨b, 0, none⟩)) #[.int .i64 0, .int .i64 0] hF hM (by kernel_rfl) (fun _ => by kernel_rfl) fun bb3 a w hF hM => ?_)
  refine sB 1 [(5, .int .i64 0)] hF (by kernel_rfl) fun a hF => ?_
  refine wpList_nil ?_
  refine hK1 _ _ ?_
  refine wp_seq_k fun K2 hK2 => ?_
  refine wp_seq_k fun K3 hK3 => ?_
  by_cases hz1 : raE an ad = 0
  · skip
    have hz2 := raE_ok hz1
    by_cases hz3 : raE bn bd = 0
    · skip
      have hz4 := raE_ok hz3
      exact absurd ⟨hz1, hz3⟩ h
    · skip
      refine wp_region_lit ?_
      refine wl (eL 6 1 0 (v := .agg #[.int .i64 an, .int .i64 ad]) hF hM (by kernel_rfl) rfl rfl (by kernel_rfl) (by kernel_rfl) fun a w hF hM => ?_)
      refine wl (eL 7 2 0 (v := .agg #[.int .i64 bn, .int .i64 bd]) hF hM (by kernel_rfl) rfl rfl (by kernel_rfl) (by kernel_rfl) fun a w hF hM => ?_)
      refine wl (eM 8 (v := .int .i64 120) hF hM (by kernel_rfl) (yld_call (f := 45) (args := #[.agg #[.int .i64 an, .int .i64 ad], .agg #[.int .i64 bn, .int .i64 bd]]) hF (by kernel_rfl) (fun _ => by kernel_rfl) (fun w hM => rBoth_no an ad bn bd w (fun q => hz3 q.2))) fun a w hF hM => ?_)
      refine wl (eP 9 (v0 := .bool (!decide (120 = 0))) (v := .bool true) hF (by kernel_rfl) (fun _ => by kernel_rfl) (nF (by omega)) fun a hF => ?_)
      refine wpList_nil ?_
      refine hK3 _ _ ?_
      refine cT hF (by kernel_rfl) (by kernel_rfl) ?_
      refine wp_seq_k fun K4 hK4 => ?_
      refine wp_region_lit ?_
      refine sB 1 [(10, .agg #[.int .i64 0, .int .i64 0])] hF (by kernel_rfl) fun a hF => ?_
      refine wl (sStore (i := 3) (off := 0) (cs' := #[.int .i64 0, .int .i64 0]) hF hM (by kernel_rfl) rfl rfl (by kernel_rfl) (by kernel_rfl) rfl (by kernel_rfl) fun w hM => ?_)
      refine sB 1 [(5, .int .i64 120)] hF (by kernel_rfl) fun a hF => ?_
      refine wpList_nil ?_
      refine hK4 _ _ ?_
      refine wp_ret ?_
      refine hR0 _ _ ?_
      refine ret_of hF hM (.cell (i := 3) rfl rfl (v := .agg #[.int .i64 0, .int .i64 0]) (by kernel_rfl) (.tmp rfl (.nil))) ?_
      exact ⟨rfl, hM.bel⟩
  · skip
    refine wp_region_lit ?_
    refine wl (eL 6 1 0 (v := .agg #[.int .i64 an, .int .i64 ad]) hF hM (by kernel_rfl) rfl rfl (by kernel_rfl) (by kernel_rfl) fun a w hF hM => ?_)
    refine wl (eL 7 2 0 (v := .agg #[.int .i64 bn, .int .i64 bd]) hF hM (by kernel_rfl) rfl rfl (by kernel_rfl) (by kernel_rfl) fun a w hF hM => ?_)
    refine wl (eM 8 (v := .int .i64 120) hF hM (by kernel_rfl) (yld_call (f := 45) (args := #[.agg #[.int .i64 an, .int .i64 ad], .agg #[.int .i64 bn, .int .i64 bd]]) hF (by kernel_rfl) (fun _ => by kernel_rfl) (fun w hM => rBoth_no an ad bn bd w (fun q => hz1 q.1))) fun a w hF hM => ?_)
    refine wl (eP 9 (v0 := .bool (!decide (120 = 0))) (v := .bool true) hF (by kernel_rfl) (fun _ => by kernel_rfl) (nF (by omega)) fun a hF => ?_)
    refine wpList_nil ?_
    refine hK3 _ _ ?_
    refine cT hF (by kernel_rfl) (by kernel_rfl) ?_
    refine wp_seq_k fun K5 hK5 => ?_
    refine wp_region_lit ?_
    refine sB 1 [(10, .agg #[.int .i64 0, .int .i64 0])] hF (by kernel_rfl) fun a hF => ?_
    refine wl (sStore (i := 3) (off := 0) (cs' := #[.int .i64 0, .int .i64 0]) hF hM (by kernel_rfl) rfl rfl (by kernel_rfl) (by kernel_rfl) rfl (by kernel_rfl) fun w hM => ?_)
    refine sB 1 [(5, .int .i64 120)] hF (by kernel_rfl) fun a hF => ?_
    refine wpList_nil ?_
    refine hK5 _ _ ?_
    refine wp_ret ?_
    refine hR0 _ _ ?_
    refine ret_of hF hM (.cell (i := 3) rfl rfl (v := .agg #[.int .i64 0, .int .i64 0]) (by kernel_rfl) (.tmp rfl (.nil))) ?_
    exact ⟨rfl, hM.bel⟩

theorem rbMul_ok (an ad bn bd : Int) (w0 : World) (h1 : raE an ad = 0) (h2 : raE bn bd = 0) :
    Calls Tryd.prog 21 #[.agg #[.int .i64 an, .int .i64 ad], .agg #[.int .i64 bn, .int .i64 bd]] w0 (Ret w0 (.tuple #[.agg #[.int .i64 (rmN (an * bn) (ad * bd)), .int .i64 (rmD (an * bn) (ad * bd))], .int .i64 (rmE (an * bn) (ad * bd))])) := by
  have g1 := raE_ok h1
  have g2 := raE_ok h2
  refine enterK 24 Tryd.func21 rfl rfl rfl ?_
  intro a hF Q0 hR0 hN0
  have hM := Mem.start w0
  have hz1 := raE_ok h1
  have hz2 := raE_ok h2
  refine wp_seq_k fun K1 hK1 => ?_
  refine wp_region_lit ?_
  refine wl (eN 2 1 (t := 23) (fun b => .pointer (some ⟨b, 0, none⟩)) #[.int .i64 an, .int .i64 ad] hF hM (by kernel_rfl) (fun _ => by kernel_rfl) fun bb1 a w hF hM => ?_)
  refine wl (eN 3 2 (t := 23) (fun b => .pointer (some ⟨b, 0, none⟩)) #[.int .i64 bn, .int .i64 bd] hF hM (by kernel_rfl) (fun _ => by kernel_rfl) fun bb2 a w hF hM => ?_)
  refine wl (eN 4 3 (t := 23) (fun b => .pointer (some ⟨b, 0, none⟩)) #[.int .i64 0, .int .i64 0] hF hM (by kernel_rfl) (fun _ => by kernel_rfl) fun bb3 a w hF hM => ?_)
  refine sB 1 [(5, .int .i64 0)] hF (by kernel_rfl) fun a hF => ?_
  refine wpList_nil ?_
  refine hK1 _ _ ?_
  refine wp_seq_k fun K2 hK2 => ?_
  refine wp_seq_k fun K3 hK3 => ?_
  refine wp_region_lit ?_
  refine wl (eL 6 1 0 (v := .agg #[.int .i64 an, .int .i64 ad]) hF hM (by kernel_rfl) rfl rfl (by kernel_rfl) (by kernel_rfl) fun a w hF hM => ?_)
  refine wl (eL 7 2 0 (v := .agg #[.int .i64 bn, .int .i64 bd]) hF hM (by kernel_rfl) rfl rfl (by kernel_rfl) (by kernel_rfl) fun a w hF hM => ?_)
  refine wl (eM 8 (v := .int .i64 0) hF hM (by kernel_rfl) (yld_call (f := 45) (args := #[.agg #[.int .i64 an, .int .i64 ad], .agg #[.int .i64 bn, .int .i64 bd]]) hF (by kernel_rfl) (fun _ => by kernel_rfl) (fun w hM => rBoth_ok an ad bn bd w h1 h2)) fun a w hF hM => ?_)
  refine wl (eP 9 (v0 := .bool (!decide (0 = 0))) (v := .bool false) hF (by kernel_rfl) (fun _ => by kernel_rfl) (nT (by omega)) fun a hF => ?_)
  refine wpList_nil ?_
  refine hK3 _ _ ?_
  refine cF hF (by kernel_rfl) (by kernel_rfl) ?_
  refine wp_skip ?_
  refine hK2 _ _ ?_
  refine wp_seq_k fun K4 hK4 => ?_
  refine wp_region_lit ?_
  refine sB 1 [(11, .pointer (some ⟨bb1, 0, none⟩))] hF (by kernel_rfl) fun a hF => ?_
  refine wl (eL 12 1 0 (v := .int .i64 an) hF hM (by kernel_rfl) rfl rfl (by kernel_rfl) (by kernel_rfl) fun a w hF hM => ?_)
  refine sB 1 [(13, .pointer (some ⟨bb2, 0, none⟩))] hF (by kernel_rfl) fun a hF => ?_
  refine wl (eL 14 2 0 (v := .int .i64 bn) hF hM (by kernel_rfl) rfl rfl (by kernel_rfl) (by kernel_rfl) fun a w hF hM => ?_)
  have hz3 : -1152921504606846976 ≤ an * bn ∧ an * bn ≤ 1152921504606846976 := mul_bd (-1073741824) (1073741824) (-1073741824) (1073741824) (by omega) (by omega) (by omega) (by omega) (by decide)
  refine wl (eP 15 (v0 := .int .i64 (IntKind.i64.wrap (an * bn))) (v := .int .i64 (an * bn)) hF (by kernel_rfl) (fun _ => by kernel_rfl) (wi (by omega)) fun a hF => ?_)
  refine sB 1 [(16, .pointer (some ⟨bb1, 1, none⟩))] hF (by kernel_rfl) fun a hF => ?_
  refine wl (eL 17 1 1 (v := .int .i64 ad) hF hM (by kernel_rfl) rfl rfl (by kernel_rfl) (by kernel_rfl) fun a w hF hM => ?_)
  refine sB 1 [(18, .pointer (some ⟨bb2, 1, none⟩))] hF (by kernel_rfl) fun a hF => ?_
  refine wl (eL 19 2 1 (v := .int .i64 bd) hF hM (by kernel_rfl) rfl rfl (by kernel_rfl) (by kernel_rfl) fun a w hF hM => ?_)
  have hz4 : 1 ≤ ad * bd ∧ ad * bd ≤ 1152921504606846976 := mul_bd (1) (1073741824) (1) (1073741824) (by omega) (by omega) (by omega) (by omega) (by decide)
  refine wl (eP 20 (v0 := .int .i64 (IntKind.i64.wrap (ad * bd))) (v := .int .i64 (ad * bd)) hF (by kernel_rfl) (fun _ => by kernel_rfl) (wi (by omega)) fun a hF => ?_)
  refine wl (eM 21 (v := .tuple #[.agg #[.int .i64 (rmN (an * bn) (ad * bd)), .int .i64 (rmD (an * bn) (ad * bd))], .int .i64 (rmE (an * bn) (ad * bd))]) hF hM (by kernel_rfl) (yld_call (f := 11) (args := #[.int .i64 (an * bn), .int .i64 (ad * bd)]) hF (by kernel_rfl) (fun _ => by kernel_rfl) (fun w hM => raMakeR_w (an * bn) (ad * bd) w)) fun a w hF hM => ?_)
  refine sB 2 [(22, .agg #[.int .i64 (rmN (an * bn) (ad * bd)), .int .i64 (rmD (an * bn) (ad * bd))]), (23, .int .i64 (rmE (an * bn) (ad * bd)))] hF (by kernel_rfl) fun a hF => ?_
  refine wl (sStore (i := 3) (off := 0) (cs' := #[.int .i64 (rmN (an * bn) (ad * bd)), .int .i64 (rmD (an * bn) (ad * bd))]) hF hM (by kernel_rfl) rfl rfl (by kernel_rfl) (by kernel_rfl) rfl (by kernel_rfl) fun w hM => ?_)
  refine sB 1 [(5, .int .i64 (rmE (an * bn) (ad * bd)))] hF (by kernel_rfl) fun a hF => ?_
  refine wpList_nil ?_
  refine hK4 _ _ ?_
  refine wp_ret ?_
  refine hR0 _ _ ?_
  refine ret_of hF hM (.cell (i := 3) rfl rfl (v := .agg #[.int .i64 (rmN (an * bn) (ad * bd)), .int .i64 (rmD (an * bn) (ad * bd))]) (by kernel_rfl) (.tmp rfl (.nil))) ?_
  exact ⟨rfl, hM.bel⟩

theorem rbMul_no (an ad bn bd : Int) (w0 : World) (h : ¬ (raE an ad = 0 ∧ raE bn bd = 0)) :
    Calls Tryd.prog 21 #[.agg #[.int .i64 an, .int .i64 ad], .agg #[.int .i64 bn, .int .i64 bd]] w0 (Ret w0 (.tuple #[.agg #[.int .i64 0, .int .i64 0], .int .i64 120])) := by
  refine enterK 24 Tryd.func21 rfl rfl rfl ?_
  intro a hF Q0 hR0 hN0
  have hM := Mem.start w0
  refine wp_seq_k fun K1 hK1 => ?_
  refine wp_region_lit ?_
  refine wl (eN 2 1 (t := 23) (fun b => .pointer (some ⟨b, 0, none⟩)) #[.int .i64 an, .int .i64 ad] hF hM (by kernel_rfl) (fun _ => by kernel_rfl) fun bb1 a w hF hM => ?_)
  refine wl (eN 3 2 (t := 23) (fun b => .pointer (some ⟨b, 0, none⟩)) #[.int .i64 bn, .int .i64 bd] hF hM (by kernel_rfl) (fun _ => by kernel_rfl) fun bb2 a w hF hM => ?_)
  refine wl (eN 4 3 (t := 23) (fun b => .pointer (some ⟨b, 0, none⟩)) #[.int .i64 0, .int .i64 0] hF hM (by kernel_rfl) (fun _ => by kernel_rfl) fun bb3 a w hF hM => ?_)
  refine sB 1 [(5, .int .i64 0)] hF (by kernel_rfl) fun a hF => ?_
  refine wpList_nil ?_
  refine hK1 _ _ ?_
  refine wp_seq_k fun K2 hK2 => ?_
  refine wp_seq_k fun K3 hK3 => ?_
  by_cases hz1 : raE an ad = 0
  · skip
    have hz2 := raE_ok hz1
    by_cases hz3 : raE bn bd = 0
    · skip
      have hz4 := raE_ok hz3
      exact absurd ⟨hz1, hz3⟩ h
    · skip
      refine wp_region_lit ?_
      refine wl (eL 6 1 0 (v := .agg #[.int .i64 an, .int .i64 ad]) hF hM (by kernel_rfl) rfl rfl (by kernel_rfl) (by kernel_rfl) fun a w hF hM => ?_)
      refine wl (eL 7 2 0 (v := .agg #[.int .i64 bn, .int .i64 bd]) hF hM (by kernel_rfl) rfl rfl (by kernel_rfl) (by kernel_rfl) fun a w hF hM => ?_)
      refine wl (eM 8 (v := .int .i64 120) hF hM (by kernel_rfl) (yld_call (f := 45) (args := #[.agg #[.int .i64 an, .int .i64 ad], .agg #[.int .i64 bn, .int .i64 bd]]) hF (by kernel_rfl) (fun _ => by kernel_rfl) (fun w hM => rBoth_no an ad bn bd w (fun q => hz3 q.2))) fun a w hF hM => ?_)
      refine wl (eP 9 (v0 := .bool (!decide (120 = 0))) (v := .bool true) hF (by kernel_rfl) (fun _ => by kernel_rfl) (nF (by omega)) fun a hF => ?_)
      refine wpList_nil ?_
      refine hK3 _ _ ?_
      refine cT hF (by kernel_rfl) (by kernel_rfl) ?_
      refine wp_seq_k fun K4 hK4 => ?_
      refine wp_region_lit ?_
      refine sB 1 [(10, .agg #[.int .i64 0, .int .i64 0])] hF (by kernel_rfl) fun a hF => ?_
      refine wl (sStore (i := 3) (off := 0) (cs' := #[.int .i64 0, .int .i64 0]) hF hM (by kernel_rfl) rfl rfl (by kernel_rfl) (by kernel_rfl) rfl (by kernel_rfl) fun w hM => ?_)
      refine sB 1 [(5, .int .i64 120)] hF (by kernel_rfl) fun a hF => ?_
      refine wpList_nil ?_
      refine hK4 _ _ ?_
      refine wp_ret ?_
      refine hR0 _ _ ?_
      refine ret_of hF hM (.cell (i := 3) rfl rfl (v := .agg #[.int .i64 0, .int .i64 0]) (by kernel_rfl) (.tmp rfl (.nil))) ?_
      exact ⟨rfl, hM.bel⟩
  · skip
    refine wp_region_lit ?_
    refine wl (eL 6 1 0 (v := .agg #[.int .i64 an, .int .i64 ad]) hF hM (by kernel_rfl) rfl rfl (by kernel_rfl) (by kernel_rfl) fun a w hF hM => ?_)
    refine wl (eL 7 2 0 (v := .agg #[.int .i64 bn, .int .i64 bd]) hF hM (by kernel_rfl) rfl rfl (by kernel_rfl) (by kernel_rfl) fun a w hF hM => ?_)
    refine wl (eM 8 (v := .int .i64 120) hF hM (by kernel_rfl) (yld_call (f := 45) (args := #[.agg #[.int .i64 an, .int .i64 ad], .agg #[.int .i64 bn, .int .i64 bd]]) hF (by kernel_rfl) (fun _ => by kernel_rfl) (fun w hM => rBoth_no an ad bn bd w (fun q => hz1 q.1))) fun a w hF hM => ?_)
    refine wl (eP 9 (v0 := .bool (!decide (120 = 0))) (v := .bool true) hF (by kernel_rfl) (fun _ => by kernel_rfl) (nF (by omega)) fun a hF => ?_)
    refine wpList_nil ?_
    refine hK3 _ _ ?_
    refine cT hF (by kernel_rfl) (by kernel_rfl) ?_
    refine wp_seq_k fun K5 hK5 => ?_
    refine wp_region_lit ?_
    refine sB 1 [(10, .agg #[.int .i64 0, .int .i64 0])] hF (by kernel_rfl) fun a hF => ?_
    refine wl (sStore (i := 3) (off := 0) (cs' := #[.int .i64 0, .int .i64 0]) hF hM (by kernel_rfl) rfl rfl (by kernel_rfl) (by kernel_rfl) rfl (by kernel_rfl) fun w hM => ?_)
    refine sB 1 [(5, .int .i64 120)] hF (by kernel_rfl) fun a hF => ?_
    refine wpList_nil ?_
    refine hK5 _ _ ?_
    refine wp_ret ?_
    refine hR0 _ _ ?_
    refine ret_of hF hM (.cell (i := 3) rfl rfl (v := .agg #[.int .i64 0, .int .i64 0]) (by kernel_rfl) (.tmp rfl (.nil))) ?_
    exact ⟨rfl, hM.bel⟩

theorem rbDiv_ok (an ad bn bd : Int) (w0 : World) (h1 : raE an ad = 0) (h2 : raE bn bd = 0) :
    Calls Tryd.prog 23 #[.agg #[.int .i64 an, .int .i64 ad], .agg #[.int .i64 bn, .int .i64 bd]] w0 (Ret w0 (.tuple #[.agg #[.int .i64 (rmN (an * bd) (ad * bn)), .int .i64 (rmD (an * bd) (ad * bn))], .int .i64 (rmE (an * bd) (ad * bn))])) := by
  have g1 := raE_ok h1
  have g2 := raE_ok h2
  refine enterK 24 Tryd.func23 rfl rfl rfl ?_
  intro a hF Q0 hR0 hN0
  have hM := Mem.start w0
  have hz1 := raE_ok h1
  have hz2 := raE_ok h2
  refine wp_seq_k fun K1 hK1 => ?_
  refine wp_region_lit ?_
  refine wl (eN 2 1 (t := 23) (fun b => .pointer (some ⟨b, 0, none⟩)) #[.int .i64 an, .int .i64 ad] hF hM (by kernel_rfl) (fun _ => by kernel_rfl) fun bb1 a w hF hM => ?_)
  refine wl (eN 3 2 (t := 23) (fun b => .pointer (some ⟨b, 0, none⟩)) #[.int .i64 bn, .int .i64 bd] hF hM (by kernel_rfl) (fun _ => by kernel_rfl) fun bb2 a w hF hM => ?_)
  refine wl (eN 4 3 (t := 23) (fun b => .pointer (some ⟨b, 0, none⟩)) #[.int .i64 0, .int .i64 0] hF hM (by kernel_rfl) (fun _ => by kernel_rfl) fun bb3 a w hF hM => ?_)
  refine sB 1 [(5, .int .i64 0)] hF (by kernel_rfl) fun a hF => ?_
  refine wpList_nil ?_
  refine hK1 _ _ ?_
  refine wp_seq_k fun K2 hK2 => ?_
  refine wp_seq_k fun K3 hK3 => ?_
  refine wp_region_lit ?_
  refine wl (eL 6 1 0 (v := .agg #[.int .i64 an, .int .i64 ad]) hF hM (by kernel_rfl) rfl rfl (by kernel_rfl) (by kernel_rfl) fun a w hF hM => ?_)
  refine wl (eL 7 2 0 (v := .agg #[.int .i64 bn, .int .i64 bd]) hF hM (by kernel_rfl) rfl rfl (by kernel_rfl) (by kernel_rfl) fun a w hF hM => ?_)
  refine wl (eM 8 (v := .int .i64 0) hF hM (by kernel_rfl) (yld_call (f := 45) (args := #[.agg #[.int .i64 an, .int .i64 ad], .agg #[.int .i64 bn, .int .i64 bd]]) hF (by kernel_rfl) (fun _ => by kernel_rfl) (fun w hM => rBoth_ok an ad bn bd w h1 h2)) fun a w hF hM => ?_)
  refine wl (eP 9 (v0 := .bool (!decide (0 = 0))) (v := .bool false) hF (by kernel_rfl) (fun _ => by kernel_rfl) (nT (by omega)) fun a hF => ?_)
  refine wpList_nil ?_
  refine hK3 _ _ ?_
  refine cF hF (by kernel_rfl) (by kernel_rfl) ?_
  refine wp_skip ?_
  refine hK2 _ _ ?_
  refine wp_seq_k fun K4 hK4 => ?_
  refine wp_region_lit ?_
  refine sB 1 [(11, .pointer (some ⟨bb1, 0, none⟩))] hF (by kernel_rfl) fun a hF => ?_
  refine wl (eL 12 1 0 (v := .int .i64 an) hF hM (by kernel_rfl) rfl rfl (by kernel_rfl) (by kernel_rfl) fun a w hF hM => ?_)
  refine sB 1 [(13, .pointer (some ⟨bb2, 1, none⟩))] hF (by kernel_rfl) fun a hF => ?_
  refine wl (eL 14 2 1 (v := .int .i64 bd) hF hM (by kernel_rfl) rfl rfl (by kernel_rfl) (by kernel_rfl) fun a w hF hM => ?_)
  have hz3 : -1152921504606846976 ≤ an * bd ∧ an * bd ≤ 1152921504606846976 := mul_bd (-1073741824) (1073741824) (1) (1073741824) (by omega) (by omega) (by omega) (by omega) (by decide)
  refine wl (eP 15 (v0 := .int .i64 (IntKind.i64.wrap (an * bd))) (v := .int .i64 (an * bd)) hF (by kernel_rfl) (fun _ => by kernel_rfl) (wi (by omega)) fun a hF => ?_)
  refine sB 1 [(16, .pointer (some ⟨bb1, 1, none⟩))] hF (by kernel_rfl) fun a hF => ?_
  refine wl (eL 17 1 1 (v := .int .i64 ad) hF hM (by kernel_rfl) rfl rfl (by kernel_rfl) (by kernel_rfl) fun a w hF hM => ?_)
  refine sB 1 [(18, .pointer (some ⟨bb2, 0, none⟩))] hF (by kernel_rfl) fun a hF => ?_
  refine wl (eL 19 2 0 (v := .int .i64 bn) hF hM (by kernel_rfl) rfl rfl (by kernel_rfl) (by kernel_rfl) fun a w hF hM => ?_)
  have hz4 : -1152921504606846976 ≤ ad * bn ∧ ad * bn ≤ 1152921504606846976 := mul_bd (1) (1073741824) (-1073741824) (1073741824) (by omega) (by omega) (by omega) (by omega) (by decide)
  refine wl (eP 20 (v0 := .int .i64 (IntKind.i64.wrap (ad * bn))) (v := .int .i64 (ad * bn)) hF (by kernel_rfl) (fun _ => by kernel_rfl) (wi (by omega)) fun a hF => ?_)
  refine wl (eM 21 (v := .tuple #[.agg #[.int .i64 (rmN (an * bd) (ad * bn)), .int .i64 (rmD (an * bd) (ad * bn))], .int .i64 (rmE (an * bd) (ad * bn))]) hF hM (by kernel_rfl) (yld_call (f := 11) (args := #[.int .i64 (an * bd), .int .i64 (ad * bn)]) hF (by kernel_rfl) (fun _ => by kernel_rfl) (fun w hM => raMakeR_w (an * bd) (ad * bn) w)) fun a w hF hM => ?_)
  refine sB 2 [(22, .agg #[.int .i64 (rmN (an * bd) (ad * bn)), .int .i64 (rmD (an * bd) (ad * bn))]), (23, .int .i64 (rmE (an * bd) (ad * bn)))] hF (by kernel_rfl) fun a hF => ?_
  refine wl (sStore (i := 3) (off := 0) (cs' := #[.int .i64 (rmN (an * bd) (ad * bn)), .int .i64 (rmD (an * bd) (ad * bn))]) hF hM (by kernel_rfl) rfl rfl (by kernel_rfl) (by kernel_rfl) rfl (by kernel_rfl) fun w hM => ?_)
  refine sB 1 [(5, .int .i64 (rmE (an * bd) (ad * bn)))] hF (by kernel_rfl) fun a hF => ?_
  refine wpList_nil ?_
  refine hK4 _ _ ?_
  refine wp_ret ?_
  refine hR0 _ _ ?_
  refine ret_of hF hM (.cell (i := 3) rfl rfl (v := .agg #[.int .i64 (rmN (an * bd) (ad * bn)), .int .i64 (rmD (an * bd) (ad * bn))]) (by kernel_rfl) (.tmp rfl (.nil))) ?_
  exact ⟨rfl, hM.bel⟩

theorem rbDiv_no (an ad bn bd : Int) (w0 : World) (h : ¬ (raE an ad = 0 ∧ raE bn bd = 0)) :
    Calls Tryd.prog 23 #[.agg #[.int .i64 an, .int .i64 ad], .agg #[.int .i64 bn, .int .i64 bd]] w0 (Ret w0 (.tuple #[.agg #[.int .i64 0, .int .i64 0], .int .i64 120])) := by
  refine enterK 24 Tryd.func23 rfl rfl rfl ?_
  intro a hF Q0 hR0 hN0
  have hM := Mem.start w0
  refine wp_seq_k fun K1 hK1 => ?_
  refine wp_region_lit ?_
  refine wl (eN 2 1 (t := 23) (fun b => .pointer (some ⟨b, 0, none⟩)) #[.int .i64 an, .int .i64 ad] hF hM (by kernel_rfl) (fun _ => by kernel_rfl) fun bb1 a w hF hM => ?_)
  refine wl (eN 3 2 (t := 23) (fun b => .pointer (some ⟨b, 0, none⟩)) #[.int .i64 bn, .int .i64 bd] hF hM (by kernel_rfl) (fun _ => by kernel_rfl) fun bb2 a w hF hM => ?_)
  refine wl (eN 4 3 (t := 23) (fun b => .pointer (some ⟨b, 0, none⟩)) #[.int .i64 0, .int .i64 0] hF hM (by kernel_rfl) (fun _ => by kernel_rfl) fun bb3 a w hF hM => ?_)
  refine sB 1 [(5, .int .i64 0)] hF (by kernel_rfl) fun a hF => ?_
  refine wpList_nil ?_
  refine hK1 _ _ ?_
  refine wp_seq_k fun K2 hK2 => ?_
  refine wp_seq_k fun K3 hK3 => ?_
  by_cases hz1 : raE an ad = 0
  · skip
    have hz2 := raE_ok hz1
    by_cases hz3 : raE bn bd = 0
    · skip
      have hz4 := raE_ok hz3
      exact absurd ⟨hz1, hz3⟩ h
    · skip
      refine wp_region_lit ?_
      refine wl (eL 6 1 0 (v := .agg #[.int .i64 an, .int .i64 ad]) hF hM (by kernel_rfl) rfl rfl (by kernel_rfl) (by kernel_rfl) fun a w hF hM => ?_)
      refine wl (eL 7 2 0 (v := .agg #[.int .i64 bn, .int .i64 bd]) hF hM (by kernel_rfl) rfl rfl (by kernel_rfl) (by kernel_rfl) fun a w hF hM => ?_)
      refine wl (eM 8 (v := .int .i64 120) hF hM (by kernel_rfl) (yld_call (f := 45) (args := #[.agg #[.int .i64 an, .int .i64 ad], .agg #[.int .i64 bn, .int .i64 bd]]) hF (by kernel_rfl) (fun _ => by kernel_rfl) (fun w hM => rBoth_no an ad bn bd w (fun q => hz3 q.2))) fun a w hF hM => ?_)
      refine wl (eP 9 (v0 := .bool (!decide (120 = 0))) (v := .bool true) hF (by kernel_rfl) (fun _ => by kernel_rfl) (nF (by omega)) fun a hF => ?_)
      refine wpList_nil ?_
      refine hK3 _ _ ?_
      refine cT hF (by kernel_rfl) (by kernel_rfl) ?_
      refine wp_seq_k fun K4 hK4 => ?_
      refine wp_region_lit ?_
      refine sB 1 [(10, .agg #[.int .i64 0, .int .i64 0])] hF (by kernel_rfl) fun a hF => ?_
      refine wl (sStore (i := 3) (off := 0) (cs' := #[.int .i64 0, .int .i64 0]) hF hM (by kernel_rfl) rfl rfl (by kernel_rfl) (by kernel_rfl) rfl (by kernel_rfl) fun w hM => ?_)
      refine sB 1 [(5, .int .i64 120)] hF (by kernel_rfl) fun a hF => ?_
      refine wpList_nil ?_
      refine hK4 _ _ ?_
      refine wp_ret ?_
      refine hR0 _ _ ?_
      refine ret_of hF hM (.cell (i := 3) rfl rfl (v := .agg #[.int .i64 0, .int .i64 0]) (by kernel_rfl) (.tmp rfl (.nil))) ?_
      exact ⟨rfl, hM.bel⟩
  · skip
    refine wp_region_lit ?_
    refine wl (eL 6 1 0 (v := .agg #[.int .i64 an, .int .i64 ad]) hF hM (by kernel_rfl) rfl rfl (by kernel_rfl) (by kernel_rfl) fun a w hF hM => ?_)
    refine wl (eL 7 2 0 (v := .agg #[.int .i64 bn, .int .i64 bd]) hF hM (by kernel_rfl) rfl rfl (by kernel_rfl) (by kernel_rfl) fun a w hF hM => ?_)
    refine wl (eM 8 (v := .int .i64 120) hF hM (by kernel_rfl) (yld_call (f := 45) (args := #[.agg #[.int .i64 an, .int .i64 ad], .agg #[.int .i64 bn, .int .i64 bd]]) hF (by kernel_rfl) (fun _ => by kernel_rfl) (fun w hM => rBoth_no an ad bn bd w (fun q => hz1 q.1))) fun a w hF hM => ?_)
    refine wl (eP 9 (v0 := .bool (!decide (120 = 0))) (v := .bool true) hF (by kernel_rfl) (fun _ => by kernel_rfl) (nF (by omega)) fun a hF => ?_)
    refine wpList_nil ?_
    refine hK3 _ _ ?_
    refine cT hF (by kernel_rfl) (by kernel_rfl) ?_
    refine wp_seq_k fun K5 hK5 => ?_
    refine wp_region_lit ?_
    refine sB 1 [(10, .agg #[.int .i64 0, .int .i64 0])] hF (by kernel_rfl) fun a hF => ?_
    refine wl (sStore (i := 3) (off := 0) (cs' := #[.int .i64 0, .int .i64 0]) hF hM (by kernel_rfl) rfl rfl (by kernel_rfl) (by kernel_rfl) rfl (by kernel_rfl) fun w hM => ?_)
    refine sB 1 [(5, .int .i64 120)] hF (by kernel_rfl) fun a hF => ?_
    refine wpList_nil ?_
    refine hK5 _ _ ?_
    refine wp_ret ?_
    refine hR0 _ _ ?_
    refine ret_of hF hM (.cell (i := 3) rfl rfl (v := .agg #[.int .i64 0, .int .i64 0]) (by kernel_rfl) (.tmp rfl (.nil))) ?_
    exact ⟨rfl, hM.bel⟩

theorem raCmp_ok (an ad bn bd : Int) (w0 : World) (hT : Tab w0) (h1 : raE an ad = 0) (h2 : raE bn bd = 0) :
    Calls Tryd.prog 25 #[.agg #[.int .i64 an, .int .i64 ad], .agg #[.int .i64 bn, .int .i64 bd]] w0 (Ret w0 (.tuple #[.int .i64 (rcV an ad bn bd), .int .i64 0])) := by
  have g1 := raE_ok h1
  have g2 := raE_ok h2
  refine enterK 30 Tryd.func25 rfl rfl rfl ?_
  intro a hF Q0 hR0 hN0
  have hM := Mem.start w0
  have hz1 := raE_ok h1
  have hz2 := raE_ok h2
  refine wp_seq_k fun K1 hK1 => ?_
  refine wp_region_lit ?_
  refine wl (eN 2 1 (t := 23) (fun b => .pointer (some ⟨b, 0, none⟩)) #[.int .i64 an, .int .i64 ad] hF hM (by kernel_rfl) (fun _ => by kernel_rfl) fun bb1 a w hF hM => ?_)
  refine wl (eN 3 2 (t := 23) (fun b => .pointer (some ⟨b, 0, none⟩)) #[.int .i64 bn, .int .i64 bd] hF hM (by kernel_rfl) (fun _ => by kernel_rfl) fun bb2 a w hF hM => ?_)
  refine sB 2 [(4, .int .i64 0), (5, .int .i64 0)] hF (by kernel_rfl) fun a hF => ?_
  refine wpList_nil ?_
  refine hK1 _ _ ?_
  refine wp_seq_k fun K2 hK2 => ?_
  refine wp_seq_k fun K3 hK3 => ?_
  refine wp_region_lit ?_
  refine wl (eL 7 1 0 (v := .agg #[.int .i64 an, .int .i64 ad]) hF hM (by kernel_rfl) rfl rfl (by kernel_rfl) (by kernel_rfl) fun a w hF hM => ?_)
  refine wl (eL 8 2 0 (v := .agg #[.int .i64 bn, .int .i64 bd]) hF hM (by kernel_rfl) rfl rfl (by kernel_rfl) (by kernel_rfl) fun a w hF hM => ?_)
  refine wl (eN 9 3 (t := 23) (fun b => .slice (some ⟨b, 0, none⟩) 2 2) #[.int .i64 an, .int .i64 ad, .int .i64 bn, .int .i64 bd] hF hM (by kernel_rfl) (fun _ => by kernel_rfl) fun bb3 a w hF hM => ?_)
  refine wl (eM 10 (v := .int .i64 0) hF hM (by kernel_rfl) (yld_call (f := 49) (args := #[.slice (some ⟨bb3, 0, none⟩) 2 2]) hF (by kernel_rfl) (fun _ => by kernel_rfl) (fun w hM => checkAll_yes (some ⟨bb3, 0, none⟩) [(an, ad), (bn, bd)] _ w (hM.roRow (k := 3) rfl) (by simp) (hT.below (Nat.le_refl _) hM.bel) (ra_two h1 h2))) fun a w hF hM => ?_)
  refine sB 1 [(6, .int .i64 0)] hF (by kernel_rfl) fun a hF => ?_
  refine wpList_nil ?_
  refine hK3 _ _ ?_
  refine wp_seq_k fun K4 hK4 => ?_
  refine wp_region_lit ?_
  refine sB 1 [(11, .int .i64 0)] hF (by kernel_rfl) fun a hF => ?_
  refine wl (eP 12 (v0 := .bool (!decide (0 = 0))) (v := .bool false) hF (by kernel_rfl) (fun _ => by kernel_rfl) (nT (by omega)) fun a hF => ?_)
  refine wpList_nil ?_
  refine hK4 _ _ ?_
  refine cF hF (by kernel_rfl) (by kernel_rfl) ?_
  refine wp_skip ?_
  refine hK2 _ _ ?_
  refine wp_seq_k fun K5 hK5 => ?_
  refine wp_block ?_
  refine wp_seq_k fun K6 hK6 => ?_
  refine wp_region_lit ?_
  refine wl (eL 15 1 0 (v := .agg #[.int .i64 an, .int .i64 ad]) hF hM (by kernel_rfl) rfl rfl (by kernel_rfl) (by kernel_rfl) fun a w hF hM => ?_)
  refine wl (eL 16 2 0 (v := .agg #[.int .i64 bn, .int .i64 bd]) hF hM (by kernel_rfl) rfl rfl (by kernel_rfl) (by kernel_rfl) fun a w hF hM => ?_)
  refine wl (eM 17 (v := .bool (decide ([an, ad] = [bn, bd]))) hF hM (by kernel_rfl) (yld_eql (C := Mem _ _ _) [an, ad] [bn, bd] hF rfl (by kernel_rfl) (by kernel_rfl) (by kernel_rfl) rfl (by kernel_rfl) (by kernel_rfl) (by kernel_rfl) rfl rfl) fun a w hF hM => ?_)
  refine sB 1 [(14, .bool (decide ([an, ad] = [bn, bd])))] hF (by kernel_rfl) fun a hF => ?_
  refine wpList_nil ?_
  refine hK6 _ _ ?_
  by_cases hz3 : [an, ad] = [bn, bd]
  · skip
    replace hF := hF.c hF (i := 14) (v := .bool true) rfl (bT hz3)
    replace hF := hF.c hF (i := 17) (v := .bool true) rfl (bT hz3)
    refine cT hF (by kernel_rfl) (by kernel_rfl) ?_
    refine wp_seq_k fun K7 hK7 => ?_
    refine wp_region_lit ?_
    refine sB 2 [(4, .int .i64 0), (5, .int .i64 0)] hF (by kernel_rfl) fun a hF => ?_
    refine wpList_nil ?_
    refine hK7 _ _ ?_
    refine wp_ret ?_
    refine hR0 _ _ ?_
    refine ret_of hF hM (.tmp rfl (.tmp rfl (.nil))) ?_
    have hq : an = bn ∧ ad = bd := by simpa using hz3
    exact ⟨ret_eq (by unfold rcV; rw [if_neg (by rw [hq.1, hq.2]; omega), if_pos (by rw [hq.1, hq.2])]; rfl), hM.bel⟩
  · skip
    replace hF := hF.c hF (i := 14) (v := .bool false) rfl (bF hz3)
    replace hF := hF.c hF (i := 17) (v := .bool false) rfl (bF hz3)
    refine cF hF (by kernel_rfl) (by kernel_rfl) ?_
    refine wp_seq_k fun K8 hK8 => ?_
    refine wp_region_lit ?_
    refine sB 1 [(19, .pointer (some ⟨bb1, 0, none⟩))] hF (by kernel_rfl) fun a hF => ?_
    refine wl (eL 20 1 0 (v := .int .i64 an) hF hM (by kernel_rfl) rfl rfl (by kernel_rfl) (by kernel_rfl) fun a w hF hM => ?_)
    refine sB 1 [(21, .pointer (some ⟨bb2, 1, none⟩))] hF (by kernel_rfl) fun a hF => ?_
    refine wl (eL 22 2 1 (v := .int .i64 bd) hF hM (by kernel_rfl) rfl rfl (by kernel_rfl) (by kernel_rfl) fun a w hF hM => ?_)
    have hz4 : -1152921504606846976 ≤ an * bd ∧ an * bd ≤ 1152921504606846976 := mul_bd (-1073741824) (1073741824) (1) (1073741824) (by omega) (by omega) (by omega) (by omega) (by decide)
    refine wl (eP 23 (v0 := .int .i64 (IntKind.i64.wrap (an * bd))) (v := .int .i64 (an * bd)) hF (by kernel_rfl) (fun _ => by kernel_rfl) (wi (by omega)) fun a hF => ?_)
    refine sB 1 [(24, .pointer (some ⟨bb2, 0, none⟩))] hF (by kernel_rfl) fun a hF => ?_
    refine wl (eL 25 2 0 (v := .int .i64 bn) hF hM (by kernel_rfl) rfl rfl (by kernel_rfl) (by kernel_rfl) fun a w hF hM => ?_)
    refine sB 1 [(26, .pointer (some ⟨bb1, 1, none⟩))] hF (by kernel_rfl) fun a hF => ?_
    refine wl (eL 27 1 1 (v := .int .i64 ad) hF hM (by kernel_rfl) rfl rfl (by kernel_rfl) (by kernel_rfl) fun a w hF hM => ?_)
    have hz5 : -1152921504606846976 ≤ bn * ad ∧ bn * ad ≤ 1152921504606846976 := mul_bd (-1073741824) (1073741824) (1) (1073741824) (by omega) (by omega) (by omega) (by omega) (by decide)
    refine wl (eP 28 (v0 := .int .i64 (IntKind.i64.wrap (bn * ad))) (v := .int .i64 (bn * ad)) hF (by kernel_rfl) (fun _ => by kernel_rfl) (wi (by omega)) fun a hF => ?_)
    refine sB 2 [(29, .bool (decide (an * bd < bn * ad))), (18, .bool (decide (an * bd < bn * ad)))] hF (by kernel_rfl) fun a hF => ?_
    refine wpList_nil ?_
    refine hK8 _ _ ?_
    by_cases hz6 : an * bd < bn * ad
    · skip
      replace hF := hF.c hF (i := 18) (v := .bool true) rfl (bT hz6)
      replace hF := hF.c hF (i := 29) (v := .bool true) rfl (bT hz6)
      refine cT hF (by kernel_rfl) (by kernel_rfl) ?_
      refine wp_seq_k fun K9 hK9 => ?_
      refine wp_region_lit ?_
      refine sB 2 [(4, .int .i64 (-1)), (5, .int .i64 0)] hF (by kernel_rfl) fun a hF => ?_
      refine wpList_nil ?_
      refine hK9 _ _ ?_
      refine wp_ret ?_
      refine hR0 _ _ ?_
      refine ret_of hF hM (.tmp rfl (.tmp rfl (.nil))) ?_
      exact ⟨ret_eq (by unfold rcV; rw [if_pos hz6]; rfl), hM.bel⟩
    · skip
      replace hF := hF.c hF (i := 18) (v := .bool false) rfl (bF hz6)
      replace hF := hF.c hF (i := 29) (v := .bool false) rfl (bF hz6)
      refine cF hF (by kernel_rfl) (by kernel_rfl) ?_
      refine wp_skip ?_
      refine hK5 _ _ ?_
      refine wp_seq_k fun K10 hK10 => ?_
      refine wp_region_lit ?_
      refine sB 2 [(4, .int .i64 1), (5, .int .i64 0)] hF (by kernel_rfl) fun a hF => ?_
      refine wpList_nil ?_
      refine hK10 _ _ ?_
      refine wp_ret ?_
      refine hR0 _ _ ?_
      refine ret_of hF hM (.tmp rfl (.tmp rfl (.nil))) ?_
      exact ⟨ret_eq (by unfold rcV; rw [if_neg hz6, if_neg (fun z => hz3 (by have y := (rat_eq h1 h2).1 z; rw [y.1, y.2]))]; rfl), hM.bel⟩

theorem raCmp_no (an ad bn bd : Int) (w0 : World) (hT : Tab w0) (h : ¬ (raE an ad = 0 ∧ raE bn bd = 0)) :
    Calls Tryd.prog 25 #[.agg #[.int .i64 an, .int .i64 ad], .agg #[.int .i64 bn, .int .i64 bd]] w0 (Ret w0 (.tuple #[.int .i64 0, .int .i64 120])) := by
  refine enterK 30 Tryd.func25 rfl rfl rfl ?_
  intro a hF Q0 hR0 hN0
  have hM := Mem.start w0
  refine wp_seq_k fun K1 hK1 => ?_
  refine wp_region_lit ?_
  refine wl (eN 2 1 (t := 23) (fun b => .pointer (some ⟨b, 0, none⟩)) #[.int .i64 an, .int .i64 ad] hF hM (by kernel_rfl) (fun _ => by kernel_rfl) fun bb1 a w hF hM => ?_)
  refine wl (eN 3 2 (t := 23) (fun b => .pointer (some ⟨b, 0, none⟩)) #[.int .i64 bn, .int .i64 bd] hF hM (by kernel_rfl) (fun _ => by kernel_rfl) fun bb2 a w hF hM => ?_)
  refine sB 2 [(4, .int .i64 0), (5, .int .i64 0)] hF (by kernel_rfl) fun a hF => ?_
  refine wpList_nil ?_
  refine hK1 _ _ ?_
  refine wp_seq_k fun K2 hK2 => ?_
  refine wp_seq_k fun K3 hK3 => ?_
  by_cases hz1 : raE an ad = 0
  · skip
    have hz2 := raE_ok hz1
    by_cases hz3 : raE bn bd = 0
    · skip
      have hz4 := raE_ok hz3
      exact absurd ⟨hz1, hz3⟩ h
    · skip
      refine wp_region_lit ?_
      refine wl (eL 7 1 0 (v := .agg #[.int .i64 an, .int .i64 ad]) hF hM (by kernel_rfl) rfl rfl (by kernel_rfl) (by kernel_rfl) fun a w hF hM => ?_)
      refine wl (eL 8 2 0 (v := .agg #[.int .i64 bn, .int .i64 bd]) hF hM (by kernel_rfl) rfl rfl (by kernel_rfl) (by kernel_rfl) fun a w hF hM => ?_)
      refine wl (eN 9 5 (t := 23) (fun b => .slice (some ⟨b, 0, none⟩) 2 2) #[.int .i64 an, .int .i64 ad, .int .i64 bn, .int .i64 bd] hF hM (by kernel_rfl) (fun _ => by kernel_rfl) fun bb5 a w hF hM => ?_)
      refine wl (eM 10 (v := .int .i64 120) hF hM (by kernel_rfl) (yld_call (f := 49) (args := #[.slice (some ⟨bb5, 0, none⟩) 2 2]) hF (by kernel_rfl) (fun _ => by kernel_rfl) (fun w hM => checkAll_no (some ⟨bb5, 0, none⟩) [(an, ad), (bn, bd)] _ w (hM.roRow (k := 5) rfl) (by simp) (hT.below (Nat.le_refl _) hM.bel) (ra_notwo (fun q => hz3 q.2)))) fun a w hF hM => ?_)
      refine sB 1 [(6, .int .i64 120)] hF (by kernel_rfl) fun a hF => ?_
      refine wpList_nil ?_
      refine hK3 _ _ ?_
      refine wp_seq_k fun K4 hK4 => ?_
      refine wp_region_lit ?_
      refine sB 1 [(11, .int .i64 120)] hF (by kernel_rfl) fun a hF => ?_
      refine wl (eP 12 (v0 := .bool (!decide (120 = 0))) (v := .bool true) hF (by kernel_rfl) (fun _ => by kernel_rfl) (nF (by omega)) fun a hF => ?_)
      refine wpList_nil ?_
      refine hK4 _ _ ?_
      refine cT hF (by kernel_rfl) (by kernel_rfl) ?_
      refine wp_seq_k fun K5 hK5 => ?_
      refine wp_region_lit ?_
      refine sB 3 [(13, .int .i64 120), (4, .int .i64 0), (5, .int .i64 120)] hF (by kernel_rfl) fun a hF => ?_
      refine wpList_nil ?_
      refine hK5 _ _ ?_
      refine wp_ret ?_
      refine hR0 _ _ ?_
      refine ret_of hF hM (.tmp rfl (.tmp rfl (.nil))) ?_
      exact ⟨rfl, hM.bel⟩
  · skip
    refine wp_region_lit ?_
    refine wl (eL 7 1 0 (v := .agg #[.int .i64 an, .int .i64 ad]) hF hM (by kernel_rfl) rfl rfl (by kernel_rfl) (by kernel_rfl) fun a w hF hM => ?_)
    refine wl (eL 8 2 0 (v := .agg #[.int .i64 bn, .int .i64 bd]) hF hM (by kernel_rfl) rfl rfl (by kernel_rfl) (by kernel_rfl) fun a w hF hM => ?_)
    refine wl (eN 9 6 (t := 23) (fun b => .slice (some ⟨b, 0, none⟩) 2 2) #[.int .i64 an, .int .i64 ad, .int .i64 bn, .int .i64 bd] hF hM (by kernel_rfl) (fun _ => by kernel_rfl) fun bb6 a w hF hM => ?_)
    refine wl (eM 10 (v := .int .i64 120) hF hM (by kernel_rfl) (yld_call (f := 49) (args := #[.slice (some ⟨bb6, 0, none⟩) 2 2]) hF (by kernel_rfl) (fun _ => by kernel_rfl) (fun w hM => checkAll_no (some ⟨bb6, 0, none⟩) [(an, ad), (bn, bd)] _ w (hM.roRow (k := 6) rfl) (by simp) (hT.below (Nat.le_refl _) hM.bel) (ra_notwo (fun q => hz1 q.1)))) fun a w hF hM => ?_)
    refine sB 1 [(6, .int .i64 120)] hF (by kernel_rfl) fun a hF => ?_
    refine wpList_nil ?_
    refine hK3 _ _ ?_
    refine wp_seq_k fun K6 hK6 => ?_
    refine wp_region_lit ?_
    refine sB 1 [(11, .int .i64 120)] hF (by kernel_rfl) fun a hF => ?_
    refine wl (eP 12 (v0 := .bool (!decide (120 = 0))) (v := .bool true) hF (by kernel_rfl) (fun _ => by kernel_rfl) (nF (by omega)) fun a hF => ?_)
    refine wpList_nil ?_
    refine hK6 _ _ ?_
    refine cT hF (by kernel_rfl) (by kernel_rfl) ?_
    refine wp_seq_k fun K7 hK7 => ?_
    refine wp_region_lit ?_
    refine sB 3 [(13, .int .i64 120), (4, .int .i64 0), (5, .int .i64 120)] hF (by kernel_rfl) fun a hF => ?_
    refine wpList_nil ?_
    refine hK7 _ _ ?_
    refine wp_ret ?_
    refine hR0 _ _ ?_
    refine ret_of hF hM (.tmp rfl (.tmp rfl (.nil))) ?_
    exact ⟨rfl, hM.bel⟩

theorem rbCmp_ok (an ad bn bd : Int) (w0 : World) (h1 : raE an ad = 0) (h2 : raE bn bd = 0) :
    Calls Tryd.prog 31 #[.agg #[.int .i64 an, .int .i64 ad], .agg #[.int .i64 bn, .int .i64 bd]] w0 (Ret w0 (.tuple #[.int .i64 (rcV an ad bn bd), .int .i64 0])) := by
  have g1 := raE_ok h1
  have g2 := raE_ok h2
  refine enterK 28 Tryd.func31 rfl rfl rfl ?_
  intro a hF Q0 hR0 hN0
  have hM := Mem.start w0
  have hz1 := raE_ok h1
  have hz2 := raE_ok h2
  refine wp_seq_k fun K1 hK1 => ?_
  refine wp_region_lit ?_
  refine wl (eN 2 1 (t := 23) (fun b => .pointer (some ⟨b, 0, none⟩)) #[.int .i64 an, .int .i64 ad] hF hM (by kernel_rfl) (fun _ => by kernel_rfl) fun bb1 a w hF hM => ?_)
  refine wl (eN 3 2 (t := 23) (fun b => .pointer (some ⟨b, 0, none⟩)) #[.int .i64 bn, .int .i64 bd] hF hM (by kernel_rfl) (fun _ => by kernel_rfl) fun bb2 a w hF hM => ?_)
  refine sB 2 [(4, .int .i64 0), (5, .int .i64 0)] hF (by kernel_rfl) fun a hF => ?_
  refine wpList_nil ?_
  refine hK1 _ _ ?_
  refine wp_seq_k fun K2 hK2 => ?_
  refine wp_seq_k fun K3 hK3 => ?_
  refine wp_region_lit ?_
  refine wl (eL 7 1 0 (v := .agg #[.int .i64 an, .int .i64 ad]) hF hM (by kernel_rfl) rfl rfl (by kernel_rfl) (by kernel_rfl) fun a w hF hM => ?_)
  refine wl (eL 8 2 0 (v := .agg #[.int .i64 bn, .int .i64 bd]) hF hM (by kernel_rfl) rfl rfl (by kernel_rfl) (by kernel_rfl) fun a w hF hM => ?_)
  refine wl (eM 9 (v := .int .i64 0) hF hM (by kernel_rfl) (yld_call (f := 45) (args := #[.agg #[.int .i64 an, .int .i64 ad], .agg #[.int .i64 bn, .int .i64 bd]]) hF (by kernel_rfl) (fun _ => by kernel_rfl) (fun w hM => rBoth_ok an ad bn bd w h1 h2)) fun a w hF hM => ?_)
  refine wl (eP 10 (v0 := .bool (!decide (0 = 0))) (v := .bool false) hF (by kernel_rfl) (fun _ => by kernel_rfl) (nT (by omega)) fun a hF => ?_)
  refine wpList_nil ?_
  refine hK3 _ _ ?_
  refine cF hF (by kernel_rfl) (by kernel_rfl) ?_
  refine wp_skip ?_
  refine hK2 _ _ ?_
  refine wp_seq_k fun K4 hK4 => ?_
  refine wp_seq_k fun K5 hK5 => ?_
  refine wp_region_lit ?_
  refine sB 1 [(11, .pointer (some ⟨bb1, 0, none⟩))] hF (by kernel_rfl) fun a hF => ?_
  refine wl (eL 12 1 0 (v := .int .i64 an) hF hM (by kernel_rfl) rfl rfl (by kernel_rfl) (by kernel_rfl) fun a w hF hM => ?_)
  refine sB 1 [(13, .pointer (some ⟨bb2, 1, none⟩))] hF (by kernel_rfl) fun a hF => ?_
  refine wl (eL 14 2 1 (v := .int .i64 bd) hF hM (by kernel_rfl) rfl rfl (by kernel_rfl) (by kernel_rfl) fun a w hF hM => ?_)
  have hz3 : -1152921504606846976 ≤ an * bd ∧ an * bd ≤ 1152921504606846976 := mul_bd (-1073741824) (1073741824) (1) (1073741824) (by omega) (by omega) (by omega) (by omega) (by decide)
  refine wl (eP 15 (v0 := .int .i64 (IntKind.i64.wrap (an * bd))) (v := .int .i64 (an * bd)) hF (by kernel_rfl) (fun _ => by kernel_rfl) (wi (by omega)) fun a hF => ?_)
  refine sB 1 [(16, .pointer (some ⟨bb2, 0, none⟩))] hF (by kernel_rfl) fun a hF => ?_
  refine wl (eL 17 2 0 (v := .int .i64 bn) hF hM (by kernel_rfl) rfl rfl (by kernel_rfl) (by kernel_rfl) fun a w hF hM => ?_)
  refine sB 1 [(18, .pointer (some ⟨bb1, 1, none⟩))] hF (by kernel_rfl) fun a hF => ?_
  refine wl (eL 19 1 1 (v := .int .i64 ad) hF hM (by kernel_rfl) rfl rfl (by kernel_rfl) (by kernel_rfl) fun a w hF hM => ?_)
  have hz4 : -1152921504606846976 ≤ bn * ad ∧ bn * ad ≤ 1152921504606846976 := mul_bd (-1073741824) (1073741824) (1) (1073741824) (by omega) (by omega) (by omega) (by omega) (by decide)
  refine wl (eP 20 (v0 := .int .i64 (IntKind.i64.wrap (bn * ad))) (v := .int .i64 (bn * ad)) hF (by kernel_rfl) (fun _ => by kernel_rfl) (wi (by omega)) fun a hF => ?_)
  refine wl (eP 21 (v0 := .int .i64 (IntKind.i64.wrap (an * bd - bn * ad))) (v := .int .i64 (an * bd - bn * ad)) hF (by kernel_rfl) (fun _ => by kernel_rfl) (wi (by omega)) fun a hF => ?_)
  refine sB 1 [(6, .int .i64 (an * bd - bn * ad))] hF (by kernel_rfl) fun a hF => ?_
  refine wpList_nil ?_
  refine hK5 _ _ ?_
  refine wp_block ?_
  refine wp_seq_k fun K6 hK6 => ?_
  refine wp_region_lit ?_
  refine sB 3 [(23, .int .i64 (an * bd - bn * ad)), (24, .bool (decide (an * bd - bn * ad < 0))), (22, .bool (decide (an * bd - bn * ad < 0)))] hF (by kernel_rfl) fun a hF => ?_
  refine wpList_nil ?_
  refine hK6 _ _ ?_
  by_cases hz5 : an * bd - bn * ad < 0
  · skip
    replace hF := hF.c hF (i := 22) (v := .bool true) rfl (bT hz5)
    replace hF := hF.c hF (i := 24) (v := .bool true) rfl (bT hz5)
    refine cT hF (by kernel_rfl) (by kernel_rfl) ?_
    refine wp_seq_k fun K7 hK7 => ?_
    refine wp_region_lit ?_
    refine sB 2 [(4, .int .i64 (-1)), (5, .int .i64 0)] hF (by kernel_rfl) fun a hF => ?_
    refine wpList_nil ?_
    refine hK7 _ _ ?_
    refine wp_ret ?_
    refine hR0 _ _ ?_
    refine ret_of hF hM (.tmp rfl (.tmp rfl (.nil))) ?_
    exact ⟨ret_eq (by rw [show rcV an ad bn bd = -1 from by unfold rcV; omega]; rfl), hM.bel⟩
  · skip
    replace hF := hF.c hF (i := 22) (v := .bool false) rfl (bF hz5)
    replace hF := hF.c hF (i := 24) (v := .bool false) rfl (bF hz5)
    refine cF hF (by kernel_rfl) (by kernel_rfl) ?_
    refine wp_seq_k fun K8 hK8 => ?_
    refine wp_region_lit ?_
    refine sB 3 [(26, .int .i64 (an * bd - bn * ad)), (27, .bool (decide (0 < an * bd - bn * ad))), (25, .bool (decide (0 < an * bd - bn * ad)))] hF (by kernel_rfl) fun a hF => ?_
    refine wpList_nil ?_
    refine hK8 _ _ ?_
    by_cases hz6 : 0 < an * bd - bn * ad
    · skip
      replace hF := hF.c hF (i := 25) (v := .bool true) rfl (bT hz6)
      replace hF := hF.c hF (i := 27) (v := .bool true) rfl (bT hz6)
      refine cT hF (by kernel_rfl) (by kernel_rfl) ?_
      refine wp_seq_k fun K9 hK9 => ?_
      refine wp_region_lit ?_
      refine sB 2 [(4, .int .i64 1), (5, .int .i64 0)] hF (by kernel_rfl) fun a hF => ?_
      refine wpList_nil ?_
      refine hK9 _ _ ?_
      refine wp_ret ?_
      refine hR0 _ _ ?_
      refine ret_of hF hM (.tmp rfl (.tmp rfl (.nil))) ?_
      exact ⟨ret_eq (by rw [show rcV an ad bn bd = 1 from by unfold rcV; omega]; rfl), hM.bel⟩
    · skip
      replace hF := hF.c hF (i := 25) (v := .bool false) rfl (bF hz6)
      replace hF := hF.c hF (i := 27) (v := .bool false) rfl (bF hz6)
      refine cF hF (by kernel_rfl) (by kernel_rfl) ?_
      refine wp_skip ?_
      refine hK4 _ _ ?_
      refine wp_seq_k fun K10 hK10 => ?_
      refine wp_region_lit ?_
      refine sB 2 [(4, .int .i64 0), (5, .int .i64 0)] hF (by kernel_rfl) fun a hF => ?_
      refine wpList_nil ?_
      refine hK10 _ _ ?_
      refine wp_ret ?_
      refine hR0 _ _ ?_
      refine ret_of hF hM (.tmp rfl (.tmp rfl (.nil))) ?_
      exact ⟨ret_eq (by rw [show rcV an ad bn bd = 0 from by unfold rcV; omega]; rfl), hM.bel⟩

theorem rbCmp_no (an ad bn bd : Int) (w0 : World) (h : ¬ (raE an ad = 0 ∧ raE bn bd = 0)) :
    Calls Tryd.prog 31 #[.agg #[.int .i64 an, .int .i64 ad], .agg #[.int .i64 bn, .int .i64 bd]] w0 (Ret w0 (.tuple #[.int .i64 0, .int .i64 120])) := by
  refine enterK 28 Tryd.func31 rfl rfl rfl ?_
  intro a hF Q0 hR0 hN0
  have hM := Mem.start w0
  refine wp_seq_k fun K1 hK1 => ?_
  refine wp_region_lit ?_
  refine wl (eN 2 1 (t := 23) (fun b => .pointer (some ⟨b, 0, none⟩)) #[.int .i64 an, .int .i64 ad] hF hM (by kernel_rfl) (fun _ => by kernel_rfl) fun bb1 a w hF hM => ?_)
  refine wl (eN 3 2 (t := 23) (fun b => .pointer (some ⟨b, 0, none⟩)) #[.int .i64 bn, .int .i64 bd] hF hM (by kernel_rfl) (fun _ => by kernel_rfl) fun bb2 a w hF hM => ?_)
  refine sB 2 [(4, .int .i64 0), (5, .int .i64 0)] hF (by kernel_rfl) fun a hF => ?_
  refine wpList_nil ?_
  refine hK1 _ _ ?_
  refine wp_seq_k fun K2 hK2 => ?_
  refine wp_seq_k fun K3 hK3 => ?_
  by_cases hz1 : raE an ad = 0
  · skip
    have hz2 := raE_ok hz1
    by_cases hz3 : raE bn bd = 0
    · skip
      have hz4 := raE_ok hz3
      exact absurd ⟨hz1, hz3⟩ h
    · skip
      refine wp_region_lit ?_
      refine wl (eL 7 1 0 (v := .agg #[.int .i64 an, .int .i64 ad]) hF hM (by kernel_rfl) rfl rfl (by kernel_rfl) (by kernel_rfl) fun a w hF hM => ?_)
      refine wl (eL 8 2 0 (v := .agg #[.int .i64 bn, .int .i64 bd]) hF hM (by kernel_rfl) rfl rfl (by kernel_rfl) (by kernel_rfl) fun a w hF hM => ?_)
      refine wl (eM 9 (v := .int .i64 120) hF hM (by kernel_rfl) (yld_call (f := 45) (args := #[.agg #[.int .i64 an, .int .i64 ad], .agg #[.int .i64 bn, .int .i64 bd]]) hF (by kernel_rfl) (fun _ => by kernel_rfl) (fun w hM => rBoth_no an ad bn bd w (fun q => hz3 q.2))) fun a w hF hM => ?_)
      refine wl (eP 10 (v0 := .bool (!decide (120 = 0))) (v := .bool true) hF (by kernel_rfl) (fun _ => by kernel_rfl) (nF (by omega)) fun a hF => ?_)
      refine wpList_nil ?_
      refine hK3 _ _ ?_
      refine cT hF (by kernel_rfl) (by kernel_rfl) ?_
      refine wp_seq_k fun K4 hK4 => ?_
      refine wp_region_lit ?_
      refine sB 2 [(4, .int .i64 0), (5, .int .i64 120)] hF (by kernel_rfl) fun a hF => ?_
      refine wpList_nil ?_
      refine hK4 _ _ ?_
      refine wp_ret ?_
      refine hR0 _ _ ?_
      refine ret_of hF hM (.tmp rfl (.tmp rfl (.nil))) ?_
      exact ⟨rfl, hM.bel⟩
  · skip
    refine wp_region_lit ?_
    refine wl (eL 7 1 0 (v := .agg #[.int .i64 an, .int .i64 ad]) hF hM (by kernel_rfl) rfl rfl (by kernel_rfl) (by kernel_rfl) fun a w hF hM => ?_)
    refine wl (eL 8 2 0 (v := .agg #[.int .i64 bn, .int .i64 bd]) hF hM (by kernel_rfl) rfl rfl (by kernel_rfl) (by kernel_rfl) fun a w hF hM => ?_)
    refine wl (eM 9 (v := .int .i64 120) hF hM (by kernel_rfl) (yld_call (f := 45) (args := #[.agg #[.int .i64 an, .int .i64 ad], .agg #[.int .i64 bn, .int .i64 bd]]) hF (by kernel_rfl) (fun _ => by kernel_rfl) (fun w hM => rBoth_no an ad bn bd w (fun q => hz1 q.1))) fun a w hF hM => ?_)
    refine wl (eP 10 (v0 := .bool (!decide (120 = 0))) (v := .bool true) hF (by kernel_rfl) (fun _ => by kernel_rfl) (nF (by omega)) fun a hF => ?_)
    refine wpList_nil ?_
    refine hK3 _ _ ?_
    refine cT hF (by kernel_rfl) (by kernel_rfl) ?_
    refine wp_seq_k fun K5 hK5 => ?_
    refine wp_region_lit ?_
    refine sB 2 [(4, .int .i64 0), (5, .int .i64 120)] hF (by kernel_rfl) fun a hF => ?_
    refine wpList_nil ?_
    refine hK5 _ _ ?_
    refine wp_ret ?_
    refine hR0 _ _ ?_
    refine ret_of hF hM (.tmp rfl (.tmp rfl (.nil))) ?_
    exact ⟨rfl, hM.bel⟩

theorem raMax_snd (an ad bn bd : Int) (w0 : World) (hT : Tab w0) (h1 : raE an ad = 0) (h2 : raE bn bd = 0) (h3 : rcV an ad bn bd < 0) :
    Calls Tryd.prog 29 #[.agg #[.int .i64 an, .int .i64 ad], .agg #[.int .i64 bn, .int .i64 bd]] w0 (Ret w0 (.tuple #[.agg #[.int .i64 bn, .int .i64 bd], .int .i64 0])) := by
  refine enterK 22 Tryd.func29 rfl rfl rfl ?_
  intro a hF Q0 hR0 hN0
  have hM := Mem.start w0
  have hz1 := raE_ok h1
  have hz2 := raE_ok h2
  refine wp_seq_k fun K1 hK1 => ?_
  refine wp_region_lit ?_
  refine wl (eN 2 1 (t := 23) (fun b => .pointer (some ⟨b, 0, none⟩)) #[.int .i64 an, .int .i64 ad] hF hM (by kernel_rfl) (fun _ => by kernel_rfl) fun bb1 a w hF hM => ?_)
  refine wl (eN 3 2 (t := 23) (fun b => .pointer (some ⟨b, 0, none⟩)) #[.int .i64 bn, .int .i64 bd] hF hM (by kernel_rfl) (fun _ => by kernel_rfl) fun bb2 a w hF hM => ?_)
  refine wl (eN 4 3 (t := 23) (fun b => .pointer (some ⟨b, 0, none⟩)) #[.int .i64 0, .int .i64 0] hF hM (by kernel_rfl) (fun _ => by kernel_rfl) fun bb3 a w hF hM => ?_)
  refine sB 1 [(5, .int .i64 0)] hF (by kernel_rfl) fun a hF => ?_
  refine wpList_nil ?_
  refine hK1 _ _ ?_
  refine wp_seq_k fun K2 hK2 => ?_
  refine wp_region_lit ?_
  refine wl (eL 9 1 0 (v := .agg #[.int .i64 an, .int .i64 ad]) hF hM (by kernel_rfl) rfl rfl (by kernel_rfl) (by kernel_rfl) fun a w hF hM => ?_)
  refine wl (eL 10 2 0 (v := .agg #[.int .i64 bn, .int .i64 bd]) hF hM (by kernel_rfl) rfl rfl (by kernel_rfl) (by kernel_rfl) fun a w hF hM => ?_)
  refine wl (eM 11 (v := .tuple #[.int .i64 (rcV an ad bn bd), .int .i64 0]) hF hM (by kernel_rfl) (yld_call (f := 25) (args := #[.agg #[.int .i64 an, .int .i64 ad], .agg #[.int .i64 bn, .int .i64 bd]]) hF (by kernel_rfl) (fun _ => by kernel_rfl) (fun w hM => raCmp_ok an ad bn bd w (hT.below (Nat.le_refl _) hM.bel) h1 h2)) fun a w hF hM => ?_)
  have := rcV_bd an ad bn bd
  refine sB 5 [(8, .tuple #[.int .i64 (rcV an ad bn bd), .int .i64 0]), (12, .int .i64 (rcV an ad bn bd)), (13, .int .i64 0), (6, .int .i64 (rcV an ad bn bd)), (7, .int .i64 0)] hF (by kernel_rfl) fun a hF => ?_
  refine wpList_nil ?_
  refine hK2 _ _ ?_
  refine wp_seq_k fun K3 hK3 => ?_
  refine wp_seq_k fun K4 hK4 => ?_
  refine wp_region_lit ?_
  refine sB 1 [(14, .int .i64 0)] hF (by kernel_rfl) fun a hF => ?_
  refine wl (eP 15 (v0 := .bool (!decide (0 = 0))) (v := .bool false) hF (by kernel_rfl) (fun _ => by kernel_rfl) (nT (by omega)) fun a hF => ?_)
  refine wpList_nil ?_
  refine hK4 _ _ ?_
  refine cF hF (by kernel_rfl) (by kernel_rfl) ?_
  refine wp_skip ?_
  refine hK3 _ _ ?_
  refine wp_seq_k fun K5 hK5 => ?_
  refine wp_seq_k fun K6 hK6 => ?_
  refine wp_region_lit ?_
  refine sB 1 [(18, .int .i64 (rcV an ad bn bd))] hF (by kernel_rfl) fun a hF => ?_
  refine wl (eP 19 (v0 := .bool (decide (rcV an ad bn bd < 0))) (v := .bool true) hF (by kernel_rfl) (fun _ => by kernel_rfl) (bT h3) fun a hF => ?_)
  refine wpList_nil ?_
  refine hK6 _ _ ?_
  refine cT hF (by kernel_rfl) (by kernel_rfl) ?_
  refine wp_seq_k fun K7 hK7 => ?_
  refine wp_region_lit ?_
  refine wl (eL 20 2 0 (v := .agg #[.int .i64 bn, .int .i64 bd]) hF hM (by kernel_rfl) rfl rfl (by kernel_rfl) (by kernel_rfl) fun a w hF hM => ?_)
  refine wl (sStore (i := 3) (off := 0) (cs' := #[.int .i64 bn, .int .i64 bd]) hF hM (by kernel_rfl) rfl rfl (by kernel_rfl) (by kernel_rfl) rfl (by kernel_rfl) fun w hM => ?_)
  refine sB 1 [(5, .int .i64 0)] hF (by kernel_rfl) fun a hF => ?_
  refine wpList_nil ?_
  refine hK7 _ _ ?_
  refine wp_ret ?_
  refine hR0 _ _ ?_
  refine ret_of hF hM (.cell (i := 3) rfl rfl (v := .agg #[.int .i64 bn, .int .i64 bd]) (by kernel_rfl) (.tmp rfl (.nil))) ?_
  exact ⟨rfl, hM.bel⟩

theorem raMax_fst (an ad bn bd : Int) (w0 : World) (hT : Tab w0) (h1 : raE an ad = 0) (h2 : raE bn bd = 0) (h3 : ¬ rcV an ad bn bd < 0) :
    Calls Tryd.prog 29 #[.agg #[.int .i64 an, .int .i64 ad], .agg #[.int .i64 bn, .int .i64 bd]] w0 (Ret w0 (.tuple #[.agg #[.int .i64 an, .int .i64 ad], .int .i64 0])) := by
  refine enterK 22 Tryd.func29 rfl rfl rfl ?_
  intro a hF Q0 hR0 hN0
  have hM := Mem.start w0
  have hz1 := raE_ok h1
  have hz2 := raE_ok h2
  refine wp_seq_k fun K1 hK1 => ?_
  refine wp_region_lit ?_
  refine wl (eN 2 1 (t := 23) (fun b => .pointer (some ⟨b, 0, none⟩)) #[.int .i64 an, .int .i64 ad] hF hM (by kernel_rfl) (fun _ => by kernel_rfl) fun bb1 a w hF hM => ?_)
  refine wl (eN 3 2 (t := 23) (fun b => .pointer (some ⟨b, 0, none⟩)) #[.int .i64 bn, .int .i64 bd] hF hM (by kernel_rfl) (fun _ => by kernel_rfl) fun bb2 a w hF hM => ?_)
  refine wl (eN 4 3 (t := 23) (fun b => .pointer (some ⟨b, 0, none⟩)) #[.int .i64 0, .int .i64 0] hF hM (by kernel_rfl) (fun _ => by kernel_rfl) fun bb3 a w hF hM => ?_)
  refine sB 1 [(5, .int .i64 0)] hF (by kernel_rfl) fun a hF => ?_
  refine wpList_nil ?_
  refine hK1 _ _ ?_
  refine wp_seq_k fun K2 hK2 => ?_
  refine wp_region_lit ?_
  refine wl (eL 9 1 0 (v := .agg #[.int .i64 an, .int .i64 ad]) hF hM (by kernel_rfl) rfl rfl (by kernel_rfl) (by kernel_rfl) fun a w hF hM => ?_)
  refine wl (eL 10 2 0 (v := .agg #[.int .i64 bn, .int .i64 bd]) hF hM (by kernel_rfl) rfl rfl (by kernel_rfl) (by kernel_rfl) fun a w hF hM => ?_)
  refine wl (eM 11 (v := .tuple #[.int .i64 (rcV an ad bn bd), .int .i64 0]) hF hM (by kernel_rfl) (yld_call (f := 25) (args := #[.agg #[.int .i64 an, .int .i64 ad], .agg #[.int .i64 bn, .int .i64 bd]]) hF (by kernel_rfl) (fun _ => by kernel_rfl) (fun w hM => raCmp_ok an ad bn bd w (hT.below (Nat.le_refl _) hM.bel) h1 h2)) fun a w hF hM => ?_)
  have := rcV_bd an ad bn bd
  refine sB 5 [(8, .tuple #[.int .i64 (rcV an ad bn bd), .int .i64 0]), (12, .int .i64 (rcV an ad bn bd)), (13, .int .i64 0), (6, .int .i64 (rcV an ad bn bd)), (7, .int .i64 0)] hF (by kernel_rfl) fun a hF => ?_
  refine wpList_nil ?_
  refine hK2 _ _ ?_
  refine wp_seq_k fun K3 hK3 => ?_
  refine wp_seq_k fun K4 hK4 => ?_
  refine wp_region_lit ?_
  refine sB 1 [(14, .int .i64 0)] hF (by kernel_rfl) fun a hF => ?_
  refine wl (eP 15 (v0 := .bool (!decide (0 = 0))) (v := .bool false) hF (by kernel_rfl) (fun _ => by kernel_rfl) (nT (by omega)) fun a hF => ?_)
  refine wpList_nil ?_
  refine hK4 _ _ ?_
  refine cF hF (by kernel_rfl) (by kernel_rfl) ?_
  refine wp_skip ?_
  refine hK3 _ _ ?_
  refine wp_seq_k fun K5 hK5 => ?_
  refine wp_seq_k fun K6 hK6 => ?_
  refine wp_region_lit ?_
  refine sB 1 [(18, .int .i64 (rcV an ad bn bd))] hF (by kernel_rfl) fun a hF => ?_
  refine wl (eP 19 (v0 := .bool (decide (rcV an ad bn bd < 0))) (v := .bool false) hF (by kernel_rfl) (fun _ => by kernel_rfl) (bF h3) fun a hF => ?_)
  refine wpList_nil ?_
  refine hK6 _ _ ?_
  refine cF hF (by kernel_rfl) (by kernel_rfl) ?_
  refine wp_skip ?_
  refine hK5 _ _ ?_
  refine wp_seq_k fun K7 hK7 => ?_
  refine wp_region_lit ?_
  refine wl (eL 21 1 0 (v := .agg #[.int .i64 an, .int .i64 ad]) hF hM (by kernel_rfl) rfl rfl (by kernel_rfl) (by kernel_rfl) fun a w hF hM => ?_)
  refine wl (sStore (i := 3) (off := 0) (cs' := #[.int .i64 an, .int .i64 ad]) hF hM (by kernel_rfl) rfl rfl (by kernel_rfl) (by kernel_rfl) rfl (by kernel_rfl) fun w hM => ?_)
  refine sB 1 [(5, .int .i64 0)] hF (by kernel_rfl) fun a hF => ?_
  refine wpList_nil ?_
  refine hK7 _ _ ?_
  refine wp_ret ?_
  refine hR0 _ _ ?_
  refine ret_of hF hM (.cell (i := 3) rfl rfl (v := .agg #[.int .i64 an, .int .i64 ad]) (by kernel_rfl) (.tmp rfl (.nil))) ?_
  exact ⟨rfl, hM.bel⟩

theorem raMax_no (an ad bn bd : Int) (w0 : World) (hT : Tab w0) (h : ¬ (raE an ad = 0 ∧ raE bn bd = 0)) :
    Calls Tryd.prog 29 #[.agg #[.int .i64 an, .int .i64 ad], .agg #[.int .i64 bn, .int .i64 bd]] w0 (Ret w0 (.tuple #[.agg #[.int .i64 0, .int .i64 0], .int .i64 120])) := by
  refine enterK 22 Tryd.func29 rfl rfl rfl ?_
  intro a hF Q0 hR0 hN0
  have hM := Mem.start w0
  refine wp_seq_k fun K1 hK1 => ?_
  refine wp_region_lit ?_
  refine wl (eN 2 1 (t := 23) (fun b => .pointer (some ⟨b, 0, none⟩)) #[.int .i64 an, .int .i64 ad] hF hM (by kernel_rfl) (fun _ => by kernel_rfl) fun bb1 a w hF hM => ?_)
  refine wl (eN 3 2 (t := 23) (fun b => .pointer (some ⟨b, 0, none⟩)) #[.int .i64 bn, .int .i64 bd] hF hM (by kernel_rfl) (fun _ => by kernel_rfl) fun bb2 a w hF hM => ?_)
  refine wl (eN 4 3 (t := 23) (fun b => .pointer (some ⟨b, 0, none⟩)) #[.int .i64 0, .int .i64 0] hF hM (by kernel_rfl) (fun _ => by kernel_rfl) fun bb3 a w hF hM => ?_)
  refine sB 1 [(5, .int .i64 0)] hF (by kernel_rfl) fun a hF => ?_
  refine wpList_nil ?_
  refine hK1 _ _ ?_
  refine wp_seq_k fun K2 hK2 => ?_
  by_cases hz1 : raE an ad = 0
  · skip
    have hz2 := raE_ok hz1
    by_cases hz3 : raE bn bd = 0
    · skip
      have hz4 := raE_ok hz3
      exact absurd ⟨hz1, hz3⟩ h
    · skip
      refine wp_region_lit ?_
      refine wl (eL 9 1 0 (v := .agg #[.int .i64 an, .int .i64 ad]) hF hM (by kernel_rfl) rfl rfl (by kernel_rfl) (by kernel_rfl) fun a w hF hM => ?_)
      refine wl (eL 10 2 0 (v := .agg #[.int .i64 bn, .int .i64 bd]) hF hM (by kernel_rfl) rfl rfl (by kernel_rfl) (by kernel_rfl) fun a w hF hM => ?_)
      refine wl (eM 11 (v := .tuple #[.int .i64 0, .int .i64 120]) hF hM (by kernel_rfl) (yld_call (f := 25) (args := #[.agg #[.int .i64 an, .int .i64 ad], .agg #[.int .i64 bn, .int .i64 bd]]) hF (by kernel_rfl) (fun _ => by kernel_rfl) (fun w hM => raCmp_no an ad bn bd w (hT.below (Nat.le_refl _) hM.bel) (fun q => hz3 q.2))) fun a w hF hM => ?_)
      refine sB 5 [(8, .tuple #[.int .i64 0, .int .i64 120]), (12, .int .i64 0), (13, .int .i64 120), (6, .int .i64 0), (7, .int .i64 120)] hF (by kernel_rfl) fun a hF => ?_
      refine wpList_nil ?_
      refine hK2 _ _ ?_
      refine wp_seq_k fun K3 hK3 => ?_
      refine wp_seq_k fun K4 hK4 => ?_
      refine wp_region_lit ?_
      refine sB 1 [(14, .int .i64 120)] hF (by kernel_rfl) fun a hF => ?_
      refine wl (eP 15 (v0 := .bool (!decide (120 = 0))) (v := .bool true) hF (by kernel_rfl) (fun _ => by kernel_rfl) (nF (by omega)) fun a hF => ?_)
      refine wpList_nil ?_
      refine hK4 _ _ ?_
      refine cT hF (by kernel_rfl) (by kernel_rfl) ?_
      refine wp_seq_k fun K5 hK5 => ?_
      refine wp_region_lit ?_
      refine sB 2 [(16, .agg #[.int .i64 0, .int .i64 0]), (17, .int .i64 120)] hF (by kernel_rfl) fun a hF => ?_
      refine wl (sStore (i := 3) (off := 0) (cs' := #[.int .i64 0, .int .i64 0]) hF hM (by kernel_rfl) rfl rfl (by kernel_rfl) (by kernel_rfl) rfl (by kernel_rfl) fun w hM => ?_)
      refine sB 1 [(5, .int .i64 120)] hF (by kernel_rfl) fun a hF => ?_
      refine wpList_nil ?_
      refine hK5 _ _ ?_
      refine wp_ret ?_
      refine hR0 _ _ ?_
      refine ret_of hF hM (.cell (i := 3) rfl rfl (v := .agg #[.int .i64 0, .int .i64 0]) (by kernel_rfl) (.tmp rfl (.nil))) ?_
      exact ⟨rfl, hM.bel⟩
  · skip
    refine wp_region_lit ?_
    refine wl (eL 9 1 0 (v := .agg #[.int .i64 an, .int .i64 ad]) hF hM (by kernel_rfl) rfl rfl (by kernel_rfl) (by kernel_rfl) fun a w hF hM => ?_)
    refine wl (eL 10 2 0 (v := .agg #[.int .i64 bn, .int .i64 bd]) hF hM (by kernel_rfl) rfl rfl (by kernel_rfl) (by kernel_rfl) fun a w hF hM => ?_)
    refine wl (eM 11 (v := .tuple #[.int .i64 0, .int .i64 120]) hF hM (by kernel_rfl) (yld_call (f := 25) (args := #[.agg #[.int .i64 an, .int .i64 ad], .agg #[.int .i64 bn, .int .i64 bd]]) hF (by kernel_rfl) (fun _ => by kernel_rfl) (fun w hM => raCmp_no an ad bn bd w (hT.below (Nat.le_refl _) hM.bel) (fun q => hz1 q.1))) fun a w hF hM => ?_)
    refine sB 5 [(8, .tuple #[.int .i64 0, .int .i64 120]), (12, .int .i64 0), (13, .int .i64 120), (6, .int .i64 0), (7, .int .i64 120)] hF (by kernel_rfl) fun a hF => ?_
    refine wpList_nil ?_
    refine hK2 _ _ ?_
    refine wp_seq_k fun K6 hK6 => ?_
    refine wp_seq_k fun K7 hK7 => ?_
    refine wp_region_lit ?_
    refine sB 1 [(14, .int .i64 120)] hF (by kernel_rfl) fun a hF => ?_
    refine wl (eP 15 (v0 := .bool (!decide (120 = 0))) (v := .bool true) hF (by kernel_rfl) (fun _ => by kernel_rfl) (nF (by omega)) fun a hF => ?_)
    refine wpList_nil ?_
    refine hK7 _ _ ?_
    refine cT hF (by kernel_rfl) (by kernel_rfl) ?_
    refine wp_seq_k fun K8 hK8 => ?_
    refine wp_region_lit ?_
    refine sB 2 [(16, .agg #[.int .i64 0, .int .i64 0]), (17, .int .i64 120)] hF (by kernel_rfl) fun a hF => ?_
    refine wl (sStore (i := 3) (off := 0) (cs' := #[.int .i64 0, .int .i64 0]) hF hM (by kernel_rfl) rfl rfl (by kernel_rfl) (by kernel_rfl) rfl (by kernel_rfl) fun w hM => ?_)
    refine sB 1 [(5, .int .i64 120)] hF (by kernel_rfl) fun a hF => ?_
    refine wpList_nil ?_
    refine hK8 _ _ ?_
    refine wp_ret ?_
    refine hR0 _ _ ?_
    refine ret_of hF hM (.cell (i := 3) rfl rfl (v := .agg #[.int .i64 0, .int .i64 0]) (by kernel_rfl) (.tmp rfl (.nil))) ?_
    exact ⟨rfl, hM.bel⟩

theorem raMin_snd (an ad bn bd : Int) (w0 : World) (hT : Tab w0) (h1 : raE an ad = 0) (h2 : raE bn bd = 0) (h3 : 0 < rcV an ad bn bd) :
    Calls Tryd.prog 32 #[.agg #[.int .i64 an, .int .i64 ad], .agg #[.int .i64 bn, .int .i64 bd]] w0 (Ret w0 (.tuple #[.agg #[.int .i64 bn, .int .i64 bd], .int .i64 0])) := by
  refine enterK 22 Tryd.func32 rfl rfl rfl ?_
  intro a hF Q0 hR0 hN0
  have hM := Mem.start w0
  have hz1 := raE_ok h1
  have hz2 := raE_ok h2
  refine wp_seq_k fun K1 hK1 => ?_
  refine wp_region_lit ?_
  refine wl (eN 2 1 (t := 23) (fun b => .pointer (some ⟨b, 0, none⟩)) #[.int .i64 an, .int .i64 ad] hF hM (by kernel_rfl) (fun _ => by kernel_rfl) fun bb1 a w hF hM => ?_)
  refine wl (eN 3 2 (t := 23) (fun b => .pointer (some ⟨b, 0, none⟩)) #[.int .i64 bn, .int .i64 bd] hF hM (by kernel_rfl) (fun _ => by kernel_rfl) fun bb2 a w hF hM => ?_)
  refine wl (eN 4 3 (t := 23) (fun b => .pointer (some ⟨b, 0, none⟩)) #[.int .i64 0, .int .i64 0] hF hM (by kernel_rfl) (fun _ => by kernel_rfl) fun bb3 a w hF hM => ?_)
  refine sB 1 [(5, .int .i64 0)] hF (by kernel_rfl) fun a hF => ?_
  refine wpList_nil ?_
  refine hK1 _ _ ?_
  refine wp_seq_k fun K2 hK2 => ?_
  refine wp_region_lit ?_
  refine wl (eL 9 1 0 (v := .agg #[.int .i64 an, .int .i64 ad]) hF hM (by kernel_rfl) rfl rfl (by kernel_rfl) (by kernel_rfl) fun a w hF hM => ?_)
  refine wl (eL 10 2 0 (v := .agg #[.int .i64 bn, .int .i64 bd]) hF hM (by kernel_rfl) rfl rfl (by kernel_rfl) (by kernel_rfl) fun a w hF hM => ?_)
  refine wl (eM 11 (v := .tuple #[.int .i64 (rcV an ad bn bd), .int .i64 0]) hF hM (by kernel_rfl) (yld_call (f := 25) (args := #[.agg #[.int .i64 an, .int .i64 ad], .agg #[.int .i64 bn, .int .i64 bd]]) hF (by kernel_rfl) (fun _ => by kernel_rfl) (fun w hM => raCmp_ok an ad bn bd w (hT.below (Nat.le_refl _) hM.bel) h1 h2)) fun a w hF hM => ?_)
  have := rcV_bd an ad bn bd
  refine sB 5 [(8, .tuple #[.int .i64 (rcV an ad bn bd), .int .i64 0]), (12, .int .i64 (rcV an ad bn bd)), (13, .int .i64 0), (6, .int .i64 (rcV an ad bn bd)), (7, .int .i64 0)] hF (by kernel_rfl) fun a hF => ?_
  refine wpList_nil ?_
  refine hK2 _ _ ?_
  refine wp_seq_k fun K3 hK3 => ?_
  refine wp_seq_k fun K4 hK4 => ?_
  refine wp_region_lit ?_
  refine sB 1 [(14, .int .i64 0)] hF (by kernel_rfl) fun a hF => ?_
  refine wl (eP 15 (v0 := .bool (!decide (0 = 0))) (v := .bool false) hF (by kernel_rfl) (fun _ => by kernel_rfl) (nT (by omega)) fun a hF => ?_)
  refine wpList_nil ?_
  refine hK4 _ _ ?_
  refine cF hF (by kernel_rfl) (by kernel_rfl) ?_
  refine wp_skip ?_
  refine hK3 _ _ ?_
  refine wp_seq_k fun K5 hK5 => ?_
  refine wp_seq_k fun K6 hK6 => ?_
  refine wp_region_lit ?_
  refine sB 1 [(18, .int .i64 (rcV an ad bn bd))] hF (by kernel_rfl) fun a hF => ?_
  refine wl (eP 19 (v0 := .bool (decide (0 < rcV an ad bn bd))) (v := .bool true) hF (by kernel_rfl) (fun _ => by kernel_rfl) (bT h3) fun a hF => ?_)
  refine wpList_nil ?_
  refine hK6 _ _ ?_
  refine cT hF (by kernel_rfl) (by kernel_rfl) ?_
  refine wp_seq_k fun K7 hK7 => ?_
  refine wp_region_lit ?_
  refine wl (eL 20 2 0 (v := .agg #[.int .i64 bn, .int .i64 bd]) hF hM (by kernel_rfl) rfl rfl (by kernel_rfl) (by kernel_rfl) fun a w hF hM => ?_)
  refine wl (sStore (i := 3) (off := 0) (cs' := #[.int .i64 bn, .int .i64 bd]) hF hM (by kernel_rfl) rfl rfl (by kernel_rfl) (by kernel_rfl) rfl (by kernel_rfl) fun w hM => ?_)
  refine sB 1 [(5, .int .i64 0)] hF (by kernel_rfl) fun a hF => ?_
  refine wpList_nil ?_
  refine hK7 _ _ ?_
  refine wp_ret ?_
  refine hR0 _ _ ?_
  refine ret_of hF hM (.cell (i := 3) rfl rfl (v := .agg #[.int .i64 bn, .int .i64 bd]) (by kernel_rfl) (.tmp rfl (.nil))) ?_
  exact ⟨rfl, hM.bel⟩

theorem raMin_fst (an ad bn bd : Int) (w0 : World) (hT : Tab w0) (h1 : raE an ad = 0) (h2 : raE bn bd = 0) (h3 : ¬ 0 < rcV an ad bn bd) :
    Calls Tryd.prog 32 #[.agg #[.int .i64 an, .int .i64 ad], .agg #[.int .i64 bn, .int .i64 bd]] w0 (Ret w0 (.tuple #[.agg #[.int .i64 an, .int .i64 ad], .int .i64 0])) := by
  refine enterK 22 Tryd.func32 rfl rfl rfl ?_
  intro a hF Q0 hR0 hN0
  have hM := Mem.start w0
  have hz1 := raE_ok h1
  have hz2 := raE_ok h2
  refine wp_seq_k fun K1 hK1 => ?_
  refine wp_region_lit ?_
  refine wl (eN 2 1 (t := 23) (fun b => .pointer (some ⟨b, 0, none⟩)) #[.int .i64 an, .int .i64 ad] hF hM (by kernel_rfl) (fun _ => by kernel_rfl) fun bb1 a w hF hM => ?_)
  refine wl (eN 3 2 (t := 23) (fun b => .pointer (some ⟨b, 0, none⟩)) #[.int .i64 bn, .int .i64 bd] hF hM (by kernel_rfl) (fun _ => by kernel_rfl) fun bb2 a w hF hM => ?_)
  refine wl (eN 4 3 (t := 23) (fun b => .pointer (some ⟨b, 0, none⟩)) #[.int .i64 0, .int .i64 0] hF hM (by kernel_rfl) (fun _ => by kernel_rfl) fun bb3 a w hF hM => ?_)
  refine sB 1 [(5, .int .i64 0)] hF (by kernel_rfl) fun a hF => ?_
  refine wpList_nil ?_
  refine hK1 _ _ ?_
  refine wp_seq_k fun K2 hK2 => ?_
  refine wp_region_lit ?_
  refine wl (eL 9 1 0 (v := .agg #[.int .i64 an, .int .i64 ad]) hF hM (by kernel_rfl) rfl rfl (by kernel_rfl) (by kernel_rfl) fun a w hF hM => ?_)
  refine wl (eL 10 2 0 (v := .agg #[.int .i64 bn, .int .i64 bd]) hF hM (by kernel_rfl) rfl rfl (by kernel_rfl) (by kernel_rfl) fun a w hF hM => ?_)
  refine wl (eM 11 (v := .tuple #[.int .i64 (rcV an ad bn bd), .int .i64 0]) hF hM (by kernel_rfl) (yld_call (f := 25) (args := #[.agg #[.int .i64 an, .int .i64 ad], .agg #[.int .i64 bn, .int .i64 bd]]) hF (by kernel_rfl) (fun _ => by kernel_rfl) (fun w hM => raCmp_ok an ad bn bd w (hT.below (Nat.le_refl _) hM.bel) h1 h2)) fun a w hF hM => ?_)
  have := rcV_bd an ad bn bd
  refine sB 5 [(8, .tuple #[.int .i64 (rcV an ad bn bd), .int .i64 0]), (12, .int .i64 (rcV an ad bn bd)), (13, .int .i64 0), (6, .int .i64 (rcV an ad bn bd)), (7, .int .i64 0)] hF (by kernel_rfl) fun a hF => ?_
  refine wpList_nil ?_
  refine hK2 _ _ ?_
  refine wp_seq_k fun K3 hK3 => ?_
  refine wp_seq_k fun K4 hK4 => ?_
  refine wp_region_lit ?_
  refine sB 1 [(14, .int .i64 0)] hF (by kernel_rfl) fun a hF => ?_
  refine wl (eP 15 (v0 := .bool (!decide (0 = 0))) (v := .bool false) hF (by kernel_rfl) (fun _ => by kernel_rfl) (nT (by omega)) fun a hF => ?_)
  refine wpList_nil ?_
  refine hK4 _ _ ?_
  refine cF hF (by kernel_rfl) (by kernel_rfl) ?_
  refine wp_skip ?_
  refine hK3 _ _ ?_
  refine wp_seq_k fun K5 hK5 => ?_
  refine wp_seq_k fun K6 hK6 => ?_
  refine wp_region_lit ?_
  refine sB 1 [(18, .int .i64 (rcV an ad bn bd))] hF (by kernel_rfl) fun a hF => ?_
  refine wl (eP 19 (v0 := .bool (decide (0 < rcV an ad bn bd))) (v := .bool false) hF (by kernel_rfl) (fun _ => by kernel_rfl) (bF h3) fun a hF => ?_)
  refine wpList_nil ?_
  refine hK6 _ _ ?_
  refine cF hF (by kernel_rfl) (by kernel_rfl) ?_
  refine wp_skip ?_
  refine hK5 _ _ ?_
  refine wp_seq_k fun K7 hK7 => ?_
  refine wp_region_lit ?_
  refine wl (eL 21 1 0 (v := .agg #[.int .i64 an, .int .i64 ad]) hF hM (by kernel_rfl) rfl rfl (by kernel_rfl) (by kernel_rfl) fun a w hF hM => ?_)
  refine wl (sStore (i := 3) (off := 0) (cs' := #[.int .i64 an, .int .i64 ad]) hF hM (by kernel_rfl) rfl rfl (by kernel_rfl) (by kernel_rfl) rfl (by kernel_rfl) fun w hM => ?_)
  refine sB 1 [(5, .int .i64 0)] hF (by kernel_rfl) fun a hF => ?_
  refine wpList_nil ?_
  refine hK7 _ _ ?_
  refine wp_ret ?_
  refine hR0 _ _ ?_
  refine ret_of hF hM (.cell (i := 3) rfl rfl (v := .agg #[.int .i64 an, .int .i64 ad]) (by kernel_rfl) (.tmp rfl (.nil))) ?_
  exact ⟨rfl, hM.bel⟩

theorem raMin_no (an ad bn bd : Int) (w0 : World) (hT : Tab w0) (h : ¬ (raE an ad = 0 ∧ raE bn bd = 0)) :
    Calls Tryd.prog 32 #[.agg #[.int .i64 an, .int .i64 ad], .agg #[.int .i64 bn, .int .i64 bd]] w0 (Ret w0 (.tuple #[.agg #[.int .i64 0, .int .i64 0], .int .i64 120])) := by
  refine enterK 22 Tryd.func32 rfl rfl rfl ?_
  intro a hF Q0 hR0 hN0
  have hM := Mem.start w0
  refine wp_seq_k fun K1 hK1 => ?_
  refine wp_region_lit ?_
  refine wl (eN 2 1 (t := 23) (fun b => .pointer (some ⟨b, 0, none⟩)) #[.int .i64 an, .int .i64 ad] hF hM (by kernel_rfl) (fun _ => by kernel_rfl) fun bb1 a w hF hM => ?_)
  refine wl (eN 3 2 (t := 23) (fun b => .pointer (some ⟨b, 0, none⟩)) #[.int .i64 bn, .int .i64 bd] hF hM (by kernel_rfl) (fun _ => by kernel_rfl) fun bb2 a w hF hM => ?_)
  refine wl (eN 4 3 (t := 23) (fun b => .pointer (some ⟨b, 0, none⟩)) #[.int .i64 0, .int .i64 0] hF hM (by kernel_rfl) (fun _ => by kernel_rfl) fun bb3 a w hF hM => ?_)
  refine sB 1 [(5, .int .i64 0)] hF (by kernel_rfl) fun a hF => ?_
  refine wpList_nil ?_
  refine hK1 _ _ ?_
  refine wp_seq_k fun K2 hK2 => ?_
  by_cases hz1 : raE an ad = 0
  · skip
    have hz2 := raE_ok hz1
    by_cases hz3 : raE bn bd = 0
    · skip
      have hz4 := raE_ok hz3
      exact absurd ⟨hz1, hz3⟩ h
    · skip
      refine wp_region_lit ?_
      refine wl (eL 9 1 0 (v := .agg #[.int .i64 an, .int .i64 ad]) hF hM (by kernel_rfl) rfl rfl (by kernel_rfl) (by kernel_rfl) fun a w hF hM => ?_)
      refine wl (eL 10 2 0 (v := .agg #[.int .i64 bn, .int .i64 bd]) hF hM (by kernel_rfl) rfl rfl (by kernel_rfl) (by kernel_rfl) fun a w hF hM => ?_)
      refine wl (eM 11 (v := .tuple #[.int .i64 0, .int .i64 120]) hF hM (by kernel_rfl) (yld_call (f := 25) (args := #[.agg #[.int .i64 an, .int .i64 ad], .agg #[.int .i64 bn, .int .i64 bd]]) hF (by kernel_rfl) (fun _ => by kernel_rfl) (fun w hM => raCmp_no an ad bn bd w (hT.below (Nat.le_refl _) hM.bel) (fun q => hz3 q.2))) fun a w hF hM => ?_)
      refine sB 5 [(8, .tuple #[.int .i64 0, .int .i64 120]), (12, .int .i64 0), (13, .int .i64 120), (6, .int .i64 0), (7, .int .i64 120)] hF (by kernel_rfl) fun a hF => ?_
      refine wpList_nil ?_
      refine hK2 _ _ ?_
      refine wp_seq_k fun K3 hK3 => ?_
      refine wp_seq_k fun K4 hK4 => ?_
      refine wp_region_lit ?_
      refine sB 1 [(14, .int .i64 120)] hF (by kernel_rfl) fun a hF => ?_
      refine wl (eP 15 (v0 := .bool (!decide (120 = 0))) (v := .bool true) hF (by kernel_rfl) (fun _ => by kernel_rfl) (nF (by omega)) fun a hF => ?_)
      refine wpList_nil ?_
      refine hK4 _ _ ?_
      refine cT hF (by kernel_rfl) (by kernel_rfl) ?_
      refine wp_seq_k fun K5 hK5 => ?_
      refine wp_region_lit ?_
      refine sB 2 [(16, .agg #[.int .i64 0, .int .i64 0]), (17, .int .i64 120)] hF (by kernel_rfl) fun a hF => ?_
      refine wl (sStore (i := 3) (off := 0) (cs' := #[.int .i64 0, .int .i64 0]) hF hM (by kernel_rfl) rfl rfl (by kernel_rfl) (by kernel_rfl) rfl (by kernel_rfl) fun w hM => ?_)
      refine sB 1 [(5, .int .i64 120)] hF (by kernel_rfl) fun a hF => ?_
      refine wpList_nil ?_
      refine hK5 _ _ ?_
      refine wp_ret ?_
      refine hR0 _ _ ?_
      refine ret_of hF hM (.cell (i := 3) rfl rfl (v := .agg #[.int .i64 0, .int .i64 0]) (by kernel_rfl) (.tmp rfl (.nil))) ?_
      exact ⟨rfl, hM.bel⟩
  · skip
    refine wp_region_lit ?_
    refine wl (eL 9 1 0 (v := .agg #[.int .i64 an, .int .i64 ad]) hF hM (by kernel_rfl) rfl rfl (by kernel_rfl) (by kernel_rfl) fun a w hF hM => ?_)
    refine wl (eL 10 2 0 (v := .agg #[.int .i64 bn, .int .i64 bd]) hF hM (by kernel_rfl) rfl rfl (by kernel_rfl) (by kernel_rfl) fun a w hF hM => ?_)
    refine wl (eM 11 (v := .tuple #[.int .i64 0, .int .i64 120]) hF hM (by kernel_rfl) (yld_call (f := 25) (args := #[.agg #[.int .i64 an, .int .i64 ad], .agg #[.int .i64 bn, .int .i64 bd]]) hF (by kernel_rfl) (fun _ => by kernel_rfl) (fun w hM => raCmp_no an ad bn bd w (hT.below (Nat.le_refl _) hM.bel) (fun q => hz1 q.1))) fun a w hF hM => ?_)
    refine sB 5 [(8, .tuple #[.int .i64 0, .int .i64 120]), (12, .int .i64 0), (13, .int .i64 120), (6, .int .i64 0), (7, .int .i64 120)] hF (by kernel_rfl) fun a hF => ?_
    refine wpList_nil ?_
    refine hK2 _ _ ?_
    refine wp_seq_k fun K6 hK6 => ?_
    refine wp_seq_k fun K7 hK7 => ?_
    refine wp_region_lit ?_
    refine sB 1 [(14, .int .i64 120)] hF (by kernel_rfl) fun a hF => ?_
    refine wl (eP 15 (v0 := .bool (!decide (120 = 0))) (v := .bool true) hF (by kernel_rfl) (fun _ => by kernel_rfl) (nF (by omega)) fun a hF => ?_)
    refine wpList_nil ?_
    refine hK7 _ _ ?_
    refine cT hF (by kernel_rfl) (by kernel_rfl) ?_
    refine wp_seq_k fun K8 hK8 => ?_
    refine wp_region_lit ?_
    refine sB 2 [(16, .agg #[.int .i64 0, .int .i64 0]), (17, .int .i64 120)] hF (by kernel_rfl) fun a hF => ?_
    refine wl (sStore (i := 3) (off := 0) (cs' := #[.int .i64 0, .int .i64 0]) hF hM (by kernel_rfl) rfl rfl (by kernel_rfl) (by kernel_rfl) rfl (by kernel_rfl) fun w hM => ?_)
    refine sB 1 [(5, .int .i64 120)] hF (by kernel_rfl) fun a hF => ?_
    refine wpList_nil ?_
    refine hK8 _ _ ?_
    refine wp_ret ?_
    refine hR0 _ _ ?_
    refine ret_of hF hM (.cell (i := 3) rfl rfl (v := .agg #[.int .i64 0, .int .i64 0]) (by kernel_rfl) (.tmp rfl (.nil))) ?_
    exact ⟨rfl, hM.bel⟩

theorem rbMax_snd (an ad bn bd : Int) (w0 : World) (h1 : raE an ad = 0) (h2 : raE bn bd = 0) (h3 : rcV an ad bn bd < 0) :
    Calls Tryd.prog 34 #[.agg #[.int .i64 an, .int .i64 ad], .agg #[.int .i64 bn, .int .i64 bd]] w0 (Ret w0 (.tuple #[.agg #[.int .i64 bn, .int .i64 bd], .int .i64 0])) := by
  refine enterK 22 Tryd.func34 rfl rfl rfl ?_
  intro a hF Q0 hR0 hN0
  have hM := Mem.start w0
  have hz1 := raE_ok h1
  have hz2 := raE_ok h2
  refine wp_seq_k fun K1 hK1 => ?_
  refine wp_region_lit ?_
  refine wl (eN 2 1 (t := 23) (fun b => .pointer (some ⟨b, 0, none⟩)) #[.int .i64 an, .int .i64 ad] hF hM (by kernel_rfl) (fun _ => by kernel_rfl) fun bb1 a w hF hM => ?_)
  refine wl (eN 3 2 (t := 23) (fun b => .pointer (some ⟨b, 0, none⟩)) #[.int .i64 bn, .int .i64 bd] hF hM (by kernel_rfl) (fun _ => by kernel_rfl) fun bb2 a w hF hM => ?_)
  refine wl (eN 4 3 (t := 23) (fun b => .pointer (some ⟨b, 0, none⟩)) #[.int .i64 0, .int .i64 0] hF hM (by kernel_rfl) (fun _ => by kernel_rfl) fun bb3 a w hF hM => ?_)
  refine sB 1 [(5, .int .i64 0)] hF (by kernel_rfl) fun a hF => ?_
  refine wpList_nil ?_
  refine hK1 _ _ ?_
  refine wp_seq_k fun K2 hK2 => ?_
  refine wp_region_lit ?_
  refine wl (eL 9 1 0 (v := .agg #[.int .i64 an, .int .i64 ad]) hF hM (by kernel_rfl) rfl rfl (by kernel_rfl) (by kernel_rfl) fun a w hF hM => ?_)
  refine wl (eL 10 2 0 (v := .agg #[.int .i64 bn, .int .i64 bd]) hF hM (by kernel_rfl) rfl rfl (by kernel_rfl) (by kernel_rfl) fun a w hF hM => ?_)
  refine wl (eM 11 (v := .tuple #[.int .i64 (rcV an ad bn bd), .int .i64 0]) hF hM (by kernel_rfl) (yld_call (f := 31) (args := #[.agg #[.int .i64 an, .int .i64 ad], .agg #[.int .i64 bn, .int .i64 bd]]) hF (by kernel_rfl) (fun _ => by kernel_rfl) (fun w hM => rbCmp_ok an ad bn bd w h1 h2)) fun a w hF hM => ?_)
  have := rcV_bd an ad bn bd
  refine sB 5 [(8, .tuple #[.int .i64 (rcV an ad bn bd), .int .i64 0]), (12, .int .i64 (rcV an ad bn bd)), (13, .int .i64 0), (6, .int .i64 (rcV an ad bn bd)), (7, .int .i64 0)] hF (by kernel_rfl) fun a hF => ?_
  refine wpList_nil ?_
  refine hK2 _ _ ?_
  refine wp_seq_k fun K3 hK3 => ?_
  refine wp_seq_k fun K4 hK4 => ?_
  refine wp_region_lit ?_
  refine sB 1 [(14, .int .i64 0)] hF (by kernel_rfl) fun a hF => ?_
  refine wl (eP 15 (v0 := .bool (!decide (0 = 0))) (v := .bool false) hF (by kernel_rfl) (fun _ => by kernel_rfl) (nT (by omega)) fun a hF => ?_)
  refine wpList_nil ?_
  refine hK4 _ _ ?_
  refine cF hF (by kernel_rfl) (by kernel_rfl) ?_
  refine wp_skip ?_
  refine hK3 _ _ ?_
  refine wp_seq_k fun K5 hK5 => ?_
  refine wp_seq_k fun K6 hK6 => ?_
  refine wp_region_lit ?_
  refine sB 1 [(18, .int .i64 (rcV an ad bn bd))] hF (by kernel_rfl) fun a hF => ?_
  refine wl (eP 19 (v0 := .bool (decide (rcV an ad bn bd < 0))) (v := .bool true) hF (by kernel_rfl) (fun _ => by kernel_rfl) (bT h3) fun a hF => ?_)
  refine wpList_nil ?_
  refine hK6 _ _ ?_
  refine cT hF (by kernel_rfl) (by kernel_rfl) ?_
  refine wp_seq_k fun K7 hK7 => ?_
  refine wp_region_lit ?_
  refine wl (eL 20 2 0 (v := .agg #[.int .i64 bn, .int .i64 bd]) hF hM (by kernel_rfl) rfl rfl (by kernel_rfl) (by kernel_rfl) fun a w hF hM => ?_)
  refine wl (sStore (i := 3) (off := 0) (cs' := #[.int .i64 bn, .int .i64 bd]) hF hM (by kernel_rfl) rfl rfl (by kernel_rfl) (by kernel_rfl) rfl (by kernel_rfl) fun w hM => ?_)
  refine sB 1 [(5, .int .i64 0)] hF (by kernel_rfl) fun a hF => ?_
  refine wpList_nil ?_
  refine hK7 _ _ ?_
  refine wp_ret ?_
  refine hR0 _ _ ?_
  refine ret_of hF hM (.cell (i := 3) rfl rfl (v := .agg #[.int .i64 bn, .int .i64 bd]) (by kernel_rfl) (.tmp rfl (.nil))) ?_
  exact ⟨rfl, hM.bel⟩

theorem rbMax_fst (an ad bn bd : Int) (w0 : World) (h1 : raE an ad = 0) (h2 : raE bn bd = 0) (h3 : ¬ rcV an ad bn bd < 0) :
    Calls Tryd.prog 34 #[.agg #[.int .i64 an, .int .i64 ad], .agg #[.int .i64 bn, .int .i64 bd]] w0 (Ret w0 (.tuple #[.agg #[.int .i64 an, .int .i64 ad], .int .i64 0])) := by
  refine enterK 22 Tryd.func34 rfl rfl rfl ?_
  intro a hF Q0 hR0 hN0
  have hM := Mem.start w0
  have hz1 := raE_ok h1
  have hz2 := raE_ok h2
  refine wp_seq_k fun K1 hK1 => ?_
  refine wp_region_lit ?_
  refine wl (eN 2 1 (t := 23) (fun b => .pointer (some ⟨b, 0, none⟩)) #[.int .i64 an, .int .i64 ad] hF hM (by kernel_rfl) (fun _ => by kernel_rfl) fun bb1 a w hF hM => ?_)
  refine wl (eN 3 2 (t := 23) (fun b => .pointer (some ⟨b, 0, none⟩)) #[.int .i64 bn, .int .i64 bd] hF hM (by kernel_rfl) (fun _ => by kernel_rfl) fun bb2 a w hF hM => ?_)
  refine wl (eN 4 3 (t := 23) (fun b => .pointer (some ⟨b, 0, none⟩)) #[.int .i64 0, .int .i64 0] hF hM (by kernel_rfl) (fun _ => by kernel_rfl) fun bb3 a w hF hM => ?_)
  refine sB 1 [(5, .int .i64 0)] hF (by kernel_rfl) fun a hF => ?_
  refine wpList_nil ?_
  refine hK1 _ _ ?_
  refine wp_seq_k fun K2 hK2 => ?_
  refine wp_region_lit ?_
  refine wl (eL 9 1 0 (v := .agg #[.int .i64 an, .int .i64 ad]) hF hM (by kernel_rfl) rfl rfl (by kernel_rfl) (by kernel_rfl) fun a w hF hM => ?_)
  refine wl (eL 10 2 0 (v := .agg #[.int .i64 bn, .int .i64 bd]) hF hM (by kernel_rfl) rfl rfl (by kernel_rfl) (by kernel_rfl) fun a w hF hM => ?_)
  refine wl (eM 11 (v := .tuple #[.int .i64 (rcV an ad bn bd), .int .i64 0]) hF hM (by kernel_rfl) (yld_call (f := 31) (args := #[.agg #[.int .i64 an, .int .i64 ad], .agg #[.int .i64 bn, .int .i64 bd]]) hF (by kernel_rfl) (fun _ => by kernel_rfl) (fun w hM => rbCmp_ok an ad bn bd w h1 h2)) fun a w hF hM => ?_)
  have := rcV_bd an ad bn bd
  refine sB 5 [(8, .tuple #[.int .i64 (rcV an ad bn bd), .int .i64 0]), (12, .int .i64 (rcV an ad bn bd)), (13, .int .i64 0), (6, .int .i64 (rcV an ad bn bd)), (7, .int .i64 0)] hF (by kernel_rfl) fun a hF => ?_
  refine wpList_nil ?_
  refine hK2 _ _ ?_
  refine wp_seq_k fun K3 hK3 => ?_
  refine wp_seq_k fun K4 hK4 => ?_
  refine wp_region_lit ?_
  refine sB 1 [(14, .int .i64 0)] hF (by kernel_rfl) fun a hF => ?_
  refine wl (eP 15 (v0 := .bool (!decide (0 = 0))) (v := .bool false) hF (by kernel_rfl) (fun _ => by kernel_rfl) (nT (by omega)) fun a hF => ?_)
  refine wpList_nil ?_
  refine hK4 _ _ ?_
  refine cF hF (by kernel_rfl) (by kernel_rfl) ?_
  refine wp_skip ?_
  refine hK3 _ _ ?_
  refine wp_seq_k fun K5 hK5 => ?_
  refine wp_seq_k fun K6 hK6 => ?_
  refine wp_region_lit ?_
  refine sB 1 [(18, .int .i64 (rcV an ad bn bd))] hF (by kernel_rfl) fun a hF => ?_
  refine wl (eP 19 (v0 := .bool (decide (rcV an ad bn bd < 0))) (v := .bool false) hF (by kernel_rfl) (fun _ => by kernel_rfl) (bF h3) fun a hF => ?_)
  refine wpList_nil ?_
  refine hK6 _ _ ?_
  refine cF hF (by kernel_rfl) (by kernel_rfl) ?_
  refine wp_skip ?_
  refine hK5 _ _ ?_
  refine wp_seq_k fun K7 hK7 => ?_
  refine wp_region_lit ?_
  refine wl (eL 21 1 0 (v := .agg #[.int .i64 an, .int .i64 ad]) hF hM (by kernel_rfl) rfl rfl (by kernel_rfl) (by kernel_rfl) fun a w hF hM => ?_)
  refine wl (sStore (i := 3) (off := 0) (cs' := #[.int .i64 an, .int .i64 ad]) hF hM (by kernel_rfl) rfl rfl (by kernel_rfl) (by kernel_rfl) rfl (by kernel_rfl) fun w hM => ?_)
  refine sB 1 [(5, .int .i64 0)] hF (by kernel_rfl) fun a hF => ?_
  refine wpList_nil ?_
  refine hK7 _ _ ?_
  refine wp_ret ?_
  refine hR0 _ _ ?_
  refine ret_of hF hM (.cell (i := 3) rfl rfl (v := .agg #[.int .i64 an, .int .i64 ad]) (by kernel_rfl) (.tmp rfl (.nil))) ?_
  exact ⟨rfl, hM.bel⟩

theorem rbMax_no (an ad bn bd : Int) (w0 : World) (h : ¬ (raE an ad = 0 ∧ raE bn bd = 0)) :
    Calls Tryd.prog 34 #[.agg #[.int .i64 an, .int .i64 ad], .agg #[.int .i64 bn, .int .i64 bd]] w0 (Ret w0 (.tuple #[.agg #[.int .i64 0, .int .i64 0], .int .i64 120])) := by
  refine enterK 22 Tryd.func34 rfl rfl rfl ?_
  intro a hF Q0 hR0 hN0
  have hM := Mem.start w0
  refine wp_seq_k fun K1 hK1 => ?_
  refine wp_region_lit ?_
  refine wl (eN 2 1 (t := 23) (fun b => .pointer (some ⟨b, 0, none⟩)) #[.int .i64 an, .int .i64 ad] hF hM (by kernel_rfl) (fun _ => by kernel_rfl) fun bb1 a w hF hM => ?_)
  refine wl (eN 3 2 (t := 23) (fun b => .pointer (some ⟨b, 0, none⟩)) #[.int .i64 bn, .int .i64 bd] hF hM (by kernel_rfl) (fun _ => by kernel_rfl) fun bb2 a w hF hM => ?_)
  refine wl (eN 4 3 (t := 23) (fun b => .pointer (some ⟨b, 0, none⟩)) #[.int .i64 0, .int .i64 0] hF hM (by kernel_rfl) (fun _ => by kernel_rfl) fun bb3 a w hF hM => ?_)
  refine sB 1 [(5, .int .i64 0)] hF (by kernel_rfl) fun a hF => ?_
  refine wpList_nil ?_
  refine hK1 _ _ ?_
  refine wp_seq_k fun K2 hK2 => ?_
  by_cases hz1 : raE an ad = 0
  · skip
    have hz2 := raE_ok hz1
    by_cases hz3 : raE bn bd = 0
    · skip
      have hz4 := raE_ok hz3
      exact absurd ⟨hz1, hz3⟩ h
    · skip
      refine wp_region_lit ?_
      refine wl (eL 9 1 0 (v := .agg #[.int .i64 an, .int .i64 ad]) hF hM (by kernel_rfl) rfl rfl (by kernel_rfl) (by kernel_rfl) fun a w hF hM => ?_)
      refine wl (eL 10 2 0 (v := .agg #[.int .i64 bn, .int .i64 bd]) hF hM (by kernel_rfl) rfl rfl (by kernel_rfl) (by kernel_rfl) fun a w hF hM => ?_)
      refine wl (eM 11 (v := .tuple #[.int .i64 0, .int .i64 120]) hF hM (by kernel_rfl) (yld_call (f := 31) (args := #[.agg #[.int .i64 an, .int .i64 ad], .agg #[.int .i64 bn, .int .i64 bd]]) hF (by kernel_rfl) (fun _ => by kernel_rfl) (fun w hM => rbCmp_no an ad bn bd w (fun q => hz3 q.2))) fun a w hF hM => ?_)
      refine sB 5 [(8, .tuple #[.int .i64 0, .int .i64 120]), (12, .int .i64 0), (13, .int .i64 120), (6, .int .i64 0), (7, .int .i64 120)] hF (by kernel_rfl) fun a hF => ?_
      refine wpList_nil ?_
      refine hK2 _ _ ?_
      refine wp_seq_k fun K3 hK3 => ?_
      refine wp_seq_k fun K4 hK4 => ?_
      refine wp_region_lit ?_
      refine sB 1 [(14, .int .i64 120)] hF (by kernel_rfl) fun a hF => ?_
      refine wl (eP 15 (v0 := .bool (!decide (120 = 0))) (v := .bool true) hF (by kernel_rfl) (fun _ => by kernel_rfl) (nF (by omega)) fun a hF => ?_)
      refine wpList_nil ?_
      refine hK4 _ _ ?_
      refine cT hF (by kernel_rfl) (by kernel_rfl) ?_
      refine wp_seq_k fun K5 hK5 => ?_
      refine wp_region_lit ?_
      refine sB 2 [(16, .agg #[.int .i64 0, .int .i64 0]), (17, .int .i64 120)] hF (by kernel_rfl) fun a hF => ?_
      refine wl (sStore (i := 3) (off := 0) (cs' := #[.int .i64 0, .int .i64 0]) hF hM (by kernel_rfl) rfl rfl (by kernel_rfl) (by kernel_rfl) rfl (by kernel_rfl) fun w hM => ?_)
      refine sB 1 [(5, .int .i64 120)] hF (by kernel_rfl) fun a hF => ?_
      refine wpList_nil ?_
      refine hK5 _ _ ?_
      refine wp_ret ?_
      refine hR0 _ _ ?_
      refine ret_of hF hM (.cell (i := 3) rfl rfl (v := .agg #[.int .i64 0, .int .i64 0]) (by kernel_rfl) (.tmp rfl (.nil))) ?_
      exact ⟨rfl, hM.bel⟩
  · skip
    refine wp_region_lit ?_
    refine wl (eL 9 1 0 (v := .agg #[.int .i64 an, .int .i64 ad]) hF hM (by kernel_rfl) rfl rfl (by kernel_rfl) (by kernel_rfl) fun a w hF hM => ?_)
    refine wl (eL 10 2 0 (v := .agg #[.int .i64 bn, .int .i64 bd]) hF hM (by kernel_rfl) rfl rfl (by kernel_rfl) (by kernel_rfl) fun a w hF hM => ?_)
    refine wl (eM 11 (v := .tuple #[.int .i64 0, .int .i64 120]) hF hM (by kernel_rfl) (yld_call (f := 31) (args := #[.agg #[.int .i64 an, .int .i64 ad], .agg #[.int .i64 bn, .int .i64 bd]]) hF (by kernel_rfl) (fun _ => by kernel_rfl) (fun w hM => rbCmp_no an ad bn bd w (fun q => hz1 q.1))) fun a w hF hM => ?_)
    refine sB 5 [(8, .tuple #[.int .i64 0, .int .i64 120]), (12, .int .i64 0), (13, .int .i64 120), (6, .int .i64 0), (7, .int .i64 120)] hF (by kernel_rfl) fun a hF => ?_
    refine wpList_nil ?_
    refine hK2 _ _ ?_
    refine wp_seq_k fun K6 hK6 => ?_
    refine wp_seq_k fun K7 hK7 => ?_
    refine wp_region_lit ?_
    refine sB 1 [(14, .int .i64 120)] hF (by kernel_rfl) fun a hF => ?_
    refine wl (eP 15 (v0 := .bool (!decide (120 = 0))) (v := .bool true) hF (by kernel_rfl) (fun _ => by kernel_rfl) (nF (by omega)) fun a hF => ?_)
    refine wpList_nil ?_
    refine hK7 _ _ ?_
    refine cT hF (by kernel_rfl) (by kernel_rfl) ?_
    refine wp_seq_k fun K8 hK8 => ?_
    refine wp_region_lit ?_
    refine sB 2 [(16, .agg #[.int .i64 0, .int .i64 0]), (17, .int .i64 120)] hF (by kernel_rfl) fun a hF => ?_
    refine wl (sStore (i := 3) (off := 0) (cs' := #[.int .i64 0, .int .i64 0]) hF hM (by kernel_rfl) rfl rfl (by kernel_rfl) (by kernel_rfl) rfl (by kernel_rfl) fun w hM => ?_)
    refine sB 1 [(5, .int .i64 120)] hF (by kernel_rfl) fun a hF => ?_
    refine wpList_nil ?_
    refine hK8 _ _ ?_
    refine wp_ret ?_
    refine hR0 _ _ ?_
    refine ret_of hF hM (.cell (i := 3) rfl rfl (v := .agg #[.int .i64 0, .int .i64 0]) (by kernel_rfl) (.tmp rfl (.nil))) ?_
    exact ⟨rfl, hM.bel⟩

theorem rbMin_snd (an ad bn bd : Int) (w0 : World) (h1 : raE an ad = 0) (h2 : raE bn bd = 0) (h3 : 0 < rcV an ad bn bd) :
    Calls Tryd.prog 33 #[.agg #[.int .i64 an, .int .i64 ad], .agg #[.int .i64 bn, .int .i64 bd]] w0 (Ret w0 (.tuple #[.agg #[.int .i64 bn, .int .i64 bd], .int .i64 0])) := by
  refine enterK 22 Tryd.func33 rfl rfl rfl ?_
  intro a hF Q0 hR0 hN0
  have hM := Mem.start w0
  have hz1 := raE_ok h1
  have hz2 := raE_ok h2
  refine wp_seq_k fun K1 hK1 => ?_
  refine wp_region_lit ?_
  refine wl (eN 2 1 (t := 23) (fun b => .pointer (some ⟨b, 0, none⟩)) #[.int .i64 an, .int .i64 ad] hF hM (by kernel_rfl) (fun _ => by kernel_rfl) fun bb1 a w hF hM => ?_)
  refine wl (eN 3 2 (t := 23) (fun b => .pointer (some ⟨b, 0, none⟩)) #[.int .i64 bn, .int .i64 bd] hF hM (by kernel_rfl) (fun _ => by kernel_rfl) fun bb2 a w hF hM => ?_)
  refine wl (eN 4 3 (t := 23) (fun b => .pointer (some ⟨b, 0, none⟩)) #[.int .i64 0, .int .i64 0] hF hM (by kernel_rfl) (fun _ => by kernel_rfl) fun bb3 a w hF hM => ?_)
  refine sB 1 [(5, .int .i64 0)] hF (by kernel_rfl) fun a hF => ?_
  refine wpList_nil ?_
  refine hK1 _ _ ?_
  refine wp_seq_k fun K2 hK2 => ?_
  refine wp_region_lit ?_
  refine wl (eL 9 1 0 (v := .agg #[.int .i64 an, .int .i64 ad]) hF hM (by kernel_rfl) rfl rfl (by kernel_rfl) (by kernel_rfl) fun a w hF hM => ?_)
  refine wl (eL 10 2 0 (v := .agg #[.int .i64 bn, .int .i64 bd]) hF hM (by kernel_rfl) rfl rfl (by kernel_rfl) (by kernel_rfl) fun a w hF hM => ?_)
  refine wl (eM 11 (v := .tuple #[.int .i64 (rcV an ad bn bd), .int .i64 0]) hF hM (by kernel_rfl) (yld_call (f := 31) (args := #[.agg #[.int .i64 an, .int .i64 ad], .agg #[.int .i64 bn, .int .i64 bd]]) hF (by kernel_rfl) (fun _ => by kernel_rfl) (fun w hM => rbCmp_ok an ad bn bd w h1 h2)) fun a w hF hM => ?_)
  have := rcV_bd an ad bn bd
  refine sB 5 [(8, .tuple #[.int .i64 (rcV an ad bn bd), .int .i64 0]), (12, .int .i64 (rcV an ad bn bd)), (13, .int .i64 0), (6, .int .i64 (rcV an ad bn bd)), (7, .int .i64 0)] hF (by kernel_rfl) fun a hF => ?_
  refine wpList_nil ?_
  refine hK2 _ _ ?_
  refine wp_seq_k fun K3 hK3 => ?_
  refine wp_seq_k fun K4 hK4 => ?_
  refine wp_region_lit ?_
  refine sB 1 [(14, .int .i64 0)] hF (by kernel_rfl) fun a hF => ?_
  refine wl (eP 15 (v0 := .bool (!decide (0 = 0))) (v := .bool false) hF (by kernel_rfl) (fun _ => by kernel_rfl) (nT (by omega)) fun a hF => ?_)
  refine wpList_nil ?_
  refine hK4 _ _ ?_
  refine cF hF (by kernel_rfl) (by kernel_rfl) ?_
  refine wp_skip ?_
  refine hK3 _ _ ?_
  refine wp_seq_k fun K5 hK5 => ?_
  refine wp_seq_k fun K6 hK6 => ?_
  refine wp_region_lit ?_
  refine sB 1 [(18, .int .i64 (rcV an ad bn bd))] hF (by kernel_rfl) fun a hF => ?_
  refine wl (eP 19 (v0 := .bool (decide (0 < rcV an ad bn bd))) (v := .bool true) hF (by kernel_rfl) (fun _ => by kernel_rfl) (bT h3) fun a hF => ?_)
  refine wpList_nil ?_
  refine hK6 _ _ ?_
  refine cT hF (by kernel_rfl) (by kernel_rfl) ?_
  refine wp_seq_k fun K7 hK7 => ?_
  refine wp_region_lit ?_
  refine wl (eL 20 2 0 (v := .agg #[.int .i64 bn, .int .i64 bd]) hF hM (by kernel_rfl) rfl rfl (by kernel_rfl) (by kernel_rfl) fun a w hF hM => ?_)
  refine wl (sStore (i := 3) (off := 0) (cs' := #[.int .i64 bn, .int .i64 bd]) hF hM (by kernel_rfl) rfl rfl (by kernel_rfl) (by kernel_rfl) rfl (by kernel_rfl) fun w hM => ?_)
  refine sB 1 [(5, .int .i64 0)] hF (by kernel_rfl) fun a hF => ?_
  refine wpList_nil ?_
  refine hK7 _ _ ?_
  refine wp_ret ?_
  refine hR0 _ _ ?_
  refine ret_of hF hM (.cell (i := 3) rfl rfl (v := .agg #[.int .i64 bn, .int .i64 bd]) (by kernel_rfl) (.tmp rfl (.nil))) ?_
  exact ⟨rfl, hM.bel⟩

theorem rbMin_fst (an ad bn bd : Int) (w0 : World) (h1 : raE an ad = 0) (h2 : raE bn bd = 0) (h3 : ¬ 0 < rcV an ad bn bd) :
    Calls Tryd.prog 33 #[.agg #[.int .i64 an, .int .i64 ad], .agg #[.int .i64 bn, .int .i64 bd]] w0 (Ret w0 (.tuple #[.agg #[.int .i64 an, .int .i64 ad], .int .i64 0])) := by
  refine enterK 22 Tryd.func33 rfl rfl rfl ?_
  intro a hF Q0 hR0 hN0
  have hM := Mem.start w0
  have hz1 := raE_ok h1
  have hz2 := raE_ok h2
  refine wp_seq_k fun K1 hK1 => ?_
  refine wp_region_lit ?_
  refine wl (eN 2 1 (t := 23) (fun b => .pointer (some ⟨b, 0, none⟩)) #[.int .i64 an, .int .i64 ad] hF hM (by kernel_rfl) (fun _ => by kernel_rfl) fun bb1 a w hF hM => ?_)
  refine wl (eN 3 2 (t := 23) (fun b => .pointer (some ⟨b, 0, none⟩)) #[.int .i64 bn, .int .i64 bd] hF hM (by kernel_rfl) (fun _ => by kernel_rfl) fun bb2 a w hF hM => ?_)
  refine wl (eN 4 3 (t := 23) (fun b => .pointer (some ⟨b, 0, none⟩)) #[.int .i64 0, .int .i64 0] hF hM (by kernel_rfl) (fun _ => by kernel_rfl) fun bb3 a w hF hM => ?_)
  refine sB 1 [(5, .int .i64 0)] hF (by kernel_rfl) fun a hF => ?_
  refine wpList_nil ?_
  refine hK1 _ _ ?_
  refine wp_seq_k fun K2 hK2 => ?_
  refine wp_region_lit ?_
  refine wl (eL 9 1 0 (v := .agg #[.int .i64 an, .int .i64 ad]) hF hM (by kernel_rfl) rfl rfl (by kernel_rfl) (by kernel_rfl) fun a w hF hM => ?_)
  refine wl (eL 10 2 0 (v := .agg #[.int .i64 bn, .int .i64 bd]) hF hM (by kernel_rfl) rfl rfl (by kernel_rfl) (by kernel_rfl) fun a w hF hM => ?_)
  refine wl (eM 11 (v := .tuple #[.int .i64 (rcV an ad bn bd), .int .i64 0]) hF hM (by kernel_rfl) (yld_call (f := 31) (args := #[.agg #[.int .i64 an, .int .i64 ad], .agg #[.int .i64 bn, .int .i64 bd]]) hF (by kernel_rfl) (fun _ => by kernel_rfl) (fun w hM => rbCmp_ok an ad bn bd w h1 h2)) fun a w hF hM => ?_)
  have := rcV_bd an ad bn bd
  refine sB 5 [(8, .tuple #[.int .i64 (rcV an ad bn bd), .int .i64 0]), (12, .int .i64 (rcV an ad bn bd)), (13, .int .i64 0), (6, .int .i64 (rcV an ad bn bd)), (7, .int .i64 0)] hF (by kernel_rfl) fun a hF => ?_
  refine wpList_nil ?_
  refine hK2 _ _ ?_
  refine wp_seq_k fun K3 hK3 => ?_
  refine wp_seq_k fun K4 hK4 => ?_
  refine wp_region_lit ?_
  refine sB 1 [(14, .int .i64 0)] hF (by kernel_rfl) fun a hF => ?_
  refine wl (eP 15 (v0 := .bool (!decide (0 = 0))) (v := .bool false) hF (by kernel_rfl) (fun _ => by kernel_rfl) (nT (by omega)) fun a hF => ?_)
  refine wpList_nil ?_
  refine hK4 _ _ ?_
  refine cF hF (by kernel_rfl) (by kernel_rfl) ?_
  refine wp_skip ?_
  refine hK3 _ _ ?_
  refine wp_seq_k fun K5 hK5 => ?_
  refine wp_seq_k fun K6 hK6 => ?_
  refine wp_region_lit ?_
  refine sB 1 [(18, .int .i64 (rcV an ad bn bd))] hF (by kernel_rfl) fun a hF => ?_
  refine wl (eP 19 (v0 := .bool (decide (0 < rcV an ad bn bd))) (v := .bool false) hF (by kernel_rfl) (fun _ => by kernel_rfl) (bF h3) fun a hF => ?_)
  refine wpList_nil ?_
  refine hK6 _ _ ?_
  refine cF hF (by kernel_rfl) (by kernel_rfl) ?_
  refine wp_skip ?_
  refine hK5 _ _ ?_
  refine wp_seq_k fun K7 hK7 => ?_
  refine wp_region_lit ?_
  refine wl (eL 21 1 0 (v := .agg #[.int .i64 an, .int .i64 ad]) hF hM (by kernel_rfl) rfl rfl (by kernel_rfl) (by kernel_rfl) fun a w hF hM => ?_)
  refine wl (sStore (i := 3) (off := 0) (cs' := #[.int .i64 an, .int .i64 ad]) hF hM (by kernel_rfl) rfl rfl (by kernel_rfl) (by kernel_rfl) rfl (by kernel_rfl) fun w hM => ?_)
  refine sB 1 [(5, .int .i64 0)] hF (by kernel_rfl) fun a hF => ?_
  refine wpList_nil ?_
  refine hK7 _ _ ?_
  refine wp_ret ?_
  refine hR0 _ _ ?_
  refine ret_of hF hM (.cell (i := 3) rfl rfl (v := .agg #[.int .i64 an, .int .i64 ad]) (by kernel_rfl) (.tmp rfl (.nil))) ?_
  exact ⟨rfl, hM.bel⟩

theorem rbMin_no (an ad bn bd : Int) (w0 : World) (h : ¬ (raE an ad = 0 ∧ raE bn bd = 0)) :
    Calls Tryd.prog 33 #[.agg #[.int .i64 an, .int .i64 ad], .agg #[.int .i64 bn, .int .i64 bd]] w0 (Ret w0 (.tuple #[.agg #[.int .i64 0, .int .i64 0], .int .i64 120])) := by
  refine enterK 22 Tryd.func33 rfl rfl rfl ?_
  intro a hF Q0 hR0 hN0
  have hM := Mem.start w0
  refine wp_seq_k fun K1 hK1 => ?_
  refine wp_region_lit ?_
  refine wl (eN 2 1 (t := 23) (fun b => .pointer (some ⟨b, 0, none⟩)) #[.int .i64 an, .int .i64 ad] hF hM (by kernel_rfl) (fun _ => by kernel_rfl) fun bb1 a w hF hM => ?_)
  refine wl (eN 3 2 (t := 23) (fun b => .pointer (some ⟨b, 0, none⟩)) #[.int .i64 bn, .int .i64 bd] hF hM (by kernel_rfl) (fun _ => by kernel_rfl) fun bb2 a w hF hM => ?_)
  refine wl (eN 4 3 (t := 23) (fun b => .pointer (some ⟨b, 0, none⟩)) #[.int .i64 0, .int .i64 0] hF hM (by kernel_rfl) (fun _ => by kernel_rfl) fun bb3 a w hF hM => ?_)
  refine sB 1 [(5, .int .i64 0)] hF (by kernel_rfl) fun a hF => ?_
  refine wpList_nil ?_
  refine hK1 _ _ ?_
  refine wp_seq_k fun K2 hK2 => ?_
  by_cases hz1 : raE an ad = 0
  · skip
    have hz2 := raE_ok hz1
    by_cases hz3 : raE bn bd = 0
    · skip
      have hz4 := raE_ok hz3
      exact absurd ⟨hz1, hz3⟩ h
    · skip
      refine wp_region_lit ?_
      refine wl (eL 9 1 0 (v := .agg #[.int .i64 an, .int .i64 ad]) hF hM (by kernel_rfl) rfl rfl (by kernel_rfl) (by kernel_rfl) fun a w hF hM => ?_)
      refine wl (eL 10 2 0 (v := .agg #[.int .i64 bn, .int .i64 bd]) hF hM (by kernel_rfl) rfl rfl (by kernel_rfl) (by kernel_rfl) fun a w hF hM => ?_)
      refine wl (eM 11 (v := .tuple #[.int .i64 0, .int .i64 120]) hF hM (by kernel_rfl) (yld_call (f := 31) (args := #[.agg #[.int .i64 an, .int .i64 ad], .agg #[.int .i64 bn, .int .i64 bd]]) hF (by kernel_rfl) (fun _ => by kernel_rfl) (fun w hM => rbCmp_no an ad bn bd w (fun q => hz3 q.2))) fun a w hF hM => ?_)
      refine sB 5 [(8, .tuple #[.int .i64 0, .int .i64 120]), (12, .int .i64 0), (13, .int .i64 120), (6, .int .i64 0), (7, .int .i64 120)] hF (by kernel_rfl) fun a hF => ?_
      refine wpList_nil ?_
      refine hK2 _ _ ?_
      refine wp_seq_k fun K3 hK3 => ?_
      refine wp_seq_k fun K4 hK4 => ?_
      refine wp_region_lit ?_
      refine sB 1 [(14, .int .i64 120)] hF (by kernel_rfl) fun a hF => ?_
      refine wl (eP 15 (v0 := .bool (!decide (120 = 0))) (v := .bool true) hF (by kernel_rfl) (fun _ => by kernel_rfl) (nF (by omega)) fun a hF => ?_)
      refine wpList_nil ?_
      refine hK4 _ _ ?_
      refine cT hF (by kernel_rfl) (by kernel_rfl) ?_
      refine wp_seq_k fun K5 hK5 => ?_
      refine wp_region_lit ?_
      refine sB 2 [(16, .agg #[.int .i64 0, .int .i64 0]), (17, .int .i64 120)] hF (by kernel_rfl) fun a hF => ?_
      refine wl (sStore (i := 3) (off := 0) (cs' := #[.int .i64 0, .int .i64 0]) hF hM (by kernel_rfl) rfl rfl (by kernel_rfl) (by kernel_rfl) rfl (by kernel_rfl) fun w hM => ?_)
      refine sB 1 [(5, .int .i64 120)] hF (by kernel_rfl) fun a hF => ?_
      refine wpList_nil ?_
      refine hK5 _ _ ?_
      refine wp_ret ?_
      refine hR0 _ _ ?_
      refine ret_of hF hM (.cell (i := 3) rfl rfl (v := .agg #[.int .i64 0, .int .i64 0]) (by kernel_rfl) (.tmp rfl (.nil))) ?_
      exact ⟨rfl, hM.bel⟩
  · skip
    refine wp_region_lit ?_
    refine wl (eL 9 1 0 (v := .agg #[.int .i64 an, .int .i64 ad]) hF hM (by kernel_rfl) rfl rfl (by kernel_rfl) (by kernel_rfl) fun a w hF hM => ?_)
    refine wl (eL 10 2 0 (v := .agg #[.int .i64 bn, .int .i64 bd]) hF hM (by kernel_rfl) rfl rfl (by kernel_rfl) (by kernel_rfl) fun a w hF hM => ?_)
    refine wl (eM 11 (v := .tuple #[.int .i64 0, .int .i64 120]) hF hM (by kernel_rfl) (yld_call (f := 31) (args := #[.agg #[.int .i64 an, .int .i64 ad], .agg #[.int .i64 bn, .int .i64 bd]]) hF (by kernel_rfl) (fun _ => by kernel_rfl) (fun w hM => rbCmp_no an ad bn bd w (fun q => hz1 q.1))) fun a w hF hM => ?_)
    refine sB 5 [(8, .tuple #[.int .i64 0, .int .i64 120]), (12, .int .i64 0), (13, .int .i64 120), (6, .int .i64 0), (7, .int .i64 120)] hF (by kernel_rfl) fun a hF => ?_
    refine wpList_nil ?_
    refine hK2 _ _ ?_
    refine wp_seq_k fun K6 hK6 => ?_
    refine wp_seq_k fun K7 hK7 => ?_
    refine wp_region_lit ?_
    refine sB 1 [(14, .int .i64 120)] hF (by kernel_rfl) fun a hF => ?_
    refine wl (eP 15 (v0 := .bool (!decide (120 = 0))) (v := .bool true) hF (by kernel_rfl) (fun _ => by kernel_rfl) (nF (by omega)) fun a hF => ?_)
    refine wpList_nil ?_
    refine hK7 _ _ ?_
    refine cT hF (by kernel_rfl) (by kernel_rfl) ?_
    refine wp_seq_k fun K8 hK8 => ?_
    refine wp_region_lit ?_
    refine sB 2 [(16, .agg #[.int .i64 0, .int .i64 0]), (17, .int .i64 120)] hF (by kernel_rfl) fun a hF => ?_
    refine wl (sStore (i := 3) (off := 0) (cs' := #[.int .i64 0, .int .i64 0]) hF hM (by kernel_rfl) rfl rfl (by kernel_rfl) (by kernel_rfl) rfl (by kernel_rfl) fun w hM => ?_)
    refine sB 1 [(5, .int .i64 120)] hF (by kernel_rfl) fun a hF => ?_
    refine wpList_nil ?_
    refine hK8 _ _ ?_
    refine wp_ret ?_
    refine hR0 _ _ ?_
    refine ret_of hF hM (.cell (i := 3) rfl rfl (v := .agg #[.int .i64 0, .int .i64 0]) (by kernel_rfl) (.tmp rfl (.nil))) ?_
    exact ⟨rfl, hM.bel⟩

theorem raFloor_ok (n d : Int) (w0 : World) (hT : Tab w0) (h : raE n d = 0) :
    Calls Tryd.prog 26 #[.agg #[.int .i64 n, .int .i64 d]] w0 (Ret w0 (.tuple #[.int .i64 (fdV n d), .int .i64 0])) := by
  have hfd := fd_rat h
  refine enterK 21 Tryd.func26 rfl rfl rfl ?_
  intro a hF Q0 hR0 hN0
  have hM := Mem.start w0
  have hz1 := raE_ok h
  refine wp_seq_k fun K1 hK1 => ?_
  refine wp_region_lit ?_
  refine wl (eN 1 1 (t := 23) (fun b => .pointer (some ⟨b, 0, none⟩)) #[.int .i64 n, .int .i64 d] hF hM (by kernel_rfl) (fun _ => by kernel_rfl) fun bb1 a w hF hM => ?_)
  refine sB 2 [(2, .int .i64 0), (3, .int .i64 0)] hF (by kernel_rfl) fun a hF => ?_
  refine wpList_nil ?_
  refine hK1 _ _ ?_
  refine wp_seq_k fun K2 hK2 => ?_
  refine wp_seq_k fun K3 hK3 => ?_
  refine wp_region_lit ?_
  refine wl (eL 7 1 0 (v := .agg #[.int .i64 n, .int .i64 d]) hF hM (by kernel_rfl) rfl rfl (by kernel_rfl) (by kernel_rfl) fun a w hF hM => ?_)
  refine wl (eM 8 (v := .int .i64 (raE n d)) hF hM (by kernel_rfl) (yld_call (f := 12) (args := #[.agg #[.int .i64 n, .int .i64 d]]) hF (by kernel_rfl) (fun _ => by kernel_rfl) (fun w hM => raCheck_w n d w (hT.below (Nat.le_refl _) hM.bel))) fun a w hF hM => ?_)
  refine sB 1 [(4, .int .i64 (raE n d))] hF (by kernel_rfl) fun a hF => ?_
  refine wpList_nil ?_
  refine hK3 _ _ ?_
  refine wp_seq_k fun K4 hK4 => ?_
  refine wp_region_lit ?_
  refine sB 1 [(9, .int .i64 (raE n d))] hF (by kernel_rfl) fun a hF => ?_
  refine wl (eP 10 (v0 := .bool (!decide (raE n d = 0))) (v := .bool false) hF (by kernel_rfl) (fun _ => by kernel_rfl) (nT h) fun a hF => ?_)
  refine wpList_nil ?_
  refine hK4 _ _ ?_
  refine cF hF (by kernel_rfl) (by kernel_rfl) ?_
  refine wp_skip ?_
  refine hK2 _ _ ?_
  refine wp_seq_k fun K5 hK5 => ?_
  refine wp_region_lit ?_
  refine sB 1 [(13, .pointer (some ⟨bb1, 0, none⟩))] hF (by kernel_rfl) fun a hF => ?_
  refine wl (eL 14 1 0 (v := .int .i64 n) hF hM (by kernel_rfl) rfl rfl (by kernel_rfl) (by kernel_rfl) fun a w hF hM => ?_)
  refine sB 1 [(15, .pointer (some ⟨bb1, 1, none⟩))] hF (by kernel_rfl) fun a hF => ?_
  refine wl (eL 16 1 1 (v := .int .i64 d) hF hM (by kernel_rfl) rfl rfl (by kernel_rfl) (by kernel_rfl) fun a w hF hM => ?_)
  refine wl (eM 17 (v := .tuple #[.int .i64 (fdV n d), .bool true]) hF hM (by kernel_rfl) (Yld.to (yld_call (f := 50) (args := #[.int .i64 n, .int .i64 d]) hF (by kernel_rfl) (fun _ => by kernel_rfl) (fun w hM => nFloor_w n d w)) (by rw [hfd])) fun a w hF hM => ?_)
  refine sB 5 [(12, .tuple #[.int .i64 (fdV n d), .bool true]), (18, .int .i64 (fdV n d)), (19, .bool true), (5, .int .i64 (fdV n d)), (6, .bool true)] hF (by kernel_rfl) fun a hF => ?_
  refine wpList_nil ?_
  refine hK5 _ _ ?_
  refine wp_seq_k fun K6 hK6 => ?_
  refine wp_region_lit ?_
  refine sB 3 [(20, .int .i64 (fdV n d)), (2, .int .i64 (fdV n d)), (3, .int .i64 0)] hF (by kernel_rfl) fun a hF => ?_
  refine wpList_nil ?_
  refine hK6 _ _ ?_
  refine wp_ret ?_
  refine hR0 _ _ ?_
  refine ret_of hF hM (.tmp rfl (.tmp rfl (.nil))) ?_
  exact ⟨rfl, hM.bel⟩

theorem raFloor_no (n d : Int) (w0 : World) (hT : Tab w0) (h : ¬ raE n d = 0) :
    Calls Tryd.prog 26 #[.agg #[.int .i64 n, .int .i64 d]] w0 (Ret w0 (.tuple #[.int .i64 0, .int .i64 120])) := by
  refine enterK 21 Tryd.func26 rfl rfl rfl ?_
  intro a hF Q0 hR0 hN0
  have hM := Mem.start w0
  refine wp_seq_k fun K1 hK1 => ?_
  refine wp_region_lit ?_
  refine wl (eN 1 1 (t := 23) (fun b => .pointer (some ⟨b, 0, none⟩)) #[.int .i64 n, .int .i64 d] hF hM (by kernel_rfl) (fun _ => by kernel_rfl) fun bb1 a w hF hM => ?_)
  refine sB 2 [(2, .int .i64 0), (3, .int .i64 0)] hF (by kernel_rfl) fun a hF => ?_
  refine wpList_nil ?_
  refine hK1 _ _ ?_
  refine wp_seq_k fun K2 hK2 => ?_
  refine wp_seq_k fun K3 hK3 => ?_
  refine wp_region_lit ?_
  refine wl (eL 7 1 0 (v := .agg #[.int .i64 n, .int .i64 d]) hF hM (by kernel_rfl) rfl rfl (by kernel_rfl) (by kernel_rfl) fun a w hF hM => ?_)
  refine wl (eM 8 (v := .int .i64 (raE n d)) hF hM (by kernel_rfl) (yld_call (f := 12) (args := #[.agg #[.int .i64 n, .int .i64 d]]) hF (by kernel_rfl) (fun _ => by kernel_rfl) (fun w hM => raCheck_w n d w (hT.below (Nat.le_refl _) hM.bel))) fun a w hF hM => ?_)
  refine sB 1 [(4, .int .i64 (raE n d))] hF (by kernel_rfl) fun a hF => ?_
  refine wpList_nil ?_
  refine hK3 _ _ ?_
  refine wp_seq_k fun K4 hK4 => ?_
  refine wp_region_lit ?_
  refine sB 2 [(9, .int .i64 (raE n d)), (10, .bool (!decide (raE n d = 0)))] hF (by kernel_rfl) fun a hF => ?_
  refine wpList_nil ?_
  refine hK4 _ _ ?_
  by_cases hz1 : raE n d = 0
  · skip
    have hz2 := raE_ok hz1
    exact absurd hz1 h
  · skip
    replace hF := hF.c hF (i := 10) (v := .bool true) rfl (nF hz1)
    refine cT hF (by kernel_rfl) (by kernel_rfl) ?_
    refine wp_seq_k fun K5 hK5 => ?_
    refine wp_region_lit ?_
    refine sB 3 [(11, .int .i64 (raE n d)), (2, .int .i64 0), (3, .int .i64 (raE n d))] hF (by kernel_rfl) fun a hF => ?_
    refine wpList_nil ?_
    refine hK5 _ _ ?_
    refine wp_ret ?_
    refine hR0 _ _ ?_
    refine ret_of hF hM (.tmp rfl (.tmp rfl (.nil))) ?_
    exact ⟨ret_eq (by rw [raE_no h]; rfl), hM.bel⟩

theorem raCeil_ok (n d : Int) (w0 : World) (hT : Tab w0) (h : raE n d = 0) :
    Calls Tryd.prog 27 #[.agg #[.int .i64 n, .int .i64 d]] w0 (Ret w0 (.tuple #[.int .i64 (cdV n d), .int .i64 0])) := by
  have hfd := fd_rat h
  refine enterK 21 Tryd.func27 rfl rfl rfl ?_
  intro a hF Q0 hR0 hN0
  have hM := Mem.start w0
  have hz1 := raE_ok h
  refine wp_seq_k fun K1 hK1 => ?_
  refine wp_region_lit ?_
  refine wl (eN 1 1 (t := 23) (fun b => .pointer (some ⟨b, 0, none⟩)) #[.int .i64 n, .int .i64 d] hF hM (by kernel_rfl) (fun _ => by kernel_rfl) fun bb1 a w hF hM => ?_)
  refine sB 2 [(2, .int .i64 0), (3, .int .i64 0)] hF (by kernel_rfl) fun a hF => ?_
  refine wpList_nil ?_
  refine hK1 _ _ ?_
  refine wp_seq_k fun K2 hK2 => ?_
  refine wp_seq_k fun K3 hK3 => ?_
  refine wp_region_lit ?_
  refine wl (eL 7 1 0 (v := .agg #[.int .i64 n, .int .i64 d]) hF hM (by kernel_rfl) rfl rfl (by kernel_rfl) (by kernel_rfl) fun a w hF hM => ?_)
  refine wl (eM 8 (v := .int .i64 (raE n d)) hF hM (by kernel_rfl) (yld_call (f := 12) (args := #[.agg #[.int .i64 n, .int .i64 d]]) hF (by kernel_rfl) (fun _ => by kernel_rfl) (fun w hM => raCheck_w n d w (hT.below (Nat.le_refl _) hM.bel))) fun a w hF hM => ?_)
  refine sB 1 [(4, .int .i64 (raE n d))] hF (by kernel_rfl) fun a hF => ?_
  refine wpList_nil ?_
  refine hK3 _ _ ?_
  refine wp_seq_k fun K4 hK4 => ?_
  refine wp_region_lit ?_
  refine sB 1 [(9, .int .i64 (raE n d))] hF (by kernel_rfl) fun a hF => ?_
  refine wl (eP 10 (v0 := .bool (!decide (raE n d = 0))) (v := .bool false) hF (by kernel_rfl) (fun _ => by kernel_rfl) (nT h) fun a hF => ?_)
  refine wpList_nil ?_
  refine hK4 _ _ ?_
  refine cF hF (by kernel_rfl) (by kernel_rfl) ?_
  refine wp_skip ?_
  refine hK2 _ _ ?_
  refine wp_seq_k fun K5 hK5 => ?_
  refine wp_region_lit ?_
  refine sB 1 [(13, .pointer (some ⟨bb1, 0, none⟩))] hF (by kernel_rfl) fun a hF => ?_
  refine wl (eL 14 1 0 (v := .int .i64 n) hF hM (by kernel_rfl) rfl rfl (by kernel_rfl) (by kernel_rfl) fun a w hF hM => ?_)
  refine sB 1 [(15, .pointer (some ⟨bb1, 1, none⟩))] hF (by kernel_rfl) fun a hF => ?_
  refine wl (eL 16 1 1 (v := .int .i64 d) hF hM (by kernel_rfl) rfl rfl (by kernel_rfl) (by kernel_rfl) fun a w hF hM => ?_)
  refine wl (eM 17 (v := .tuple #[.int .i64 (cdV n d), .bool true]) hF hM (by kernel_rfl) (Yld.to (yld_call (f := 51) (args := #[.int .i64 n, .int .i64 d]) hF (by kernel_rfl) (fun _ => by kernel_rfl) (fun w hM => nCeil_w n d w)) (by rw [hfd])) fun a w hF hM => ?_)
  refine sB 5 [(12, .tuple #[.int .i64 (cdV n d), .bool true]), (18, .int .i64 (cdV n d)), (19, .bool true), (5, .int .i64 (cdV n d)), (6, .bool true)] hF (by kernel_rfl) fun a hF => ?_
  refine wpList_nil ?_
  refine hK5 _ _ ?_
  refine wp_seq_k fun K6 hK6 => ?_
  refine wp_region_lit ?_
  refine sB 3 [(20, .int .i64 (cdV n d)), (2, .int .i64 (cdV n d)), (3, .int .i64 0)] hF (by kernel_rfl) fun a hF => ?_
  refine wpList_nil ?_
  refine hK6 _ _ ?_
  refine wp_ret ?_
  refine hR0 _ _ ?_
  refine ret_of hF hM (.tmp rfl (.tmp rfl (.nil))) ?_
  exact ⟨rfl, hM.bel⟩

theorem raCeil_no (n d : Int) (w0 : World) (hT : Tab w0) (h : ¬ raE n d = 0) :
    Calls Tryd.prog 27 #[.agg #[.int .i64 n, .int .i64 d]] w0 (Ret w0 (.tuple #[.int .i64 0, .int .i64 120])) := by
  refine enterK 21 Tryd.func27 rfl rfl rfl ?_
  intro a hF Q0 hR0 hN0
  have hM := Mem.start w0
  refine wp_seq_k fun K1 hK1 => ?_
  refine wp_region_lit ?_
  refine wl (eN 1 1 (t := 23) (fun b => .pointer (some ⟨b, 0, none⟩)) #[.int .i64 n, .int .i64 d] hF hM (by kernel_rfl) (fun _ => by kernel_rfl) fun bb1 a w hF hM => ?_)
  refine sB 2 [(2, .int .i64 0), (3, .int .i64 0)] hF (by kernel_rfl) fun a hF => ?_
  refine wpList_nil ?_
  refine hK1 _ _ ?_
  refine wp_seq_k fun K2 hK2 => ?_
  refine wp_seq_k fun K3 hK3 => ?_
  refine wp_region_lit ?_
  refine wl (eL 7 1 0 (v := .agg #[.int .i64 n, .int .i64 d]) hF hM (by kernel_rfl) rfl rfl (by kernel_rfl) (by kernel_rfl) fun a w hF hM => ?_)
  refine wl (eM 8 (v := .int .i64 (raE n d)) hF hM (by kernel_rfl) (yld_call (f := 12) (args := #[.agg #[.int .i64 n, .int .i64 d]]) hF (by kernel_rfl) (fun _ => by kernel_rfl) (fun w hM => raCheck_w n d w (hT.below (Nat.le_refl _) hM.bel))) fun a w hF hM => ?_)
  refine sB 1 [(4, .int .i64 (raE n d))] hF (by kernel_rfl) fun a hF => ?_
  refine wpList_nil ?_
  refine hK3 _ _ ?_
  refine wp_seq_k fun K4 hK4 => ?_
  refine wp_region_lit ?_
  refine sB 2 [(9, .int .i64 (raE n d)), (10, .bool (!decide (raE n d = 0)))] hF (by kernel_rfl) fun a hF => ?_
  refine wpList_nil ?_
  refine hK4 _ _ ?_
  by_cases hz1 : raE n d = 0
  · skip
    have hz2 := raE_ok hz1
    exact absurd hz1 h
  · skip
    replace hF := hF.c hF (i := 10) (v := .bool true) rfl (nF hz1)
    refine cT hF (by kernel_rfl) (by kernel_rfl) ?_
    refine wp_seq_k fun K5 hK5 => ?_
    refine wp_region_lit ?_
    refine sB 3 [(11, .int .i64 (raE n d)), (2, .int .i64 0), (3, .int .i64 (raE n d))] hF (by kernel_rfl) fun a hF => ?_
    refine wpList_nil ?_
    refine hK5 _ _ ?_
    refine wp_ret ?_
    refine hR0 _ _ ?_
    refine ret_of hF hM (.tmp rfl (.tmp rfl (.nil))) ?_
    exact ⟨ret_eq (by rw [raE_no h]; rfl), hM.bel⟩

theorem rbFloor_ok (n d : Int) (w0 : World) (h : raE n d = 0) :
    Calls Tryd.prog 35 #[.agg #[.int .i64 n, .int .i64 d]] w0 (Ret w0 (.tuple #[.int .i64 (fdV n d), .int .i64 0])) := by
  obtain ⟨tq, htq⟩ : ∃ z : Int, z = n.tdiv d := ⟨_, rfl⟩
  obtain ⟨tm, htm⟩ : ∃ z : Int, z = tq * d := ⟨_, rfl⟩
  have hr := raE_ok h
  have hbd := tdiv_bd (a := n) (b := d) (by unfold inR; omega) (by omega)
  have hfl := tdiv_floor (a := n) (b := d) (by omega)
  rw [Int.mul_comm d] at hfl
  rw [← htq, ← htm] at hbd hfl
  refine enterK 23 Tryd.func35 rfl rfl rfl ?_
  intro a hF Q0 hR0 hN0
  have hM := Mem.start w0
  have hz1 := raE_ok h
  refine wp_seq_k fun K1 hK1 => ?_
  refine wp_region_lit ?_
  refine wl (eN 1 1 (t := 23) (fun b => .pointer (some ⟨b, 0, none⟩)) #[.int .i64 n, .int .i64 d] hF hM (by kernel_rfl) (fun _ => by kernel_rfl) fun bb1 a w hF hM => ?_)
  refine sB 2 [(2, .int .i64 0), (3, .int .i64 0)] hF (by kernel_rfl) fun a hF => ?_
  refine wpList_nil ?_
  refine hK1 _ _ ?_
  refine wp_seq_k fun K2 hK2 => ?_
  refine wp_seq_k fun K3 hK3 => ?_
  refine wp_region_lit ?_
  refine wl (eL 5 1 0 (v := .agg #[.int .i64 n, .int .i64 d]) hF hM (by kernel_rfl) rfl rfl (by kernel_rfl) (by kernel_rfl) fun a w hF hM => ?_)
  refine wl (eM 6 (v := .bool true) hF hM (by kernel_rfl) (yld_call (f := 40) (args := #[.agg #[.int .i64 n, .int .i64 d]]) hF (by kernel_rfl) (fun _ => by kernel_rfl) (fun w hM => raRight_yes n d w h)) fun a w hF hM => ?_)
  refine sB 1 [(7, .bool false)] hF (by kernel_rfl) fun a hF => ?_
  refine wpList_nil ?_
  refine hK3 _ _ ?_
  refine cF hF (by kernel_rfl) (by kernel_rfl) ?_
  refine wp_skip ?_
  refine hK2 _ _ ?_
  refine wp_seq_k fun K4 hK4 => ?_
  refine wp_region_lit ?_
  refine sB 1 [(8, .pointer (some ⟨bb1, 0, none⟩))] hF (by kernel_rfl) fun a hF => ?_
  refine wl (eL 9 1 0 (v := .int .i64 n) hF hM (by kernel_rfl) rfl rfl (by kernel_rfl) (by kernel_rfl) fun a w hF hM => ?_)
  refine sB 1 [(10, .pointer (some ⟨bb1, 1, none⟩))] hF (by kernel_rfl) fun a hF => ?_
  refine wl (eL 11 1 1 (v := .int .i64 d) hF hM (by kernel_rfl) rfl rfl (by kernel_rfl) (by kernel_rfl) fun a w hF hM => ?_)
  refine wl (eM 12 (v := .int .i64 tq) hF hM (by kernel_rfl) (yld_quo n d hF rfl (by kernel_rfl) (by kernel_rfl) (by kernel_rfl) (by omega) (by rw [htq]; exact qany (by omega) (by omega))) fun a w hF hM => ?_)
  refine sB 1 [(4, .int .i64 tq)] hF (by kernel_rfl) fun a hF => ?_
  refine wpList_nil ?_
  refine hK4 _ _ ?_
  refine wp_seq_k fun K5 hK5 => ?_
  refine wp_seq_k fun K6 hK6 => ?_
  refine wp_region_lit ?_
  refine sB 2 [(13, .int .i64 tq), (14, .pointer (some ⟨bb1, 1, none⟩))] hF (by kernel_rfl) fun a hF => ?_
  refine wl (eL 15 1 1 (v := .int .i64 d) hF hM (by kernel_rfl) rfl rfl (by kernel_rfl) (by kernel_rfl) fun a w hF hM => ?_)
  refine wl (eP 16 (v0 := .int .i64 (IntKind.i64.wrap (tq * d))) (v := .int .i64 tm) hF (by kernel_rfl) (fun _ => by kernel_rfl) (vi (by rw [← htm]; exact w64 (by omega))) fun a hF => ?_)
  refine sB 1 [(17, .pointer (some ⟨bb1, 0, none⟩))] hF (by kernel_rfl) fun a hF => ?_
  refine wl (eL 18 1 0 (v := .int .i64 n) hF hM (by kernel_rfl) rfl rfl (by kernel_rfl) (by kernel_rfl) fun a w hF hM => ?_)
  refine sB 1 [(19, .bool (decide (n < tm)))] hF (by kernel_rfl) fun a hF => ?_
  refine wpList_nil ?_
  refine hK6 _ _ ?_
  by_cases hz2 : n < tm
  · skip
    replace hF := hF.c hF (i := 19) (v := .bool true) rfl (bT hz2)
    refine cT hF (by kernel_rfl) (by kernel_rfl) ?_
    refine wp_region_lit ?_
    refine sB 1 [(20, .int .i64 tq)] hF (by kernel_rfl) fun a hF => ?_
    refine wl (eP 21 (v0 := .int .i64 (IntKind.i64.wrap (tq - 1))) (v := .int .i64 (tq - 1)) hF (by kernel_rfl) (fun _ => by kernel_rfl) (wi (by omega)) fun a hF => ?_)
    refine sB 1 [(4, .int .i64 (tq - 1))] hF (by kernel_rfl) fun a hF => ?_
    refine wpList_nil ?_
    refine hK5 _ _ ?_
    refine wp_seq_k fun K7 hK7 => ?_
    refine wp_region_lit ?_
    refine sB 3 [(22, .int .i64 (tq - 1)), (2, .int .i64 (tq - 1)), (3, .int .i64 0)] hF (by kernel_rfl) fun a hF => ?_
    refine wpList_nil ?_
    refine hK7 _ _ ?_
    refine wp_ret ?_
    refine hR0 _ _ ?_
    refine ret_of hF hM (.tmp rfl (.tmp rfl (.nil))) ?_
    have hd := fd_yes (a := n) (b := d) (by unfold inR; omega)
    exact ⟨ret_eq (by rw [hd.2.1, show n / d = tq - 1 from by omega]; rfl), hM.bel⟩
  · skip
    replace hF := hF.c hF (i := 19) (v := .bool false) rfl (bF hz2)
    refine cF hF (by kernel_rfl) (by kernel_rfl) ?_
    refine wp_skip ?_
    refine hK5 _ _ ?_
    refine wp_seq_k fun K8 hK8 => ?_
    refine wp_region_lit ?_
    refine sB 3 [(22, .int .i64 tq), (2, .int .i64 tq), (3, .int .i64 0)] hF (by kernel_rfl) fun a hF => ?_
    refine wpList_nil ?_
    refine hK8 _ _ ?_
    refine wp_ret ?_
    refine hR0 _ _ ?_
    refine ret_of hF hM (.tmp rfl (.tmp rfl (.nil))) ?_
    have hd := fd_yes (a := n) (b := d) (by unfold inR; omega)
    exact ⟨ret_eq (by rw [hd.2.1, show n / d = tq from by omega]; rfl), hM.bel⟩

theorem rbFloor_no (n d : Int) (w0 : World) (h : ¬ raE n d = 0) :
    Calls Tryd.prog 35 #[.agg #[.int .i64 n, .int .i64 d]] w0 (Ret w0 (.tuple #[.int .i64 0, .int .i64 120])) := by
  refine enterK 23 Tryd.func35 rfl rfl rfl ?_
  intro a hF Q0 hR0 hN0
  have hM := Mem.start w0
  refine wp_seq_k fun K1 hK1 => ?_
  refine wp_region_lit ?_
  refine wl (eN 1 1 (t := 23) (fun b => .pointer (some ⟨b, 0, none⟩)) #[.int .i64 n, .int .i64 d] hF hM (by kernel_rfl) (fun _ => by kernel_rfl) fun bb1 a w hF hM => ?_)
  refine sB 2 [(2, .int .i64 0), (3, .int .i64 0)] hF (by kernel_rfl) fun a hF => ?_
  refine wpList_nil ?_
  refine hK1 _ _ ?_
  refine wp_seq_k fun K2 hK2 => ?_
  refine wp_seq_k fun K3 hK3 => ?_
  by_cases hz1 : raE n d = 0
  · skip
    have hz2 := raE_ok hz1
    exact absurd hz1 h
  · skip
    refine wp_region_lit ?_
    refine wl (eL 5 1 0 (v := .agg #[.int .i64 n, .int .i64 d]) hF hM (by kernel_rfl) rfl rfl (by kernel_rfl) (by kernel_rfl) fun a w hF hM => ?_)
    refine wl (eM 6 (v := .bool false) hF hM (by kernel_rfl) (yld_call (f := 40) (args := #[.agg #[.int .i64 n, .int .i64 d]]) hF (by kernel_rfl) (fun _ => by kernel_rfl) (fun w hM => raRight_no n d w hz1)) fun a w hF hM => ?_)
    refine sB 1 [(7, .bool true)] hF (by kernel_rfl) fun a hF => ?_
    refine wpList_nil ?_
    refine hK3 _ _ ?_
    refine cT hF (by kernel_rfl) (by kernel_rfl) ?_
    refine wp_seq_k fun K4 hK4 => ?_
    refine wp_region_lit ?_
    refine sB 2 [(2, .int .i64 0), (3, .int .i64 120)] hF (by kernel_rfl) fun a hF => ?_
    refine wpList_nil ?_
    refine hK4 _ _ ?_
    refine wp_ret ?_
    refine hR0 _ _ ?_
    refine ret_of hF hM (.tmp rfl (.tmp rfl (.nil))) ?_
    exact ⟨rfl, hM.bel⟩

theorem rbCeil_ok (n d : Int) (w0 : World) (h : raE n d = 0) :
    Calls Tryd.prog 36 #[.agg #[.int .i64 n, .int .i64 d]] w0 (Ret w0 (.tuple #[.int .i64 (cdV n d), .int .i64 0])) := by
  have hfd := fd_rat h
  have hsp := fd_split hfd
  refine enterK 26 Tryd.func36 rfl rfl rfl ?_
  intro a hF Q0 hR0 hN0
  have hM := Mem.start w0
  have hz1 := raE_ok h
  refine wp_seq_k fun K1 hK1 => ?_
  refine wp_region_lit ?_
  refine wl (eN 1 1 (t := 23) (fun b => .pointer (some ⟨b, 0, none⟩)) #[.int .i64 n, .int .i64 d] hF hM (by kernel_rfl) (fun _ => by kernel_rfl) fun bb1 a w hF hM => ?_)
  refine sB 2 [(2, .int .i64 0), (3, .int .i64 0)] hF (by kernel_rfl) fun a hF => ?_
  refine wpList_nil ?_
  refine hK1 _ _ ?_
  refine wp_seq_k fun K2 hK2 => ?_
  refine wp_region_lit ?_
  refine wl (eL 7 1 0 (v := .agg #[.int .i64 n, .int .i64 d]) hF hM (by kernel_rfl) rfl rfl (by kernel_rfl) (by kernel_rfl) fun a w hF hM => ?_)
  refine wl (eM 8 (v := .tuple #[.int .i64 (fdV n d), .int .i64 0]) hF hM (by kernel_rfl) (yld_call (f := 35) (args := #[.agg #[.int .i64 n, .int .i64 d]]) hF (by kernel_rfl) (fun _ => by kernel_rfl) (fun w hM => rbFloor_ok n d w h)) fun a w hF hM => ?_)
  refine sB 5 [(6, .tuple #[.int .i64 (fdV n d), .int .i64 0]), (9, .int .i64 (fdV n d)), (10, .int .i64 0), (4, .int .i64 (fdV n d)), (5, .int .i64 0)] hF (by kernel_rfl) fun a hF => ?_
  refine wpList_nil ?_
  refine hK2 _ _ ?_
  refine wp_seq_k fun K3 hK3 => ?_
  refine wp_seq_k fun K4 hK4 => ?_
  refine wp_region_lit ?_
  refine sB 1 [(11, .int .i64 0)] hF (by kernel_rfl) fun a hF => ?_
  refine wl (eP 12 (v0 := .bool (decide (0 = 0))) (v := .bool true) hF (by kernel_rfl) (fun _ => by kernel_rfl) (bT (by omega)) fun a hF => ?_)
  refine sB 3 [(13, .bool true), (14, .int .i64 (fdV n d)), (15, .pointer (some ⟨bb1, 1, none⟩))] hF (by kernel_rfl) fun a hF => ?_
  refine wl (eL 16 1 1 (v := .int .i64 d) hF hM (by kernel_rfl) rfl rfl (by kernel_rfl) (by kernel_rfl) fun a w hF hM => ?_)
  refine wl (eP 17 (v0 := .int .i64 (IntKind.i64.wrap (fdV n d * d))) (v := .int .i64 (fdV n d * d)) hF (by kernel_rfl) (fun _ => by kernel_rfl) (wi (by omega)) fun a hF => ?_)
  refine sB 1 [(18, .pointer (some ⟨bb1, 0, none⟩))] hF (by kernel_rfl) fun a hF => ?_
  refine wl (eL 19 1 0 (v := .int .i64 n) hF hM (by kernel_rfl) rfl rfl (by kernel_rfl) (by kernel_rfl) fun a w hF hM => ?_)
  refine sB 2 [(20, .bool (decide (fdV n d * d < n))), (21, .bool (decide (fdV n d * d < n)))] hF (by kernel_rfl) fun a hF => ?_
  refine wpList_nil ?_
  refine hK4 _ _ ?_
  by_cases hz2 : fdV n d * d < n
  · skip
    replace hF := hF.c hF (i := 20) (v := .bool true) rfl (bT hz2)
    replace hF := hF.c hF (i := 21) (v := .bool true) rfl (bT hz2)
    refine cT hF (by kernel_rfl) (by kernel_rfl) ?_
    refine wp_region_lit ?_
    refine sB 1 [(22, .int .i64 (fdV n d))] hF (by kernel_rfl) fun a hF => ?_
    refine wl (eP 23 (v0 := .int .i64 (IntKind.i64.wrap (fdV n d + 1))) (v := .int .i64 (fdV n d + 1)) hF (by kernel_rfl) (fun _ => by kernel_rfl) (wi (by omega)) fun a hF => ?_)
    refine sB 1 [(4, .int .i64 (fdV n d + 1))] hF (by kernel_rfl) fun a hF => ?_
    refine wpList_nil ?_
    refine hK3 _ _ ?_
    refine wp_seq_k fun K5 hK5 => ?_
    refine wp_region_lit ?_
    refine sB 4 [(24, .int .i64 (fdV n d + 1)), (25, .int .i64 0), (2, .int .i64 (fdV n d + 1)), (3, .int .i64 0)] hF (by kernel_rfl) fun a hF => ?_
    refine wpList_nil ?_
    refine hK5 _ _ ?_
    refine wp_ret ?_
    refine hR0 _ _ ?_
    refine ret_of hF hM (.tmp rfl (.tmp rfl (.nil))) ?_
    have hd := (fd_ceil hfd).1 hz2
    exact ⟨ret_eq (by rw [hd]; rfl), hM.bel⟩
  · skip
    replace hF := hF.c hF (i := 20) (v := .bool false) rfl (bF hz2)
    replace hF := hF.c hF (i := 21) (v := .bool false) rfl (bF hz2)
    refine cF hF (by kernel_rfl) (by kernel_rfl) ?_
    refine wp_skip ?_
    refine hK3 _ _ ?_
    refine wp_seq_k fun K6 hK6 => ?_
    refine wp_region_lit ?_
    refine sB 4 [(24, .int .i64 (fdV n d)), (25, .int .i64 0), (2, .int .i64 (fdV n d)), (3, .int .i64 0)] hF (by kernel_rfl) fun a hF => ?_
    refine wpList_nil ?_
    refine hK6 _ _ ?_
    refine wp_ret ?_
    refine hR0 _ _ ?_
    refine ret_of hF hM (.tmp rfl (.tmp rfl (.nil))) ?_
    have hd := (fd_ceil hfd).2 hz2
    exact ⟨ret_eq (by rw [hd]; rfl), hM.bel⟩

theorem rbCeil_no (n d : Int) (w0 : World) (h : ¬ raE n d = 0) :
    Calls Tryd.prog 36 #[.agg #[.int .i64 n, .int .i64 d]] w0 (Ret w0 (.tuple #[.int .i64 0, .int .i64 120])) := by
  refine enterK 26 Tryd.func36 rfl rfl rfl ?_
  intro a hF Q0 hR0 hN0
  have hM := Mem.start w0
  refine wp_seq_k fun K1 hK1 => ?_
  refine wp_region_lit ?_
  refine wl (eN 1 1 (t := 23) (fun b => .pointer (some ⟨b, 0, none⟩)) #[.int .i64 n, .int .i64 d] hF hM (by kernel_rfl) (fun _ => by kernel_rfl) fun bb1 a w hF hM => ?_)
  refine sB 2 [(2, .int .i64 0), (3, .int .i64 0)] hF (by kernel_rfl) fun a hF => ?_
  refine wpList_nil ?_
  refine hK1 _ _ ?_
  refine wp_seq_k fun K2 hK2 => ?_
  by_cases hz1 : raE n d = 0
  · skip
    have hz2 := raE_ok hz1
    exact absurd hz1 h
  · skip
    refine wp_region_lit ?_
    refine wl (eL 7 1 0 (v := .agg #[.int .i64 n, .int .i64 d]) hF hM (by kernel_rfl) rfl rfl (by kernel_rfl) (by kernel_rfl) fun a w hF hM => ?_)
    refine wl (eM 8 (v := .tuple #[.int .i64 0, .int .i64 120]) hF hM (by kernel_rfl) (yld_call (f := 35) (args := #[.agg #[.int .i64 n, .int .i64 d]]) hF (by kernel_rfl) (fun _ => by kernel_rfl) (fun w hM => rbFloor_no n d w hz1)) fun a w hF hM => ?_)
    refine sB 5 [(6, .tuple #[.int .i64 0, .int .i64 120]), (9, .int .i64 0), (10, .int .i64 120), (4, .int .i64 0), (5, .int .i64 120)] hF (by kernel_rfl) fun a hF => ?_
    refine wpList_nil ?_
    refine hK2 _ _ ?_
    refine wp_seq_k fun K3 hK3 => ?_
    refine wp_seq_k fun K4 hK4 => ?_
    refine wp_region_lit ?_
    refine sB 1 [(11, .int .i64 120)] hF (by kernel_rfl) fun a hF => ?_
    refine wl (eP 12 (v0 := .bool (decide (120 = 0))) (v := .bool false) hF (by kernel_rfl) (fun _ => by kernel_rfl) (bF (by omega)) fun a hF => ?_)
    refine sB 9 [(13, .bool false), (14, undef), (15, undef), (16, undef), (17, undef), (18, undef), (19, undef), (20, undef), (21, .bool false)] hF (by kernel_rfl) fun a hF => ?_
    refine wpList_nil ?_
    refine hK4 _ _ ?_
    refine cF hF (by kernel_rfl) (by kernel_rfl) ?_
    refine wp_skip ?_
    refine hK3 _ _ ?_
    refine wp_seq_k fun K5 hK5 => ?_
    refine wp_region_lit ?_
    refine sB 4 [(24, .int .i64 0), (25, .int .i64 120), (2, .int .i64 0), (3, .int .i64 120)] hF (by kernel_rfl) fun a hF => ?_
    refine wpList_nil ?_
    refine hK5 _ _ ?_
    refine wp_ret ?_
    refine hR0 _ _ ?_
    refine ret_of hF hM (.tmp rfl (.tmp rfl (.nil))) ?_
    exact ⟨rfl, hM.bel⟩

end Go.Proofs.YtboodcekjooehaaDoor
