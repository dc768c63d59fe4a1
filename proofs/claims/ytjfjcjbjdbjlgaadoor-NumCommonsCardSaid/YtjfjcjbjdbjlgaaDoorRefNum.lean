/-
  The reference of package num.
-/
import Derived.Test.YtjfjcjbjdbjlgaaDoorLcmW
namespace Go.Proofs.YtjfjcjbjdbjlgaaDoor
open Go.RowKit
set_option linter.unusedVariables false
set_option linter.unusedSimpArgs false

theorem rIn_yes (x : Int) (w0 : World) (h : -1125899906842624 ≤ x ∧ x ≤ 1125899906842624) :
    Calls Tryd.prog 33 #[.int .i64 x] w0 (Ret w0 (.bool true)) := by
  refine enterK 9 Tryd.func33 rfl rfl rfl ?_
  intro a hF Q0 hR0 hN0
  have hM := Mem.start w0
  refine wp_seq_k fun K1 hK1 => ?_
  refine wp_region_lit ?_
  refine sB 1 [(2, .bool false)] hF (by kernel_rfl) fun a hF => ?_
  refine wpList_nil ?_
  refine hK1 _ _ ?_
  refine wp_seq_k fun K2 hK2 => ?_
  refine wp_region_lit ?_
  refine sB 1 [(3, .int .i64 x)] hF (by kernel_rfl) fun a hF => ?_
  refine wl (eP 4 (v0 := .bool (decide (-1125899906842624 ≤ x))) (v := .bool true) hF (by kernel_rfl) (fun _ => by kernel_rfl) (bT (by omega)) fun a hF => ?_)
  refine sB 2 [(5, .bool true), (6, .int .i64 x)] hF (by kernel_rfl) fun a hF => ?_
  refine wl (eP 7 (v0 := .bool (decide (x ≤ 1125899906842624))) (v := .bool true) hF (by kernel_rfl) (fun _ => by kernel_rfl) (bT (by omega)) fun a hF => ?_)
  refine sB 2 [(8, .bool true), (2, .bool true)] hF (by kernel_rfl) fun a hF => ?_
  refine wpList_nil ?_
  refine hK2 _ _ ?_
  refine wp_ret ?_
  refine hR0 _ _ ?_
  refine ret_of hF hM (.tmp rfl (.nil)) ?_
  exact ⟨rfl, hM.bel⟩

theorem rIn_no (x : Int) (w0 : World) (h : ¬ (-1125899906842624 ≤ x ∧ x ≤ 1125899906842624)) :
    Calls Tryd.prog 33 #[.int .i64 x] w0 (Ret w0 (.bool false)) := by
  refine enterK 9 Tryd.func33 rfl rfl rfl ?_
  intro a hF Q0 hR0 hN0
  have hM := Mem.start w0
  refine wp_seq_k fun K1 hK1 => ?_
  refine wp_region_lit ?_
  refine sB 1 [(2, .bool false)] hF (by kernel_rfl) fun a hF => ?_
  refine wpList_nil ?_
  refine hK1 _ _ ?_
  refine wp_seq_k fun K2 hK2 => ?_
  by_cases hz1 : -1125899906842624 ≤ x
  · skip
    refine wp_region_lit ?_
    refine sB 1 [(3, .int .i64 x)] hF (by kernel_rfl) fun a hF => ?_
    refine wl (eP 4 (v0 := .bool (decide (-1125899906842624 ≤ x))) (v := .bool true) hF (by kernel_rfl) (fun _ => by kernel_rfl) (bT hz1) fun a hF => ?_)
    refine sB 5 [(5, .bool true), (6, .int .i64 x), (7, .bool (decide (x ≤ 1125899906842624))), (8, .bool (decide (x ≤ 1125899906842624))), (2, .bool (decide (x ≤ 1125899906842624)))] hF (by kernel_rfl) fun a hF => ?_
    refine wpList_nil ?_
    refine hK2 _ _ ?_
    refine wp_ret ?_
    refine hR0 _ _ ?_
    refine ret_of hF hM (.tmp rfl (.nil)) ?_
    exact ⟨ret_bool (decide_eq_false (by omega)), hM.bel⟩
  · skip
    refine wp_region_lit ?_
    refine sB 1 [(3, .int .i64 x)] hF (by kernel_rfl) fun a hF => ?_
    refine wl (eP 4 (v0 := .bool (decide (-1125899906842624 ≤ x))) (v := .bool false) hF (by kernel_rfl) (fun _ => by kernel_rfl) (bF hz1) fun a hF => ?_)
    refine sB 5 [(5, .bool false), (6, undef), (7, undef), (8, .bool false), (2, .bool false)] hF (by kernel_rfl) fun a hF => ?_
    refine wpList_nil ?_
    refine hK2 _ _ ?_
    refine wp_ret ?_
    refine hR0 _ _ ?_
    refine ret_of hF hM (.tmp rfl (.nil)) ?_
    exact ⟨rfl, hM.bel⟩

theorem rAbs_w (x : Int) (w0 : World) (h : -1125899906842624 ≤ x ∧ x ≤ 1125899906842624) :
    Calls Tryd.prog 39 #[.int .i64 x] w0 (Ret w0 (.int .i64 (x.natAbs : Int))) := by
  refine enterK 7 Tryd.func39 rfl rfl rfl ?_
  intro a hF Q0 hR0 hN0
  have hM := Mem.start w0
  refine wp_seq_k fun K1 hK1 => ?_
  refine wp_region_lit ?_
  refine sB 1 [(2, .int .i64 0)] hF (by kernel_rfl) fun a hF => ?_
  refine wpList_nil ?_
  refine hK1 _ _ ?_
  refine wp_seq_k fun K2 hK2 => ?_
  refine wp_region_lit ?_
  refine sB 2 [(3, .int .i64 x), (4, .int .i64 x)] hF (by kernel_rfl) fun a hF => ?_
  refine wl (eP 5 (v0 := .int .i64 (IntKind.i64.wrap (0 - x))) (v := .int .i64 (-x)) hF (by kernel_rfl) (fun _ => by kernel_rfl) (vi (by rw [Int.zero_sub]; exact (w64 (by omega)))) fun a hF => ?_)
  refine wl (eP 6 (v0 := .int .i64 (if -x > x then -x else x)) (v := .int .i64 (max x (-x))) hF (by kernel_rfl) (fun _ => by kernel_rfl) (vi (max_if _ _)) fun a hF => ?_)
  refine sB 1 [(2, .int .i64 (max x (-x)))] hF (by kernel_rfl) fun a hF => ?_
  refine wpList_nil ?_
  refine hK2 _ _ ?_
  refine wp_ret ?_
  refine hR0 _ _ ?_
  refine ret_of hF hM (.tmp rfl (.nil)) ?_
  exact ⟨ret_int (by omega), hM.bel⟩

theorem rAdd_w (xa xb : Int) (w0 : World) :
    Calls Tryd.prog 27 #[.int .i64 xa, .int .i64 xb] w0 (Ret w0 (.tuple #[.int .i64 (suV (xa + xb) xa xb), .bool (suB (xa + xb) xa xb)])) := by
  refine enterK 20 Tryd.func27 rfl rfl rfl ?_
  intro a hF Q0 hR0 hN0
  have hM := Mem.start w0
  refine wp_seq_k fun K1 hK1 => ?_
  refine wp_region_lit ?_
  refine sB 2 [(4, .int .i64 0), (5, .bool false)] hF (by kernel_rfl) fun a hF => ?_
  refine wpList_nil ?_
  refine hK1 _ _ ?_
  refine wp_seq_k fun K2 hK2 => ?_
  refine wp_seq_k fun K3 hK3 => ?_
  by_cases hz1 : -1125899906842624 ≤ xa
  · skip
    by_cases hz2 : xa ≤ 1125899906842624
    · skip
      by_cases hz3 : -1125899906842624 ≤ xb
      · skip
        by_cases hz4 : xb ≤ 1125899906842624
        · skip
          refine wp_region_lit ?_
          refine sB 1 [(6, .int .i64 xa)] hF (by kernel_rfl) fun a hF => ?_
          refine wl (eM 7 (v := .bool true) hF hM (by kernel_rfl) (yld_call (f := 33) (args := #[.int .i64 xa]) hF (by kernel_rfl) (fun _ => by kernel_rfl) (fun w hM => rIn_yes xa w (by omega))) fun a w hF hM => ?_)
          refine sB 3 [(8, .bool false), (9, .bool false), (10, .int .i64 xb)] hF (by kernel_rfl) fun a hF => ?_
          refine wl (eM 11 (v := .bool true) hF hM (by kernel_rfl) (yld_call (f := 33) (args := #[.int .i64 xb]) hF (by kernel_rfl) (fun _ => by kernel_rfl) (fun w hM => rIn_yes xb w (by omega))) fun a w hF hM => ?_)
          refine sB 2 [(12, .bool false), (13, .bool false)] hF (by kernel_rfl) fun a hF => ?_
          refine wpList_nil ?_
          refine hK3 _ _ ?_
          refine cF hF (by kernel_rfl) (by kernel_rfl) ?_
          refine wp_skip ?_
          refine hK2 _ _ ?_
          refine wp_seq_k fun K4 hK4 => ?_
          refine wp_region_lit ?_
          refine sB 2 [(14, .int .i64 xa), (15, .int .i64 xb)] hF (by kernel_rfl) fun a hF => ?_
          refine wl (eP 16 (v0 := .int .i64 (IntKind.i64.wrap (xa + xb))) (v := .int .i64 (xa + xb)) hF (by kernel_rfl) (fun _ => by kernel_rfl) (wi (by omega)) fun a hF => ?_)
          refine wl (sC (f := 40) (args := #[.int .i64 (xa + xb)]) hF (by kernel_rfl) rfl (by decide) (by kernel_rfl) (fun _ => by kernel_rfl) ?_)
          refine enterK 8 Tryd.func40 rfl rfl rfl ?_
          intro a1 hF1 QR5 hR5 hNR5
          refine wp_seq_k fun K6 hK6 => ?_
          refine wp_region_lit ?_
          refine sB 2 [(2, .int .i64 0), (3, .bool false)] hF1 (by kernel_rfl) fun a1 hF1 => ?_
          refine wpList_nil ?_
          refine hK6 _ _ ?_
          refine wp_seq_k fun K7 hK7 => ?_
          refine wp_seq_k fun K8 hK8 => ?_
          by_cases hz5 : -1125899906842624 ≤ xa + xb
          · skip
            by_cases hz6 : xa + xb ≤ 1125899906842624
            · skip
              refine wp_region_lit ?_
              refine sB 1 [(4, .int .i64 (xa + xb))] hF1 (by kernel_rfl) fun a1 hF1 => ?_
              refine wl (eM 5 (v := .bool true) hF1 hM (by kernel_rfl) (yld_call (f := 33) (args := #[.int .i64 (xa + xb)]) hF1 (by kernel_rfl) (fun _ => by kernel_rfl) (fun w hM => rIn_yes (xa + xb) w (by omega))) fun a1 w hF1 hM => ?_)
              refine sB 1 [(6, .bool false)] hF1 (by kernel_rfl) fun a1 hF1 => ?_
              refine wpList_nil ?_
              refine hK8 _ _ ?_
              refine cF hF1 (by kernel_rfl) (by kernel_rfl) ?_
              refine wp_skip ?_
              refine hK7 _ _ ?_
              refine wp_seq_k fun K9 hK9 => ?_
              refine wp_region_lit ?_
              refine sB 3 [(7, .int .i64 (xa + xb)), (2, .int .i64 (xa + xb)), (3, .bool true)] hF1 (by kernel_rfl) fun a1 hF1 => ?_
              refine wpList_nil ?_
              refine hK9 _ _ ?_
              refine wp_ret ?_
              refine hR5 _ _ ?_
              refine ret_of hF1 hM (.tmp rfl (.tmp rfl (.nil))) ⟨_, rfl, ?_⟩
              intro a hF
              refine sB 4 [(18, .int .i64 (xa + xb)), (19, .bool true), (4, .int .i64 (xa + xb)), (5, .bool true)] hF (by kernel_rfl) fun a hF => ?_
              refine wpList_nil ?_
              refine hK4 _ _ ?_
              refine wp_ret ?_
              refine hR0 _ _ ?_
              refine ret_of hF hM (.tmp rfl (.tmp rfl (.nil))) ?_
              have hsu := su_yes (x := xa + xb) (a := xa) (b := xb) (by unfold inR; omega)
              exact ⟨ret_eq (by rw [hsu.1, hsu.2]; rfl), hM.bel⟩
            · skip
              refine wp_region_lit ?_
              refine sB 1 [(4, .int .i64 (xa + xb))] hF1 (by kernel_rfl) fun a1 hF1 => ?_
              refine wl (eM 5 (v := .bool false) hF1 hM (by kernel_rfl) (yld_call (f := 33) (args := #[.int .i64 (xa + xb)]) hF1 (by kernel_rfl) (fun _ => by kernel_rfl) (fun w hM => rIn_no (xa + xb) w (by omega))) fun a1 w hF1 hM => ?_)
              refine sB 1 [(6, .bool true)] hF1 (by kernel_rfl) fun a1 hF1 => ?_
              refine wpList_nil ?_
              refine hK8 _ _ ?_
              refine cT hF1 (by kernel_rfl) (by kernel_rfl) ?_
              refine wp_seq_k fun K10 hK10 => ?_
              refine wp_region_lit ?_
              refine sB 2 [(2, .int .i64 0), (3, .bool false)] hF1 (by kernel_rfl) fun a1 hF1 => ?_
              refine wpList_nil ?_
              refine hK10 _ _ ?_
              refine wp_ret ?_
              refine hR5 _ _ ?_
              refine ret_of hF1 hM (.tmp rfl (.tmp rfl (.nil))) ⟨_, rfl, ?_⟩
              intro a hF
              refine sB 4 [(18, .int .i64 0), (19, .bool false), (4, .int .i64 0), (5, .bool false)] hF (by kernel_rfl) fun a hF => ?_
              refine wpList_nil ?_
              refine hK4 _ _ ?_
              refine wp_ret ?_
              refine hR0 _ _ ?_
              refine ret_of hF hM (.tmp rfl (.tmp rfl (.nil))) ?_
              have hsu := su_no (x := xa + xb) (a := xa) (b := xb) (by unfold inR; omega)
              exact ⟨ret_eq (by rw [hsu.1, hsu.2]; rfl), hM.bel⟩
          · skip
            refine wp_region_lit ?_
            refine sB 1 [(4, .int .i64 (xa + xb))] hF1 (by kernel_rfl) fun a1 hF1 => ?_
            refine wl (eM 5 (v := .bool false) hF1 hM (by kernel_rfl) (yld_call (f := 33) (args := #[.int .i64 (xa + xb)]) hF1 (by kernel_rfl) (fun _ => by kernel_rfl) (fun w hM => rIn_no (xa + xb) w (by omega))) fun a1 w hF1 hM => ?_)
            refine sB 1 [(6, .bool true)] hF1 (by kernel_rfl) fun a1 hF1 => ?_
            refine wpList_nil ?_
            refine hK8 _ _ ?_
            refine cT hF1 (by kernel_rfl) (by kernel_rfl) ?_
            refine wp_seq_k fun K11 hK11 => ?_
            refine wp_region_lit ?_
            refine sB 2 [(2, .int .i64 0), (3, .bool false)] hF1 (by kernel_rfl) fun a1 hF1 => ?_
            refine wpList_nil ?_
            refine hK11 _ _ ?_
            refine wp_ret ?_
            refine hR5 _ _ ?_
            refine ret_of hF1 hM (.tmp rfl (.tmp rfl (.nil))) ⟨_, rfl, ?_⟩
            intro a hF
            refine sB 4 [(18, .int .i64 0), (19, .bool false), (4, .int .i64 0), (5, .bool false)] hF (by kernel_rfl) fun a hF => ?_
            refine wpList_nil ?_
            refine hK4 _ _ ?_
            refine wp_ret ?_
            refine hR0 _ _ ?_
            refine ret_of hF hM (.tmp rfl (.tmp rfl (.nil))) ?_
            have hsu := su_no (x := xa + xb) (a := xa) (b := xb) (by unfold inR; omega)
            exact ⟨ret_eq (by rw [hsu.1, hsu.2]; rfl), hM.bel⟩
        · skip
          refine wp_region_lit ?_
          refine sB 1 [(6, .int .i64 xa)] hF (by kernel_rfl) fun a hF => ?_
          refine wl (eM 7 (v := .bool true) hF hM (by kernel_rfl) (yld_call (f := 33) (args := #[.int .i64 xa]) hF (by kernel_rfl) (fun _ => by kernel_rfl) (fun w hM => rIn_yes xa w (by omega))) fun a w hF hM => ?_)
          refine sB 3 [(8, .bool false), (9, .bool false), (10, .int .i64 xb)] hF (by kernel_rfl) fun a hF => ?_
          refine wl (eM 11 (v := .bool false) hF hM (by kernel_rfl) (yld_call (f := 33) (args := #[.int .i64 xb]) hF (by kernel_rfl) (fun _ => by kernel_rfl) (fun w hM => rIn_no xb w (by omega))) fun a w hF hM => ?_)
          refine sB 2 [(12, .bool true), (13, .bool true)] hF (by kernel_rfl) fun a hF => ?_
          refine wpList_nil ?_
          refine hK3 _ _ ?_
          refine cT hF (by kernel_rfl) (by kernel_rfl) ?_
          refine wp_seq_k fun K12 hK12 => ?_
          refine wp_region_lit ?_
          refine sB 2 [(4, .int .i64 0), (5, .bool false)] hF (by kernel_rfl) fun a hF => ?_
          refine wpList_nil ?_
          refine hK12 _ _ ?_
          refine wp_ret ?_
          refine hR0 _ _ ?_
          refine ret_of hF hM (.tmp rfl (.tmp rfl (.nil))) ?_
          have hsu := su_no (x := xa + xb) (a := xa) (b := xb) (by unfold inR; omega)
          exact ⟨ret_eq (by rw [hsu.1, hsu.2]; rfl), hM.bel⟩
      · skip
        refine wp_region_lit ?_
        refine sB 1 [(6, .int .i64 xa)] hF (by kernel_rfl) fun a hF => ?_
        refine wl (eM 7 (v := .bool true) hF hM (by kernel_rfl) (yld_call (f := 33) (args := #[.int .i64 xa]) hF (by kernel_rfl) (fun _ => by kernel_rfl) (fun w hM => rIn_yes xa w (by omega))) fun a w hF hM => ?_)
        refine sB 3 [(8, .bool false), (9, .bool false), (10, .int .i64 xb)] hF (by kernel_rfl) fun a hF => ?_
        refine wl (eM 11 (v := .bool false) hF hM (by kernel_rfl) (yld_call (f := 33) (args := #[.int .i64 xb]) hF (by kernel_rfl) (fun _ => by kernel_rfl) (fun w hM => rIn_no xb w (by omega))) fun a w hF hM => ?_)
        refine sB 2 [(12, .bool true), (13, .bool true)] hF (by kernel_rfl) fun a hF => ?_
        refine wpList_nil ?_
        refine hK3 _ _ ?_
        refine cT hF (by kernel_rfl) (by kernel_rfl) ?_
        refine wp_seq_k fun K13 hK13 => ?_
        refine wp_region_lit ?_
        refine sB 2 [(4, .int .i64 0), (5, .bool false)] hF (by kernel_rfl) fun a hF => ?_
        refine wpList_nil ?_
        refine hK13 _ _ ?_
        refine wp_ret ?_
        refine hR0 _ _ ?_
        refine ret_of hF hM (.tmp rfl (.tmp rfl (.nil))) ?_
        have hsu := su_no (x := xa + xb) (a := xa) (b := xb) (by unfold inR; omega)
        exact ⟨ret_eq (by rw [hsu.1, hsu.2]; rfl), hM.bel⟩
    · skip
      refine wp_region_lit ?_
      refine sB 1 [(6, .int .i64 xa)] hF (by kernel_rfl) fun a hF => ?_
      refine wl (eM 7 (v := .bool false) hF hM (by kernel_rfl) (yld_call (f := 33) (args := #[.int .i64 xa]) hF (by kernel_rfl) (fun _ => by kernel_rfl) (fun w hM => rIn_no xa w (by omega))) fun a w hF hM => ?_)
      refine sB 6 [(8, .bool true), (9, .bool true), (10, undef), (11, undef), (12, undef), (13, .bool true)] hF (by kernel_rfl) fun a hF => ?_
      refine wpList_nil ?_
      refine hK3 _ _ ?_
      refine cT hF (by kernel_rfl) (by kernel_rfl) ?_
      refine wp_seq_k fun K14 hK14 => ?_
      refine wp_region_lit ?_
      refine sB 2 [(4, .int .i64 0), (5, .bool false)] hF (by kernel_rfl) fun a hF => ?_
      refine wpList_nil ?_
      refine hK14 _ _ ?_
      refine wp_ret ?_
      refine hR0 _ _ ?_
      refine ret_of hF hM (.tmp rfl (.tmp rfl (.nil))) ?_
      have hsu := su_no (x := xa + xb) (a := xa) (b := xb) (by unfold inR; omega)
      exact ⟨ret_eq (by rw [hsu.1, hsu.2]; rfl), hM.bel⟩
  · skip
    refine wp_region_lit ?_
    refine sB 1 [(6, .int .i64 xa)] hF (by kernel_rfl) fun a hF => ?_
    refine wl (eM 7 (v := .bool false) hF hM (by kernel_rfl) (yld_call (f := 33) (args := #[.int .i64 xa]) hF (by kernel_rfl) (fun _ => by kernel_rfl) (fun w hM => rIn_no xa w (by omega))) fun a w hF hM => ?_)
    refine sB 6 [(8, .bool true), (9, .bool true), (10, undef), (11, undef), (12, undef), (13, .bool true)] hF (by kernel_rfl) fun a hF => ?_
    refine wpList_nil ?_
    refine hK3 _ _ ?_
    refine cT hF (by kernel_rfl) (by kernel_rfl) ?_
    refine wp_seq_k fun K15 hK15 => ?_
    refine wp_region_lit ?_
    refine sB 2 [(4, .int .i64 0), (5, .bool false)] hF (by kernel_rfl) fun a hF => ?_
    refine wpList_nil ?_
    refine hK15 _ _ ?_
    refine wp_ret ?_
    refine hR0 _ _ ?_
    refine ret_of hF hM (.tmp rfl (.tmp rfl (.nil))) ?_
    have hsu := su_no (x := xa + xb) (a := xa) (b := xb) (by unfold inR; omega)
    exact ⟨ret_eq (by rw [hsu.1, hsu.2]; rfl), hM.bel⟩

theorem rSub_w (xa xb : Int) (w0 : World) :
    Calls Tryd.prog 29 #[.int .i64 xa, .int .i64 xb] w0 (Ret w0 (.tuple #[.int .i64 (suV (xa - xb) xa xb), .bool (suB (xa - xb) xa xb)])) := by
  refine enterK 20 Tryd.func29 rfl rfl rfl ?_
  intro a hF Q0 hR0 hN0
  have hM := Mem.start w0
  refine wp_seq_k fun K1 hK1 => ?_
  refine wp_region_lit ?_
  refine sB 2 [(4, .int .i64 0), (5, .bool false)] hF (by kernel_rfl) fun a hF => ?_
  refine wpList_nil ?_
  refine hK1 _ _ ?_
  refine wp_seq_k fun K2 hK2 => ?_
  refine wp_seq_k fun K3 hK3 => ?_
  by_cases hz1 : -1125899906842624 ≤ xa
  · skip
    by_cases hz2 : xa ≤ 1125899906842624
    · skip
      by_cases hz3 : -1125899906842624 ≤ xb
      · skip
        by_cases hz4 : xb ≤ 1125899906842624
        · skip
          refine wp_region_lit ?_
          refine sB 1 [(6, .int .i64 xa)] hF (by kernel_rfl) fun a hF => ?_
          refine wl (eM 7 (v := .bool true) hF hM (by kernel_rfl) (yld_call (f := 33) (args := #[.int .i64 xa]) hF (by kernel_rfl) (fun _ => by kernel_rfl) (fun w hM => rIn_yes xa w (by omega))) fun a w hF hM => ?_)
          refine sB 3 [(8, .bool false), (9, .bool false), (10, .int .i64 xb)] hF (by kernel_rfl) fun a hF => ?_
          refine wl (eM 11 (v := .bool true) hF hM (by kernel_rfl) (yld_call (f := 33) (args := #[.int .i64 xb]) hF (by kernel_rfl) (fun _ => by kernel_rfl) (fun w hM => rIn_yes xb w (by omega))) fun a w hF hM => ?_)
          refine sB 2 [(12, .bool false), (13, .bool false)] hF (by kernel_rfl) fun a hF => ?_
          refine wpList_nil ?_
          refine hK3 _ _ ?_
          refine cF hF (by kernel_rfl) (by kernel_rfl) ?_
          refine wp_skip ?_
          refine hK2 _ _ ?_
          refine wp_seq_k fun K4 hK4 => ?_
          refine wp_region_lit ?_
          refine sB 2 [(14, .int .i64 xa), (15, .int .i64 xb)] hF (by kernel_rfl) fun a hF => ?_
          refine wl (eP 16 (v0 := .int .i64 (IntKind.i64.wrap (xa - xb))) (v := .int .i64 (xa - xb)) hF (by kernel_rfl) (fun _ => by kernel_rfl) (wi (by omega)) fun a hF => ?_)
          refine wl (sC (f := 40) (args := #[.int .i64 (xa - xb)]) hF (by kernel_rfl) rfl (by decide) (by kernel_rfl) (fun _ => by kernel_rfl) ?_)
          refine enterK 8 Tryd.func40 rfl rfl rfl ?_
          intro a1 hF1 QR5 hR5 hNR5
          refine wp_seq_k fun K6 hK6 => ?_
          refine wp_region_lit ?_
          refine sB 2 [(2, .int .i64 0), (3, .bool false)] hF1 (by kernel_rfl) fun a1 hF1 => ?_
          refine wpList_nil ?_
          refine hK6 _ _ ?_
          refine wp_seq_k fun K7 hK7 => ?_
          refine wp_seq_k fun K8 hK8 => ?_
          by_cases hz5 : -1125899906842624 ≤ xa - xb
          · skip
            by_cases hz6 : xa - xb ≤ 1125899906842624
            · skip
              refine wp_region_lit ?_
              refine sB 1 [(4, .int .i64 (xa - xb))] hF1 (by kernel_rfl) fun a1 hF1 => ?_
              refine wl (eM 5 (v := .bool true) hF1 hM (by kernel_rfl) (yld_call (f := 33) (args := #[.int .i64 (xa - xb)]) hF1 (by kernel_rfl) (fun _ => by kernel_rfl) (fun w hM => rIn_yes (xa - xb) w (by omega))) fun a1 w hF1 hM => ?_)
              refine sB 1 [(6, .bool false)] hF1 (by kernel_rfl) fun a1 hF1 => ?_
              refine wpList_nil ?_
              refine hK8 _ _ ?_
              refine cF hF1 (by kernel_rfl) (by kernel_rfl) ?_
              refine wp_skip ?_
              refine hK7 _ _ ?_
              refine wp_seq_k fun K9 hK9 => ?_
              refine wp_region_lit ?_
              refine sB 3 [(7, .int .i64 (xa - xb)), (2, .int .i64 (xa - xb)), (3, .bool true)] hF1 (by kernel_rfl) fun a1 hF1 => ?_
              refine wpList_nil ?_
              refine hK9 _ _ ?_
              refine wp_ret ?_
              refine hR5 _ _ ?_
              refine ret_of hF1 hM (.tmp rfl (.tmp rfl (.nil))) ⟨_, rfl, ?_⟩
              intro a hF
              refine sB 4 [(18, .int .i64 (xa - xb)), (19, .bool true), (4, .int .i64 (xa - xb)), (5, .bool true)] hF (by kernel_rfl) fun a hF => ?_
              refine wpList_nil ?_
              refine hK4 _ _ ?_
              refine wp_ret ?_
              refine hR0 _ _ ?_
              refine ret_of hF hM (.tmp rfl (.tmp rfl (.nil))) ?_
              have hsu := su_yes (x := xa - xb) (a := xa) (b := xb) (by unfold inR; omega)
              exact ⟨ret_eq (by rw [hsu.1, hsu.2]; rfl), hM.bel⟩
            · skip
              refine wp_region_lit ?_
              refine sB 1 [(4, .int .i64 (xa - xb))] hF1 (by kernel_rfl) fun a1 hF1 => ?_
              refine wl (eM 5 (v := .bool false) hF1 hM (by kernel_rfl) (yld_call (f := 33) (args := #[.int .i64 (xa - xb)]) hF1 (by kernel_rfl) (fun _ => by kernel_rfl) (fun w hM => rIn_no (xa - xb) w (by omega))) fun a1 w hF1 hM => ?_)
              refine sB 1 [(6, .bool true)] hF1 (by kernel_rfl) fun a1 hF1 => ?_
              refine wpList_nil ?_
              refine hK8 _ _ ?_
              refine cT hF1 (by kernel_rfl) (by kernel_rfl) ?_
              refine wp_seq_k fun K10 hK10 => ?_
              refine wp_region_lit ?_
              refine sB 2 [(2, .int .i64 0), (3, .bool false)] hF1 (by kernel_rfl) fun a1 hF1 => ?_
              refine wpList_nil ?_
              refine hK10 _ _ ?_
              refine wp_ret ?_
              refine hR5 _ _ ?_
              refine ret_of hF1 hM (.tmp rfl (.tmp rfl (.nil))) ⟨_, rfl, ?_⟩
              intro a hF
              refine sB 4 [(18, .int .i64 0), (19, .bool false), (4, .int .i64 0), (5, .bool false)] hF (by kernel_rfl) fun a hF => ?_
              refine wpList_nil ?_
              refine hK4 _ _ ?_
              refine wp_ret ?_
              refine hR0 _ _ ?_
              refine ret_of hF hM (.tmp rfl (.tmp rfl (.nil))) ?_
              have hsu := su_no (x := xa - xb) (a := xa) (b := xb) (by unfold inR; omega)
              exact ⟨ret_eq (by rw [hsu.1, hsu.2]; rfl), hM.bel⟩
          · skip
            refine wp_region_lit ?_
            refine sB 1 [(4, .int .i64 (xa - xb))] hF1 (by kernel_rfl) fun a1 hF1 => ?_
            refine wl (eM 5 (v := .bool false) hF1 hM (by kernel_rfl) (yld_call (f := 33) (args := #[.int .i64 (xa - xb)]) hF1 (by kernel_rfl) (fun _ => by kernel_rfl) (fun w hM => rIn_no (xa - xb) w (by omega))) fun a1 w hF1 hM => ?_)
            refine sB 1 [(6, .bool true)] hF1 (by kernel_rfl) fun a1 hF1 => ?_
            refine wpList_nil ?_
            refine hK8 _ _ ?_
            refine cT hF1 (by kernel_rfl) (by kernel_rfl) ?_
            refine wp_seq_k fun K11 hK11 => ?_
            refine wp_region_lit ?_
            refine sB 2 [(2, .int .i64 0), (3, .bool false)] hF1 (by kernel_rfl) fun a1 hF1 => ?_
            refine wpList_nil ?_
            refine hK11 _ _ ?_
            refine wp_ret ?_
            refine hR5 _ _ ?_
            refine ret_of hF1 hM (.tmp rfl (.tmp rfl (.nil))) ⟨_, rfl, ?_⟩
            intro a hF
            refine sB 4 [(18, .int .i64 0), (19, .bool false), (4, .int .i64 0), (5, .bool false)] hF (by kernel_rfl) fun a hF => ?_
            refine wpList_nil ?_
            refine hK4 _ _ ?_
            refine wp_ret ?_
            refine hR0 _ _ ?_
            refine ret_of hF hM (.tmp rfl (.tmp rfl (.nil))) ?_
            have hsu := su_no (x := xa - xb) (a := xa) (b := xb) (by unfold inR; omega)
            exact ⟨ret_eq (by rw [hsu.1, hsu.2]; rfl), hM.bel⟩
        · skip
          refine wp_region_lit ?_
          refine sB 1 [(6, .int .i64 xa)] hF (by kernel_rfl) fun a hF => ?_
          refine wl (eM 7 (v := .bool true) hF hM (by kernel_rfl) (yld_call (f := 33) (args := #[.int .i64 xa]) hF (by kernel_rfl) (fun _ => by kernel_rfl) (fun w hM => rIn_yes xa w (by omega))) fun a w hF hM => ?_)
          refine sB 3 [(8, .bool false), (9, .bool false), (10, .int .i64 xb)] hF (by kernel_rfl) fun a hF => ?_
          refine wl (eM 11 (v := .bool false) hF hM (by kernel_rfl) (yld_call (f := 33) (args := #[.int .i64 xb]) hF (by kernel_rfl) (fun _ => by kernel_rfl) (fun w hM => rIn_no xb w (by omega))) fun a w hF hM => ?_)
          refine sB 2 [(12, .bool true), (13, .bool true)] hF (by kernel_rfl) fun a hF => ?_
          refine wpList_nil ?_
          refine hK3 _ _ ?_
          refine cT hF (by kernel_rfl) (by kernel_rfl) ?_
          refine wp_seq_k fun K12 hK12 => ?_
          refine wp_region_lit ?_
          refine sB 2 [(4, .int .i64 0), (5, .bool false)] hF (by kernel_rfl) fun a hF => ?_
          refine wpList_nil ?_
          refine hK12 _ _ ?_
          refine wp_ret ?_
          refine hR0 _ _ ?_
          refine ret_of hF hM (.tmp rfl (.tmp rfl (.nil))) ?_
          have hsu := su_no (x := xa - xb) (a := xa) (b := xb) (by unfold inR; omega)
          exact ⟨ret_eq (by rw [hsu.1, hsu.2]; rfl), hM.bel⟩
      · skip
        refine wp_region_lit ?_
        refine sB 1 [(6, .int .i64 xa)] hF (by kernel_rfl) fun a hF => ?_
        refine wl (eM 7 (v := .bool true) hF hM (by kernel_rfl) (yld_call (f := 33) (args := #[.int .i64 xa]) hF (by kernel_rfl) (fun _ => by kernel_rfl) (fun w hM => rIn_yes xa w (by omega))) fun a w hF hM => ?_)
        refine sB 3 [(8, .bool false), (9, .bool false), (10, .int .i64 xb)] hF (by kernel_rfl) fun a hF => ?_
        refine wl (eM 11 (v := .bool false) hF hM (by kernel_rfl) (yld_call (f := 33) (args := #[.int .i64 xb]) hF (by kernel_rfl) (fun _ => by kernel_rfl) (fun w hM => rIn_no xb w (by omega))) fun a w hF hM => ?_)
        refine sB 2 [(12, .bool true), (13, .bool true)] hF (by kernel_rfl) fun a hF => ?_
        refine wpList_nil ?_
        refine hK3 _ _ ?_
        refine cT hF (by kernel_rfl) (by kernel_rfl) ?_
        refine wp_seq_k fun K13 hK13 => ?_
        refine wp_region_lit ?_
        refine sB 2 [(4, .int .i64 0), (5, .bool false)] hF (by kernel_rfl) fun a hF => ?_
        refine wpList_nil ?_
        refine hK13 _ _ ?_
        refine wp_ret ?_
        refine hR0 _ _ ?_
        refine ret_of hF hM (.tmp rfl (.tmp rfl (.nil))) ?_
        have hsu := su_no (x := xa - xb) (a := xa) (b := xb) (by unfold inR; omega)
        exact ⟨ret_eq (by rw [hsu.1, hsu.2]; rfl), hM.bel⟩
    · skip
      refine wp_region_lit ?_
      refine sB 1 [(6, .int .i64 xa)] hF (by kernel_rfl) fun a hF => ?_
      refine wl (eM 7 (v := .bool false) hF hM (by kernel_rfl) (yld_call (f := 33) (args := #[.int .i64 xa]) hF (by kernel_rfl) (fun _ => by kernel_rfl) (fun w hM => rIn_no xa w (by omega))) fun a w hF hM => ?_)
      refine sB 6 [(8, .bool true), (9, .bool true), (10, undef), (11, undef), (12, undef), (13, .bool true)] hF (by kernel_rfl) fun a hF => ?_
      refine wpList_nil ?_
      refine hK3 _ _ ?_
      refine cT hF (by kernel_rfl) (by kernel_rfl) ?_
      refine wp_seq_k fun K14 hK14 => ?_
      refine wp_region_lit ?_
      refine sB 2 [(4, .int .i64 0), (5, .bool false)] hF (by kernel_rfl) fun a hF => ?_
      refine wpList_nil ?_
      refine hK14 _ _ ?_
      refine wp_ret ?_
      refine hR0 _ _ ?_
      refine ret_of hF hM (.tmp rfl (.tmp rfl (.nil))) ?_
      have hsu := su_no (x := xa - xb) (a := xa) (b := xb) (by unfold inR; omega)
      exact ⟨ret_eq (by rw [hsu.1, hsu.2]; rfl), hM.bel⟩
  · skip
    refine wp_region_lit ?_
    refine sB 1 [(6, .int .i64 xa)] hF (by kernel_rfl) fun a hF => ?_
    refine wl (eM 7 (v := .bool false) hF hM (by kernel_rfl) (yld_call (f := 33) (args := #[.int .i64 xa]) hF (by kernel_rfl) (fun _ => by kernel_rfl) (fun w hM => rIn_no xa w (by omega))) fun a w hF hM => ?_)
    refine sB 6 [(8, .bool true), (9, .bool true), (10, undef), (11, undef), (12, undef), (13, .bool true)] hF (by kernel_rfl) fun a hF => ?_
    refine wpList_nil ?_
    refine hK3 _ _ ?_
    refine cT hF (by kernel_rfl) (by kernel_rfl) ?_
    refine wp_seq_k fun K15 hK15 => ?_
    refine wp_region_lit ?_
    refine sB 2 [(4, .int .i64 0), (5, .bool false)] hF (by kernel_rfl) fun a hF => ?_
    refine wpList_nil ?_
    refine hK15 _ _ ?_
    refine wp_ret ?_
    refine hR0 _ _ ?_
    refine ret_of hF hM (.tmp rfl (.tmp rfl (.nil))) ?_
    have hsu := su_no (x := xa - xb) (a := xa) (b := xb) (by unfold inR; omega)
    exact ⟨ret_eq (by rw [hsu.1, hsu.2]; rfl), hM.bel⟩

theorem rFloor_w (xa xb : Int) (w0 : World) :
    Calls Tryd.prog 13 #[.int .i64 xa, .int .i64 xb] w0 (Ret w0 (.tuple #[.int .i64 (fdV xa xb), .bool (fdB xa xb)])) := by
  obtain ⟨tq, htq⟩ : ∃ z : Int, z = xa.tdiv xb := ⟨_, rfl⟩
  obtain ⟨tm, htm⟩ : ∃ z : Int, z = tq * xb := ⟨_, rfl⟩
  refine enterK 30 Tryd.func13 rfl rfl rfl ?_
  intro a hF Q0 hR0 hN0
  have hM := Mem.start w0
  refine wp_seq_k fun K1 hK1 => ?_
  refine wp_region_lit ?_
  refine sB 2 [(4, .int .i64 0), (5, .bool false)] hF (by kernel_rfl) fun a hF => ?_
  refine wpList_nil ?_
  refine hK1 _ _ ?_
  refine wp_seq_k fun K2 hK2 => ?_
  refine wp_seq_k fun K3 hK3 => ?_
  by_cases hz1 : -1125899906842624 ≤ xa
  · skip
    by_cases hz2 : xa ≤ 1125899906842624
    · skip
      by_cases hz3 : -1125899906842624 ≤ xb
      · skip
        by_cases hz4 : xb ≤ 1125899906842624
        · skip
          refine wp_region_lit ?_
          refine sB 1 [(7, .int .i64 xa)] hF (by kernel_rfl) fun a hF => ?_
          refine wl (eM 8 (v := .bool true) hF hM (by kernel_rfl) (yld_call (f := 33) (args := #[.int .i64 xa]) hF (by kernel_rfl) (fun _ => by kernel_rfl) (fun w hM => rIn_yes xa w (by omega))) fun a w hF hM => ?_)
          refine sB 3 [(9, .bool false), (10, .bool false), (11, .int .i64 xb)] hF (by kernel_rfl) fun a hF => ?_
          refine wl (eM 12 (v := .bool true) hF hM (by kernel_rfl) (yld_call (f := 33) (args := #[.int .i64 xb]) hF (by kernel_rfl) (fun _ => by kernel_rfl) (fun w hM => rIn_yes xb w (by omega))) fun a w hF hM => ?_)
          refine sB 6 [(13, .bool false), (14, .bool false), (15, .bool false), (16, .int .i64 xb), (17, .bool (decide (xb < 1))), (18, .bool (decide (xb < 1)))] hF (by kernel_rfl) fun a hF => ?_
          refine wpList_nil ?_
          refine hK3 _ _ ?_
          by_cases hz5 : xb < 1
          · skip
            replace hF := hF.c hF (i := 17) (v := .bool true) rfl (bT hz5)
            replace hF := hF.c hF (i := 18) (v := .bool true) rfl (bT hz5)
            refine cT hF (by kernel_rfl) (by kernel_rfl) ?_
            refine wp_seq_k fun K4 hK4 => ?_
            refine wp_region_lit ?_
            refine sB 2 [(4, .int .i64 0), (5, .bool false)] hF (by kernel_rfl) fun a hF => ?_
            refine wpList_nil ?_
            refine hK4 _ _ ?_
            refine wp_ret ?_
            refine hR0 _ _ ?_
            refine ret_of hF hM (.tmp rfl (.tmp rfl (.nil))) ?_
            have hd := fd_no (a := xa) (b := xb) (by unfold inR; omega)
            exact ⟨ret_eq (by rw [hd.1, hd.2.1]; rfl), hM.bel⟩
          · skip
            replace hF := hF.c hF (i := 17) (v := .bool false) rfl (bF hz5)
            replace hF := hF.c hF (i := 18) (v := .bool false) rfl (bF hz5)
            refine cF hF (by kernel_rfl) (by kernel_rfl) ?_
            refine wp_skip ?_
            refine hK2 _ _ ?_
            refine wp_seq_k fun K5 hK5 => ?_
            have hbd := tdiv_bd (a := xa) (b := xb) (by unfold inR; omega) (by omega)
            have hfl := tdiv_floor (a := xa) (b := xb) (by omega)
            rw [Int.mul_comm xb] at hfl
            rw [← htq, ← htm] at hbd hfl
            refine wp_region_lit ?_
            refine sB 2 [(19, .int .i64 xa), (20, .int .i64 xb)] hF (by kernel_rfl) fun a hF => ?_
            refine wl (eM 21 (v := .int .i64 tq) hF hM (by kernel_rfl) (yld_quo xa xb hF rfl (by kernel_rfl) (by kernel_rfl) (by kernel_rfl) (by omega) (by rw [htq]; exact qany (by omega) (by omega))) fun a w hF hM => ?_)
            refine sB 1 [(6, .int .i64 tq)] hF (by kernel_rfl) fun a hF => ?_
            refine wpList_nil ?_
            refine hK5 _ _ ?_
            refine wp_seq_k fun K6 hK6 => ?_
            refine wp_seq_k fun K7 hK7 => ?_
            refine wp_region_lit ?_
            refine sB 2 [(22, .int .i64 tq), (23, .int .i64 xb)] hF (by kernel_rfl) fun a hF => ?_
            refine wl (eP 24 (v0 := .int .i64 (IntKind.i64.wrap (tq * xb))) (v := .int .i64 tm) hF (by kernel_rfl) (fun _ => by kernel_rfl) (vi (by rw [← htm]; exact w64 (by omega))) fun a hF => ?_)
            refine sB 2 [(25, .int .i64 xa), (26, .bool (decide (xa < tm)))] hF (by kernel_rfl) fun a hF => ?_
            refine wpList_nil ?_
            refine hK7 _ _ ?_
            by_cases hz6 : xa < tm
            · skip
              replace hF := hF.c hF (i := 26) (v := .bool true) rfl (bT hz6)
              refine cT hF (by kernel_rfl) (by kernel_rfl) ?_
              refine wp_region_lit ?_
              refine sB 1 [(27, .int .i64 tq)] hF (by kernel_rfl) fun a hF => ?_
              refine wl (eP 28 (v0 := .int .i64 (IntKind.i64.wrap (tq - 1))) (v := .int .i64 (tq - 1)) hF (by kernel_rfl) (fun _ => by kernel_rfl) (wi (by omega)) fun a hF => ?_)
              refine sB 1 [(6, .int .i64 (tq - 1))] hF (by kernel_rfl) fun a hF => ?_
              refine wpList_nil ?_
              refine hK6 _ _ ?_
              refine wp_seq_k fun K8 hK8 => ?_
              refine wp_region_lit ?_
              refine sB 3 [(29, .int .i64 (tq - 1)), (4, .int .i64 (tq - 1)), (5, .bool true)] hF (by kernel_rfl) fun a hF => ?_
              refine wpList_nil ?_
              refine hK8 _ _ ?_
              refine wp_ret ?_
              refine hR0 _ _ ?_
              refine ret_of hF hM (.tmp rfl (.tmp rfl (.nil))) ?_
              have hd := fd_yes (a := xa) (b := xb) (by unfold inR; omega)
              exact ⟨ret_eq (by rw [hd.1, hd.2.1, show xa / xb = tq - 1 from by omega]; rfl), hM.bel⟩
            · skip
              replace hF := hF.c hF (i := 26) (v := .bool false) rfl (bF hz6)
              refine cF hF (by kernel_rfl) (by kernel_rfl) ?_
              refine wp_skip ?_
              refine hK6 _ _ ?_
              refine wp_seq_k fun K9 hK9 => ?_
              refine wp_region_lit ?_
              refine sB 3 [(29, .int .i64 tq), (4, .int .i64 tq), (5, .bool true)] hF (by kernel_rfl) fun a hF => ?_
              refine wpList_nil ?_
              refine hK9 _ _ ?_
              refine wp_ret ?_
              refine hR0 _ _ ?_
              refine ret_of hF hM (.tmp rfl (.tmp rfl (.nil))) ?_
              have hd := fd_yes (a := xa) (b := xb) (by unfold inR; omega)
              exact ⟨ret_eq (by rw [hd.1, hd.2.1, show xa / xb = tq from by omega]; rfl), hM.bel⟩
        · skip
          refine wp_region_lit ?_
          refine sB 1 [(7, .int .i64 xa)] hF (by kernel_rfl) fun a hF => ?_
          refine wl (eM 8 (v := .bool true) hF hM (by kernel_rfl) (yld_call (f := 33) (args := #[.int .i64 xa]) hF (by kernel_rfl) (fun _ => by kernel_rfl) (fun w hM => rIn_yes xa w (by omega))) fun a w hF hM => ?_)
          refine sB 3 [(9, .bool false), (10, .bool false), (11, .int .i64 xb)] hF (by kernel_rfl) fun a hF => ?_
          refine wl (eM 12 (v := .bool false) hF hM (by kernel_rfl) (yld_call (f := 33) (args := #[.int .i64 xb]) hF (by kernel_rfl) (fun _ => by kernel_rfl) (fun w hM => rIn_no xb w (by omega))) fun a w hF hM => ?_)
          refine sB 6 [(13, .bool true), (14, .bool true), (15, .bool true), (16, undef), (17, undef), (18, .bool true)] hF (by kernel_rfl) fun a hF => ?_
          refine wpList_nil ?_
          refine hK3 _ _ ?_
          refine cT hF (by kernel_rfl) (by kernel_rfl) ?_
          refine wp_seq_k fun K10 hK10 => ?_
          refine wp_region_lit ?_
          refine sB 2 [(4, .int .i64 0), (5, .bool false)] hF (by kernel_rfl) fun a hF => ?_
          refine wpList_nil ?_
          refine hK10 _ _ ?_
          refine wp_ret ?_
          refine hR0 _ _ ?_
          refine ret_of hF hM (.tmp rfl (.tmp rfl (.nil))) ?_
          have hd := fd_no (a := xa) (b := xb) (by unfold inR; omega)
          exact ⟨ret_eq (by rw [hd.1, hd.2.1]; rfl), hM.bel⟩
      · skip
        refine wp_region_lit ?_
        refine sB 1 [(7, .int .i64 xa)] hF (by kernel_rfl) fun a hF => ?_
        refine wl (eM 8 (v := .bool true) hF hM (by kernel_rfl) (yld_call (f := 33) (args := #[.int .i64 xa]) hF (by kernel_rfl) (fun _ => by kernel_rfl) (fun w hM => rIn_yes xa w (by omega))) fun a w hF hM => ?_)
        refine sB 3 [(9, .bool false), (10, .bool false), (11, .int .i64 xb)] hF (by kernel_rfl) fun a hF => ?_
        refine wl (eM 12 (v := .bool false) hF hM (by kernel_rfl) (yld_call (f := 33) (args := #[.int .i64 xb]) hF (by kernel_rfl) (fun _ => by kernel_rfl) (fun w hM => rIn_no xb w (by omega))) fun a w hF hM => ?_)
        refine sB 6 [(13, .bool true), (14, .bool true), (15, .bool true), (16, undef), (17, undef), (18, .bool true)] hF (by kernel_rfl) fun a hF => ?_
        refine wpList_nil ?_
        refine hK3 _ _ ?_
        refine cT hF (by kernel_rfl) (by kernel_rfl) ?_
        refine wp_seq_k fun K11 hK11 => ?_
        refine wp_region_lit ?_
        refine sB 2 [(4, .int .i64 0), (5, .bool false)] hF (by kernel_rfl) fun a hF => ?_
        refine wpList_nil ?_
        refine hK11 _ _ ?_
        refine wp_ret ?_
        refine hR0 _ _ ?_
        refine ret_of hF hM (.tmp rfl (.tmp rfl (.nil))) ?_
        have hd := fd_no (a := xa) (b := xb) (by unfold inR; omega)
        exact ⟨ret_eq (by rw [hd.1, hd.2.1]; rfl), hM.bel⟩
    · skip
      refine wp_region_lit ?_
      refine sB 1 [(7, .int .i64 xa)] hF (by kernel_rfl) fun a hF => ?_
      refine wl (eM 8 (v := .bool false) hF hM (by kernel_rfl) (yld_call (f := 33) (args := #[.int .i64 xa]) hF (by kernel_rfl) (fun _ => by kernel_rfl) (fun w hM => rIn_no xa w (by omega))) fun a w hF hM => ?_)
      refine sB 10 [(9, .bool true), (10, .bool true), (11, undef), (12, undef), (13, undef), (14, .bool true), (15, .bool true), (16, undef), (17, undef), (18, .bool true)] hF (by kernel_rfl) fun a hF => ?_
      refine wpList_nil ?_
      refine hK3 _ _ ?_
      refine cT hF (by kernel_rfl) (by kernel_rfl) ?_
      refine wp_seq_k fun K12 hK12 => ?_
      refine wp_region_lit ?_
      refine sB 2 [(4, .int .i64 0), (5, .bool false)] hF (by kernel_rfl) fun a hF => ?_
      refine wpList_nil ?_
      refine hK12 _ _ ?_
      refine wp_ret ?_
      refine hR0 _ _ ?_
      refine ret_of hF hM (.tmp rfl (.tmp rfl (.nil))) ?_
      have hd := fd_no (a := xa) (b := xb) (by unfold inR; omega)
      exact ⟨ret_eq (by rw [hd.1, hd.2.1]; rfl), hM.bel⟩
  · skip
    refine wp_region_lit ?_
    refine sB 1 [(7, .int .i64 xa)] hF (by kernel_rfl) fun a hF => ?_
    refine wl (eM 8 (v := .bool false) hF hM (by kernel_rfl) (yld_call (f := 33) (args := #[.int .i64 xa]) hF (by kernel_rfl) (fun _ => by kernel_rfl) (fun w hM => rIn_no xa w (by omega))) fun a w hF hM => ?_)
    refine sB 10 [(9, .bool true), (10, .bool true), (11, undef), (12, undef), (13, undef), (14, .bool true), (15, .bool true), (16, undef), (17, undef), (18, .bool true)] hF (by kernel_rfl) fun a hF => ?_
    refine wpList_nil ?_
    refine hK3 _ _ ?_
    refine cT hF (by kernel_rfl) (by kernel_rfl) ?_
    refine wp_seq_k fun K13 hK13 => ?_
    refine wp_region_lit ?_
    refine sB 2 [(4, .int .i64 0), (5, .bool false)] hF (by kernel_rfl) fun a hF => ?_
    refine wpList_nil ?_
    refine hK13 _ _ ?_
    refine wp_ret ?_
    refine hR0 _ _ ?_
    refine ret_of hF hM (.tmp rfl (.tmp rfl (.nil))) ?_
    have hd := fd_no (a := xa) (b := xb) (by unfold inR; omega)
    exact ⟨ret_eq (by rw [hd.1, hd.2.1]; rfl), hM.bel⟩

theorem rCeil_w (xa xb : Int) (w0 : World) :
    Calls Tryd.prog 15 #[.int .i64 xa, .int .i64 xb] w0 (Ret w0 (.tuple #[.int .i64 (cdV xa xb), .bool (fdB xa xb)])) := by
  refine enterK 26 Tryd.func15 rfl rfl rfl ?_
  intro a hF Q0 hR0 hN0
  have hM := Mem.start w0
  refine wp_seq_k fun K1 hK1 => ?_
  refine wp_region_lit ?_
  refine sB 2 [(4, .int .i64 0), (5, .bool false)] hF (by kernel_rfl) fun a hF => ?_
  refine wpList_nil ?_
  refine hK1 _ _ ?_
  refine wp_seq_k fun K2 hK2 => ?_
  refine wp_region_lit ?_
  refine sB 2 [(9, .int .i64 xa), (10, .int .i64 xb)] hF (by kernel_rfl) fun a hF => ?_
  refine wl (eM 11 (v := .tuple #[.int .i64 (fdV xa xb), .bool (fdB xa xb)]) hF hM (by kernel_rfl) (yld_call (f := 13) (args := #[.int .i64 xa, .int .i64 xb]) hF (by kernel_rfl) (fun _ => by kernel_rfl) (fun w hM => rFloor_w xa xb w)) fun a w hF hM => ?_)
  refine sB 5 [(8, .tuple #[.int .i64 (fdV xa xb), .bool (fdB xa xb)]), (12, .int .i64 (fdV xa xb)), (13, .bool (fdB xa xb)), (6, .int .i64 (fdV xa xb)), (7, .bool (fdB xa xb))] hF (by kernel_rfl) fun a hF => ?_
  refine wpList_nil ?_
  refine hK2 _ _ ?_
  refine wp_seq_k fun K3 hK3 => ?_
  refine wp_seq_k fun K4 hK4 => ?_
  cases hz1 : (fdB xa xb)
  · skip
    replace hF := hF.c hF (i := 7) (v := .bool false) rfl (congrArg Value.bool hz1)
    replace hF := hF.c hF (i := 13) (v := .bool false) rfl (congrArg Value.bool hz1)
    refine wp_region_lit ?_
    refine sB 8 [(14, .bool false), (15, .bool false), (16, undef), (17, undef), (18, undef), (19, undef), (20, undef), (21, .bool false)] hF (by kernel_rfl) fun a hF => ?_
    refine wpList_nil ?_
    refine hK4 _ _ ?_
    refine cF hF (by kernel_rfl) (by kernel_rfl) ?_
    refine wp_skip ?_
    refine hK3 _ _ ?_
    refine wp_seq_k fun K5 hK5 => ?_
    refine wp_region_lit ?_
    refine sB 4 [(24, .int .i64 (fdV xa xb)), (25, .bool false), (4, .int .i64 (fdV xa xb)), (5, .bool false)] hF (by kernel_rfl) fun a hF => ?_
    refine wpList_nil ?_
    refine hK5 _ _ ?_
    refine wp_ret ?_
    refine hR0 _ _ ?_
    refine ret_of hF hM (.tmp rfl (.tmp rfl (.nil))) ?_
    have hd := fd_off hz1
    exact ⟨ret_eq (by rw [hz1, hd.1, hd.2.2]; rfl), hM.bel⟩
  · skip
    have hz2 := fd_split hz1
    replace hF := hF.c hF (i := 7) (v := .bool true) rfl (congrArg Value.bool hz1)
    replace hF := hF.c hF (i := 13) (v := .bool true) rfl (congrArg Value.bool hz1)
    refine wp_region_lit ?_
    refine sB 4 [(14, .bool true), (15, .bool true), (16, .int .i64 (fdV xa xb)), (17, .int .i64 xb)] hF (by kernel_rfl) fun a hF => ?_
    refine wl (eP 18 (v0 := .int .i64 (IntKind.i64.wrap (fdV xa xb * xb))) (v := .int .i64 (fdV xa xb * xb)) hF (by kernel_rfl) (fun _ => by kernel_rfl) (wi (by omega)) fun a hF => ?_)
    refine sB 3 [(19, .int .i64 xa), (20, .bool (decide (fdV xa xb * xb < xa))), (21, .bool (decide (fdV xa xb * xb < xa)))] hF (by kernel_rfl) fun a hF => ?_
    refine wpList_nil ?_
    refine hK4 _ _ ?_
    by_cases hz3 : fdV xa xb * xb < xa
    · skip
      replace hF := hF.c hF (i := 20) (v := .bool true) rfl (bT hz3)
      replace hF := hF.c hF (i := 21) (v := .bool true) rfl (bT hz3)
      refine cT hF (by kernel_rfl) (by kernel_rfl) ?_
      refine wp_region_lit ?_
      refine sB 1 [(22, .int .i64 (fdV xa xb))] hF (by kernel_rfl) fun a hF => ?_
      refine wl (eP 23 (v0 := .int .i64 (IntKind.i64.wrap (fdV xa xb + 1))) (v := .int .i64 (fdV xa xb + 1)) hF (by kernel_rfl) (fun _ => by kernel_rfl) (wi (by omega)) fun a hF => ?_)
      refine sB 1 [(6, .int .i64 (fdV xa xb + 1))] hF (by kernel_rfl) fun a hF => ?_
      refine wpList_nil ?_
      refine hK3 _ _ ?_
      refine wp_seq_k fun K6 hK6 => ?_
      refine wp_region_lit ?_
      refine sB 4 [(24, .int .i64 (fdV xa xb + 1)), (25, .bool true), (4, .int .i64 (fdV xa xb + 1)), (5, .bool true)] hF (by kernel_rfl) fun a hF => ?_
      refine wpList_nil ?_
      refine hK6 _ _ ?_
      refine wp_ret ?_
      refine hR0 _ _ ?_
      refine ret_of hF hM (.tmp rfl (.tmp rfl (.nil))) ?_
      have hd := (fd_ceil hz1).1 hz3
      exact ⟨ret_eq (by rw [hz1, hd]; rfl), hM.bel⟩
    · skip
      replace hF := hF.c hF (i := 20) (v := .bool false) rfl (bF hz3)
      replace hF := hF.c hF (i := 21) (v := .bool false) rfl (bF hz3)
      refine cF hF (by kernel_rfl) (by kernel_rfl) ?_
      refine wp_skip ?_
      refine hK3 _ _ ?_
      refine wp_seq_k fun K7 hK7 => ?_
      refine wp_region_lit ?_
      refine sB 4 [(24, .int .i64 (fdV xa xb)), (25, .bool true), (4, .int .i64 (fdV xa xb)), (5, .bool true)] hF (by kernel_rfl) fun a hF => ?_
      refine wpList_nil ?_
      refine hK7 _ _ ?_
      refine wp_ret ?_
      refine hR0 _ _ ?_
      refine ret_of hF hM (.tmp rfl (.tmp rfl (.nil))) ?_
      have hd := (fd_ceil hz1).2 hz3
      exact ⟨ret_eq (by rw [hz1, hd]; rfl), hM.bel⟩

theorem rMod_w (xa xb : Int) (w0 : World) :
    Calls Tryd.prog 17 #[.int .i64 xa, .int .i64 xb] w0 (Ret w0 (.tuple #[.int .i64 (moV xa xb), .bool (fdB xa xb)])) := by
  refine enterK 21 Tryd.func17 rfl rfl rfl ?_
  intro a hF Q0 hR0 hN0
  have hM := Mem.start w0
  refine wp_seq_k fun K1 hK1 => ?_
  refine wp_region_lit ?_
  refine sB 2 [(4, .int .i64 0), (5, .bool false)] hF (by kernel_rfl) fun a hF => ?_
  refine wpList_nil ?_
  refine hK1 _ _ ?_
  refine wp_seq_k fun K2 hK2 => ?_
  refine wp_region_lit ?_
  refine sB 2 [(9, .int .i64 xa), (10, .int .i64 xb)] hF (by kernel_rfl) fun a hF => ?_
  refine wl (eM 11 (v := .tuple #[.int .i64 (fdV xa xb), .bool (fdB xa xb)]) hF hM (by kernel_rfl) (yld_call (f := 13) (args := #[.int .i64 xa, .int .i64 xb]) hF (by kernel_rfl) (fun _ => by kernel_rfl) (fun w hM => rFloor_w xa xb w)) fun a w hF hM => ?_)
  refine sB 5 [(8, .tuple #[.int .i64 (fdV xa xb), .bool (fdB xa xb)]), (12, .int .i64 (fdV xa xb)), (13, .bool (fdB xa xb)), (6, .int .i64 (fdV xa xb)), (7, .bool (fdB xa xb))] hF (by kernel_rfl) fun a hF => ?_
  refine wpList_nil ?_
  refine hK2 _ _ ?_
  refine wp_seq_k fun K3 hK3 => ?_
  refine wp_seq_k fun K4 hK4 => ?_
  cases hz1 : (fdB xa xb)
  · skip
    replace hF := hF.c hF (i := 7) (v := .bool false) rfl (congrArg Value.bool hz1)
    replace hF := hF.c hF (i := 13) (v := .bool false) rfl (congrArg Value.bool hz1)
    refine wp_region_lit ?_
    refine sB 2 [(14, .bool false), (15, .bool true)] hF (by kernel_rfl) fun a hF => ?_
    refine wpList_nil ?_
    refine hK4 _ _ ?_
    refine cT hF (by kernel_rfl) (by kernel_rfl) ?_
    refine wp_seq_k fun K5 hK5 => ?_
    refine wp_region_lit ?_
    refine sB 2 [(4, .int .i64 0), (5, .bool false)] hF (by kernel_rfl) fun a hF => ?_
    refine wpList_nil ?_
    refine hK5 _ _ ?_
    refine wp_ret ?_
    refine hR0 _ _ ?_
    refine ret_of hF hM (.tmp rfl (.tmp rfl (.nil))) ?_
    have hd := fd_off hz1
    exact ⟨ret_eq (by rw [hz1, hd.2.1]; rfl), hM.bel⟩
  · skip
    have hz2 := fd_split hz1
    replace hF := hF.c hF (i := 7) (v := .bool true) rfl (congrArg Value.bool hz1)
    replace hF := hF.c hF (i := 13) (v := .bool true) rfl (congrArg Value.bool hz1)
    refine wp_region_lit ?_
    refine sB 2 [(14, .bool true), (15, .bool false)] hF (by kernel_rfl) fun a hF => ?_
    refine wpList_nil ?_
    refine hK4 _ _ ?_
    refine cF hF (by kernel_rfl) (by kernel_rfl) ?_
    refine wp_skip ?_
    refine hK3 _ _ ?_
    refine wp_seq_k fun K6 hK6 => ?_
    refine wp_region_lit ?_
    refine sB 3 [(16, .int .i64 xa), (17, .int .i64 (fdV xa xb)), (18, .int .i64 xb)] hF (by kernel_rfl) fun a hF => ?_
    refine wl (eP 19 (v0 := .int .i64 (IntKind.i64.wrap (fdV xa xb * xb))) (v := .int .i64 (fdV xa xb * xb)) hF (by kernel_rfl) (fun _ => by kernel_rfl) (wi (by omega)) fun a hF => ?_)
    refine wl (eP 20 (v0 := .int .i64 (IntKind.i64.wrap (xa - fdV xa xb * xb))) (v := .int .i64 (xa - fdV xa xb * xb)) hF (by kernel_rfl) (fun _ => by kernel_rfl) (wi (by omega)) fun a hF => ?_)
    refine sB 2 [(4, .int .i64 (xa - fdV xa xb * xb)), (5, .bool true)] hF (by kernel_rfl) fun a hF => ?_
    refine wpList_nil ?_
    refine hK6 _ _ ?_
    refine wp_ret ?_
    refine hR0 _ _ ?_
    refine ret_of hF hM (.tmp rfl (.tmp rfl (.nil))) ?_
    have hd := (fd_mod hz1).2
    exact ⟨ret_eq (by rw [hz1, hd]; rfl), hM.bel⟩

theorem nMod_w (xa xb : Int) (w0 : World) :
    Calls Tryd.prog 16 #[.int .i64 xa, .int .i64 xb] w0 (Ret w0 (.tuple #[.int .i64 (moV xa xb), .bool (fdB xa xb)])) := by
  refine enterK 21 Tryd.func16 rfl rfl rfl ?_
  intro a hF Q0 hR0 hN0
  have hM := Mem.start w0
  refine wp_seq_k fun K1 hK1 => ?_
  refine wp_region_lit ?_
  refine sB 2 [(4, .int .i64 0), (5, .bool false)] hF (by kernel_rfl) fun a hF => ?_
  refine wpList_nil ?_
  refine hK1 _ _ ?_
  refine wp_seq_k fun K2 hK2 => ?_
  refine wp_region_lit ?_
  refine sB 2 [(9, .int .i64 xa), (10, .int .i64 xb)] hF (by kernel_rfl) fun a hF => ?_
  refine wl (eM 11 (v := .tuple #[.int .i64 (fdV xa xb), .bool (fdB xa xb)]) hF hM (by kernel_rfl) (yld_call (f := 12) (args := #[.int .i64 xa, .int .i64 xb]) hF (by kernel_rfl) (fun _ => by kernel_rfl) (fun w hM => nFloor_w xa xb w)) fun a w hF hM => ?_)
  refine sB 5 [(8, .tuple #[.int .i64 (fdV xa xb), .bool (fdB xa xb)]), (12, .int .i64 (fdV xa xb)), (13, .bool (fdB xa xb)), (6, .int .i64 (fdV xa xb)), (7, .bool (fdB xa xb))] hF (by kernel_rfl) fun a hF => ?_
  refine wpList_nil ?_
  refine hK2 _ _ ?_
  refine wp_seq_k fun K3 hK3 => ?_
  refine wp_seq_k fun K4 hK4 => ?_
  cases hz1 : (fdB xa xb)
  · skip
    replace hF := hF.c hF (i := 7) (v := .bool false) rfl (congrArg Value.bool hz1)
    replace hF := hF.c hF (i := 13) (v := .bool false) rfl (congrArg Value.bool hz1)
    refine wp_region_lit ?_
    refine sB 2 [(14, .bool false), (15, .bool true)] hF (by kernel_rfl) fun a hF => ?_
    refine wpList_nil ?_
    refine hK4 _ _ ?_
    refine cT hF (by kernel_rfl) (by kernel_rfl) ?_
    refine wp_seq_k fun K5 hK5 => ?_
    refine wp_region_lit ?_
    refine sB 2 [(4, .int .i64 0), (5, .bool false)] hF (by kernel_rfl) fun a hF => ?_
    refine wpList_nil ?_
    refine hK5 _ _ ?_
    refine wp_ret ?_
    refine hR0 _ _ ?_
    refine ret_of hF hM (.tmp rfl (.tmp rfl (.nil))) ?_
    have hd := fd_off hz1
    exact ⟨ret_eq (by rw [hz1, hd.2.1]; rfl), hM.bel⟩
  · skip
    have hz2 := fd_split hz1
    replace hF := hF.c hF (i := 7) (v := .bool true) rfl (congrArg Value.bool hz1)
    replace hF := hF.c hF (i := 13) (v := .bool true) rfl (congrArg Value.bool hz1)
    refine wp_region_lit ?_
    refine sB 2 [(14, .bool true), (15, .bool false)] hF (by kernel_rfl) fun a hF => ?_
    refine wpList_nil ?_
    refine hK4 _ _ ?_
    refine cF hF (by kernel_rfl) (by kernel_rfl) ?_
    refine wp_skip ?_
    refine hK3 _ _ ?_
    refine wp_seq_k fun K6 hK6 => ?_
    refine wp_region_lit ?_
    refine sB 3 [(16, .int .i64 xa), (17, .int .i64 xb), (18, .int .i64 (fdV xa xb))] hF (by kernel_rfl) fun a hF => ?_
    refine wl (eP 19 (v0 := .int .i64 (IntKind.i64.wrap (xb * fdV xa xb))) (v := .int .i64 (xb * fdV xa xb)) hF (by kernel_rfl) (fun _ => by kernel_rfl) (wi (by omega)) fun a hF => ?_)
    refine wl (eP 20 (v0 := .int .i64 (IntKind.i64.wrap (xa - xb * fdV xa xb))) (v := .int .i64 (xa - xb * fdV xa xb)) hF (by kernel_rfl) (fun _ => by kernel_rfl) (wi (by omega)) fun a hF => ?_)
    refine sB 2 [(4, .int .i64 (xa - xb * fdV xa xb)), (5, .bool true)] hF (by kernel_rfl) fun a hF => ?_
    refine wpList_nil ?_
    refine hK6 _ _ ?_
    refine wp_ret ?_
    refine hR0 _ _ ?_
    refine ret_of hF hM (.tmp rfl (.tmp rfl (.nil))) ?_
    have hd := (fd_mod hz1).1
    exact ⟨ret_eq (by rw [hz1, hd]; rfl), hM.bel⟩

theorem rMulDiv_w (xa xb xc : Int) (w0 : World) :
    Calls Tryd.prog 20 #[.int .i64 xa, .int .i64 xb, .int .i64 xc] w0 (Ret w0 (.tuple #[.int .i64 (mdV xa xb xc), .bool (mdB xa xb xc)])) := by
  obtain ⟨aN, haN⟩ : ∃ m : Nat, m = xa.natAbs := ⟨_, rfl⟩
  obtain ⟨bN, hbN⟩ : ∃ m : Nat, m = xb.natAbs := ⟨_, rfl⟩
  refine enterK 87 Tryd.func20 rfl rfl rfl ?_
  intro a hF Q0 hR0 hN0
  have hM := Mem.start w0
  refine wp_seq_k fun K1 hK1 => ?_
  refine wp_region_lit ?_
  refine sB 2 [(6, .int .i64 0), (7, .bool false)] hF (by kernel_rfl) fun a hF => ?_
  refine wpList_nil ?_
  refine hK1 _ _ ?_
  refine wp_seq_k fun K2 hK2 => ?_
  refine wp_seq_k fun K3 hK3 => ?_
  by_cases hz1 : -1125899906842624 ≤ xa
  · skip
    by_cases hz2 : xa ≤ 1125899906842624
    · skip
      by_cases hz3 : -1125899906842624 ≤ xb
      · skip
        by_cases hz4 : xb ≤ 1125899906842624
        · skip
          by_cases hz5 : -1125899906842624 ≤ xc
          · skip
            by_cases hz6 : xc ≤ 1125899906842624
            · skip
              refine wp_region_lit ?_
              refine sB 1 [(11, .int .i64 xa)] hF (by kernel_rfl) fun a hF => ?_
              refine wl (eM 12 (v := .bool true) hF hM (by kernel_rfl) (yld_call (f := 33) (args := #[.int .i64 xa]) hF (by kernel_rfl) (fun _ => by kernel_rfl) (fun w hM => rIn_yes xa w (by omega))) fun a w hF hM => ?_)
              refine sB 3 [(13, .bool false), (14, .bool false), (15, .int .i64 xb)] hF (by kernel_rfl) fun a hF => ?_
              refine wl (eM 16 (v := .bool true) hF hM (by kernel_rfl) (yld_call (f := 33) (args := #[.int .i64 xb]) hF (by kernel_rfl) (fun _ => by kernel_rfl) (fun w hM => rIn_yes xb w (by omega))) fun a w hF hM => ?_)
              refine sB 4 [(17, .bool false), (18, .bool false), (19, .bool false), (20, .int .i64 xc)] hF (by kernel_rfl) fun a hF => ?_
              refine wl (eM 21 (v := .bool true) hF hM (by kernel_rfl) (yld_call (f := 33) (args := #[.int .i64 xc]) hF (by kernel_rfl) (fun _ => by kernel_rfl) (fun w hM => rIn_yes xc w (by omega))) fun a w hF hM => ?_)
              refine sB 6 [(22, .bool false), (23, .bool false), (24, .bool false), (25, .int .i64 xc), (26, .bool (decide (xc < 1))), (27, .bool (decide (xc < 1)))] hF (by kernel_rfl) fun a hF => ?_
              refine wpList_nil ?_
              refine hK3 _ _ ?_
              by_cases hz7 : xc < 1
              · skip
                replace hF := hF.c hF (i := 26) (v := .bool true) rfl (bT hz7)
                replace hF := hF.c hF (i := 27) (v := .bool true) rfl (bT hz7)
                refine cT hF (by kernel_rfl) (by kernel_rfl) ?_
                refine wp_seq_k fun K4 hK4 => ?_
                refine wp_region_lit ?_
                refine sB 2 [(6, .int .i64 0), (7, .bool false)] hF (by kernel_rfl) fun a hF => ?_
                refine wpList_nil ?_
                refine hK4 _ _ ?_
                refine wp_ret ?_
                refine hR0 _ _ ?_
                refine ret_of hF hM (.tmp rfl (.tmp rfl (.nil))) ?_
                have hmd : mdB xa xb xc = false ∧ mdV xa xb xc = 0 := md_arg (by unfold inR; omega)
                exact ⟨ret_eq (by rw [hmd.1, hmd.2]; rfl), hM.bel⟩
              · skip
                replace hF := hF.c hF (i := 26) (v := .bool false) rfl (bF hz7)
                replace hF := hF.c hF (i := 27) (v := .bool false) rfl (bF hz7)
                refine cF hF (by kernel_rfl) (by kernel_rfl) ?_
                refine wp_skip ?_
                refine hK2 _ _ ?_
                refine wp_seq_k fun K5 hK5 => ?_
                refine wp_region_lit ?_
                refine sB 2 [(8, .int .i64 0), (9, .int .i64 0)] hF (by kernel_rfl) fun a hF => ?_
                refine wpList_nil ?_
                refine hK5 _ _ ?_
                refine wp_seq_k fun K6 hK6 => ?_
                refine wp_seq_k fun K7 hK7 => ?_
                have haB : aN ≤ 1125899906842624 ∧ bN ≤ 1125899906842624 := by omega
                refine wp_region_lit ?_
                refine sB 1 [(10, .int .i64 50)] hF (by kernel_rfl) fun a hF => ?_
                refine wpList_nil ?_
                refine hK7 _ _ ?_
                refine wp_block ?_
                refine wp_loop_k (G := Nat × Int × Int) (fun gg a w => Fr 87 [(8, some (.int .i64 gg.2.1)), (9, some (.int .i64 gg.2.2)), (10, some (.int .i64 ((gg.1 : Int) - 1))), (0, some (.int .i64 xa)), (1, some (.int .i64 xb)), (2, some (.int .i64 xc))] a ∧ Mem w0.heap.size w0 [] w ∧ (MdAt aN (bN : Int) xc gg.1 gg.2.1 gg.2.2) ∧ ((gg.1 : Int) ≤ 51) ∧ (0 ≤ gg.2.1) ∧ (gg.2.1 ≤ 2251799813685248) ∧ (0 ≤ gg.2.2) ∧ (gg.2.2 < xc)) (fun gg => gg.1) (51, 0, 0) ?_ ?_
                · refine ⟨(((((((Fr.nil hF).c hF (i := 2) rfl rfl).c hF (i := 1) rfl rfl).c hF (i := 0) rfl rfl).c hF (i := 10) rfl (vi (show (50 : Int) = (51 : Int) - 1 from by omega))).c hF (i := 9) rfl rfl).c hF (i := 8) rfl rfl), (hM.sub Sub.nil), (show MdAt aN (bN : Int) xc 51 0 0 from by exact MdAt.zero (by omega) (by omega)), (show (51 : Int) ≤ 51 from by omega), (show 0 ≤ 0 from by omega), (show 0 ≤ 2251799813685248 from by omega), (show 0 ≤ 0 from by omega), (show 0 < xc from by omega)⟩
                · intro gg a w hI
                  intro K8 hK8
                  obtain ⟨kb, q, r⟩ := gg
                  try dsimp only at hI hK8
                  obtain ⟨hF, hM, hz8, hz9, hz10, hz11, hz12, hz13⟩ := hI
                  have hA0 : MdAt aN (bN : Int) xc kb q r := by assumption
                  refine wp_seq_k fun K9 hK9 => ?_
                  refine wp_seq_k fun K10 hK10 => ?_
                  refine wp_region_lit ?_
                  refine sB 2 [(28, .int .i64 ((kb : Int) - 1)), (29, .bool (decide (0 ≤ (kb : Int) - 1)))] hF (by kernel_rfl) fun a hF => ?_
                  refine wpList_nil ?_
                  refine hK10 _ _ ?_
                  by_cases hz14 : 0 ≤ (kb : Int) - 1
                  · skip
                    replace hF := hF.c hF (i := 29) (v := .bool true) rfl (bT hz14)
                    refine cT hF (by kernel_rfl) (by kernel_rfl) ?_
                    refine wp_skip ?_
                    refine hK9 _ _ ?_
                    refine wp_seq_k fun K11 hK11 => ?_
                    refine wp_block ?_
                    refine wp_seq_k fun K12 hK12 => ?_
                    obtain ⟨m, hm⟩ : ∃ m : Nat, kb = m + 1 := ⟨kb - 1, by omega⟩
                    have hA : MdAt aN (bN : Int) xc (m + 1) q r := by rw [← hm]; exact hA0
                    obtain ⟨sh, hsh⟩ : ∃ z : Nat, z = aN / 2 ^ m := ⟨_, rfl⟩
                    refine wp_region_lit ?_
                    refine sB 1 [(32, .int .i64 q)] hF (by kernel_rfl) fun a hF => ?_
                    refine wl (eP 33 (v0 := .int .i64 (IntKind.i64.wrap (2 * q))) (v := .int .i64 (2 * q)) hF (by kernel_rfl) (fun _ => by kernel_rfl) (wi (by omega)) fun a hF => ?_)
                    refine sB 1 [(34, .int .i64 r)] hF (by kernel_rfl) fun a hF => ?_
                    refine wl (eP 35 (v0 := .int .i64 (IntKind.i64.wrap (2 * r))) (v := .int .i64 (2 * r)) hF (by kernel_rfl) (fun _ => by kernel_rfl) (wi (by omega)) fun a hF => ?_)
                    refine sB 2 [(8, .int .i64 (2 * q)), (9, .int .i64 (2 * r))] hF (by kernel_rfl) fun a hF => ?_
                    refine wpList_nil ?_
                    refine hK12 _ _ ?_
                    refine wp_seq_k fun K13 hK13 => ?_
                    refine wp_seq_k fun K14 hK14 => ?_
                    refine wp_region_lit ?_
                    refine sB 1 [(36, .int .i64 xa)] hF (by kernel_rfl) fun a hF => ?_
                    refine wl (eM 37 (v := .int .i64 (aN : Int)) hF hM (by kernel_rfl) (yld_call (f := 39) (args := #[.int .i64 xa]) hF (by kernel_rfl) (fun _ => by kernel_rfl) (fun w hM => by rw [haN]; exact rAbs_w xa w (by omega))) fun a w hF hM => ?_)
                    have b_aN : aN ≤ 1125899906842624 := by omega
                    refine sB 1 [(38, .int .i64 ((kb : Int) - 1))] hF (by kernel_rfl) fun a hF => ?_
                    refine wl (eM 39 (v := .int .i64 (sh : Int)) hF hM (by kernel_rfl) (yld_shr (yk := .i64) (aN : Int) ((kb : Int) - 1) hF rfl (by kernel_rfl) (by kernel_rfl) (by kernel_rfl) (by omega) (shrI aN m sh (by omega) (by omega) hsh)) fun a w hF hM => ?_)
                    refine wl (eM 40 (v := .int .i64 ((sh : Int) % 2)) hF hM (by kernel_rfl) (yld_rem (sh : Int) 2 hF rfl (by kernel_rfl) (by kernel_rfl) (by kernel_rfl) (by decide) (Int.tmod_eq_emod_of_nonneg (by omega))) fun a w hF hM => ?_)
                    refine sB 1 [(41, .bool (decide ((sh : Int) % 2 = 1)))] hF (by kernel_rfl) fun a hF => ?_
                    refine wpList_nil ?_
                    refine hK14 _ _ ?_
                    by_cases hz15 : (sh : Int) % 2 = 1
                    · skip
                      replace hF := hF.c hF (i := 41) (v := .bool true) rfl (bT hz15)
                      refine cT hF (by kernel_rfl) (by kernel_rfl) ?_
                      refine rQ hM (by kernel_rfl) (by kernel_rfl) ?_
                      refine eQ 42 (v0 := .int .i64 (2 * q)) (v := .int .i64 (2 * q)) hF (by kernel_rfl) (fun _ => by kernel_rfl) rfl fun a hF => ?_
                      refine eQ 43 (v0 := .int .i64 xb) (v := .int .i64 xb) hF (by kernel_rfl) (fun _ => by kernel_rfl) rfl fun a hF => ?_
                      refine eQ2 44 (v := .int .i64 (bN : Int)) hF (by kernel_rfl) (yld_call (f := 39) (args := #[.int .i64 xb]) hF (by kernel_rfl) (fun _ => by kernel_rfl) (fun w hM => by rw [hbN]; exact rAbs_w xb w (by omega))) fun a hF => ?_
                      have b_bN : bN ≤ 1125899906842624 := by omega
                      refine eQ 45 (v0 := .int .i64 xc) (v := .int .i64 xc) hF (by kernel_rfl) (fun _ => by kernel_rfl) rfl fun a hF => ?_
                      refine eQ2 46 (v := .int .i64 ((bN : Int) / xc)) hF (by kernel_rfl) (yld_quo (bN : Int) xc hF rfl (by kernel_rfl) (by kernel_rfl) (by kernel_rfl) (by omega) (qpos_i64 (by omega) (by omega) (by omega))) fun a hF => ?_
                      have := ediv_le_self_of (p := (bN : Int)) (q := xc) (by omega) (by omega)
                      refine eQ 47 (v0 := .int .i64 (IntKind.i64.wrap (2 * q + (bN : Int) / xc))) (v := .int .i64 (2 * q + (bN : Int) / xc)) hF (by kernel_rfl) (fun _ => by kernel_rfl) (wi (by omega)) fun a hF => ?_
                      refine eQ 48 (v0 := .int .i64 (2 * r)) (v := .int .i64 (2 * r)) hF (by kernel_rfl) (fun _ => by kernel_rfl) rfl fun a hF => ?_
                      refine eQ 49 (v0 := .int .i64 xb) (v := .int .i64 xb) hF (by kernel_rfl) (fun _ => by kernel_rfl) rfl fun a hF => ?_
                      refine eQ2 50 (v := .int .i64 (bN : Int)) hF (by kernel_rfl) (yld_call (f := 39) (args := #[.int .i64 xb]) hF (by kernel_rfl) (fun _ => by kernel_rfl) (fun w hM => by rw [hbN]; exact rAbs_w xb w (by omega))) fun a hF => ?_
                      have b_bN : bN ≤ 1125899906842624 := by omega
                      refine eQ 51 (v0 := .int .i64 xc) (v := .int .i64 xc) hF (by kernel_rfl) (fun _ => by kernel_rfl) rfl fun a hF => ?_
                      refine eQ2 52 (v := .int .i64 ((bN : Int) % xc)) hF (by kernel_rfl) (yld_rem (bN : Int) xc hF rfl (by kernel_rfl) (by kernel_rfl) (by kernel_rfl) (by omega) (Int.tmod_eq_emod_of_nonneg (by omega))) fun a hF => ?_
                      have := emod_bd (p := (bN : Int)) (q := xc) (by omega) (by omega)
                      refine eQ 53 (v0 := .int .i64 (IntKind.i64.wrap (2 * r + (bN : Int) % xc))) (v := .int .i64 (2 * r + (bN : Int) % xc)) hF (by kernel_rfl) (fun _ => by kernel_rfl) (wi (by omega)) fun a hF => ?_
                      refine eQ 8 (v0 := .int .i64 (2 * q + (bN : Int) / xc)) (v := .int .i64 (2 * q + (bN : Int) / xc)) hF (by kernel_rfl) (fun _ => by kernel_rfl) rfl fun a hF => ?_
                      refine eQ 9 (v0 := .int .i64 (2 * r + (bN : Int) % xc)) (v := .int .i64 (2 * r + (bN : Int) % xc)) hF (by kernel_rfl) (fun _ => by kernel_rfl) rfl fun a hF => ?_
                      refine wpQuiet_nil ?_
                      intro w hM
                      refine hK13 _ _ ?_
                      refine wp_seq_k fun K15 hK15 => ?_
                      refine rQ hM (by kernel_rfl) (by kernel_rfl) ?_
                      refine eQ 54 (v0 := .int .i64 (2 * q + (bN : Int) / xc)) (v := .int .i64 (2 * q + (bN : Int) / xc)) hF (by kernel_rfl) (fun _ => by kernel_rfl) rfl fun a hF => ?_
                      refine eQ 55 (v0 := .int .i64 (2 * r + (bN : Int) % xc)) (v := .int .i64 (2 * r + (bN : Int) % xc)) hF (by kernel_rfl) (fun _ => by kernel_rfl) rfl fun a hF => ?_
                      refine eQ 56 (v0 := .int .i64 xc) (v := .int .i64 xc) hF (by kernel_rfl) (fun _ => by kernel_rfl) rfl fun a hF => ?_
                      refine eQ2 57 (v := .int .i64 ((2 * r + (bN : Int) % xc) / xc)) hF (by kernel_rfl) (yld_quo (2 * r + (bN : Int) % xc) xc hF rfl (by kernel_rfl) (by kernel_rfl) (by kernel_rfl) (by omega) (qpos_i64 (by omega) (by omega) (by omega))) fun a hF => ?_
                      have := ediv_le_self_of (p := 2 * r + (bN : Int) % xc) (q := xc) (by omega) (by omega)
                      refine eQ 58 (v0 := .int .i64 (IntKind.i64.wrap (2 * q + (bN : Int) / xc + (2 * r + (bN : Int) % xc) / xc))) (v := .int .i64 (2 * q + (bN : Int) / xc + (2 * r + (bN : Int) % xc) / xc)) hF (by kernel_rfl) (fun _ => by kernel_rfl) (wi (by omega)) fun a hF => ?_
                      refine eQ 59 (v0 := .int .i64 (2 * r + (bN : Int) % xc)) (v := .int .i64 (2 * r + (bN : Int) % xc)) hF (by kernel_rfl) (fun _ => by kernel_rfl) rfl fun a hF => ?_
                      refine eQ 60 (v0 := .int .i64 xc) (v := .int .i64 xc) hF (by kernel_rfl) (fun _ => by kernel_rfl) rfl fun a hF => ?_
                      refine eQ2 61 (v := .int .i64 ((2 * r + (bN : Int) % xc) % xc)) hF (by kernel_rfl) (yld_rem (2 * r + (bN : Int) % xc) xc hF rfl (by kernel_rfl) (by kernel_rfl) (by kernel_rfl) (by omega) (Int.tmod_eq_emod_of_nonneg (by omega))) fun a hF => ?_
                      have := emod_bd (p := 2 * r + (bN : Int) % xc) (q := xc) (by omega) (by omega)
                      refine eQ 8 (v0 := .int .i64 (2 * q + (bN : Int) / xc + (2 * r + (bN : Int) % xc) / xc)) (v := .int .i64 (2 * q + (bN : Int) / xc + (2 * r + (bN : Int) % xc) / xc)) hF (by kernel_rfl) (fun _ => by kernel_rfl) rfl fun a hF => ?_
                      refine eQ 9 (v0 := .int .i64 ((2 * r + (bN : Int) % xc) % xc)) (v := .int .i64 ((2 * r + (bN : Int) % xc) % xc)) hF (by kernel_rfl) (fun _ => by kernel_rfl) rfl fun a hF => ?_
                      refine wpQuiet_nil ?_
                      intro w hM
                      refine hK15 _ _ ?_
                      refine wp_seq_k fun K16 hK16 => ?_
                      refine wp_region_lit ?_
                      refine sB 2 [(62, .int .i64 (2 * q + (bN : Int) / xc + (2 * r + (bN : Int) % xc) / xc)), (63, .bool (decide (2251799813685248 < 2 * q + (bN : Int) / xc + (2 * r + (bN : Int) % xc) / xc)))] hF (by kernel_rfl) fun a hF => ?_
                      refine wpList_nil ?_
                      refine hK16 _ _ ?_
                      by_cases hz16 : 2251799813685248 < 2 * q + (bN : Int) / xc + (2 * r + (bN : Int) % xc) / xc
                      · skip
                        replace hF := hF.c hF (i := 63) (v := .bool true) rfl (bT hz16)
                        refine cT hF (by kernel_rfl) (by kernel_rfl) ?_
                        refine wp_seq_k fun K17 hK17 => ?_
                        refine wp_region_lit ?_
                        refine sB 2 [(6, .int .i64 0), (7, .bool false)] hF (by kernel_rfl) fun a hF => ?_
                        refine wpList_nil ?_
                        refine hK17 _ _ ?_
                        refine wp_ret ?_
                        refine hR0 _ _ ?_
                        refine ret_of hF hM (.tmp rfl (.tmp rfl (.nil))) ?_
                        have hnx := hA.next1 (by rw [← hsh]; omega) (by omega) (by omega)
                        have hmd : mdB xa xb xc = false ∧ mdV xa xb xc = 0 := md_big (q := 2 * q + (bN : Int) / xc + (2 * r + (bN : Int) % xc) / xc) (by omega) (by omega) (by rw [← haN, ← hbN]; exact hnx.big)
                        exact ⟨ret_eq (by rw [hmd.1, hmd.2]; rfl), hM.bel⟩
                      · skip
                        replace hF := hF.c hF (i := 63) (v := .bool false) rfl (bF hz16)
                        refine cF hF (by kernel_rfl) (by kernel_rfl) ?_
                        refine wp_skip ?_
                        refine hK11 _ _ ?_
                        refine wp_region_lit ?_
                        refine sB 1 [(30, .int .i64 ((kb : Int) - 1))] hF (by kernel_rfl) fun a hF => ?_
                        refine wl (eP 31 (v0 := .int .i64 (IntKind.i64.wrap ((kb : Int) - 1 - 1))) (v := .int .i64 ((kb : Int) - 1 - 1)) hF (by kernel_rfl) (fun _ => by kernel_rfl) (wi (by omega)) fun a hF => ?_)
                        refine sB 1 [(10, .int .i64 ((kb : Int) - 1 - 1))] hF (by kernel_rfl) fun a hF => ?_
                        refine wpList_nil ?_
                        have hnx := hA.next1 (by rw [← hsh]; omega) (by omega) (by omega)
                        refine hK8 _ _ ⟨(m, 2 * q + (bN : Int) / xc + (2 * r + (bN : Int) % xc) / xc, (2 * r + (bN : Int) % xc) % xc), ⟨(((((((Fr.nil hF).c hF (i := 2) rfl rfl).c hF (i := 1) rfl rfl).c hF (i := 0) rfl rfl).c hF (i := 10) rfl (vi (show ((kb : Int) - 1 - 1 : Int) = (m : Int) - 1 from by omega))).c hF (i := 9) rfl rfl).c hF (i := 8) rfl rfl), (hM.sub Sub.nil), (show MdAt aN (bN : Int) xc m (2 * q + (bN : Int) / xc + (2 * r + (bN : Int) % xc) / xc) ((2 * r + (bN : Int) % xc) % xc) from by exact hnx), (show (m : Int) ≤ 51 from by omega), (show 0 ≤ (2 * q + (bN : Int) / xc + (2 * r + (bN : Int) % xc) / xc) from by exact hnx.q0), (show (2 * q + (bN : Int) / xc + (2 * r + (bN : Int) % xc) / xc) ≤ 2251799813685248 from by omega), (show 0 ≤ ((2 * r + (bN : Int) % xc) % xc) from by exact hnx.r0), (show ((2 * r + (bN : Int) % xc) % xc) < xc from by exact hnx.r1)⟩, (show m < kb from by omega)⟩
                    · skip
                      replace hF := hF.c hF (i := 41) (v := .bool false) rfl (bF hz15)
                      refine cF hF (by kernel_rfl) (by kernel_rfl) ?_
                      refine wp_skip ?_
                      refine hK13 _ _ ?_
                      refine wp_seq_k fun K18 hK18 => ?_
                      refine rQ hM (by kernel_rfl) (by kernel_rfl) ?_
                      refine eQ 54 (v0 := .int .i64 (2 * q)) (v := .int .i64 (2 * q)) hF (by kernel_rfl) (fun _ => by kernel_rfl) rfl fun a hF => ?_
                      refine eQ 55 (v0 := .int .i64 (2 * r)) (v := .int .i64 (2 * r)) hF (by kernel_rfl) (fun _ => by kernel_rfl) rfl fun a hF => ?_
                      refine eQ 56 (v0 := .int .i64 xc) (v := .int .i64 xc) hF (by kernel_rfl) (fun _ => by kernel_rfl) rfl fun a hF => ?_
                      refine eQ2 57 (v := .int .i64 (2 * r / xc)) hF (by kernel_rfl) (yld_quo (2 * r) xc hF rfl (by kernel_rfl) (by kernel_rfl) (by kernel_rfl) (by omega) (qpos_i64 (by omega) (by omega) (by omega))) fun a hF => ?_
                      have := ediv_le_self_of (p := 2 * r) (q := xc) (by omega) (by omega)
                      refine eQ 58 (v0 := .int .i64 (IntKind.i64.wrap (2 * q + 2 * r / xc))) (v := .int .i64 (2 * q + 2 * r / xc)) hF (by kernel_rfl) (fun _ => by kernel_rfl) (wi (by omega)) fun a hF => ?_
                      refine eQ 59 (v0 := .int .i64 (2 * r)) (v := .int .i64 (2 * r)) hF (by kernel_rfl) (fun _ => by kernel_rfl) rfl fun a hF => ?_
                      refine eQ 60 (v0 := .int .i64 xc) (v := .int .i64 xc) hF (by kernel_rfl) (fun _ => by kernel_rfl) rfl fun a hF => ?_
                      refine eQ2 61 (v := .int .i64 (2 * r % xc)) hF (by kernel_rfl) (yld_rem (2 * r) xc hF rfl (by kernel_rfl) (by kernel_rfl) (by kernel_rfl) (by omega) (Int.tmod_eq_emod_of_nonneg (by omega))) fun a hF => ?_
                      have := emod_bd (p := 2 * r) (q := xc) (by omega) (by omega)
                      refine eQ 8 (v0 := .int .i64 (2 * q + 2 * r / xc)) (v := .int .i64 (2 * q + 2 * r / xc)) hF (by kernel_rfl) (fun _ => by kernel_rfl) rfl fun a hF => ?_
                      refine eQ 9 (v0 := .int .i64 (2 * r % xc)) (v := .int .i64 (2 * r % xc)) hF (by kernel_rfl) (fun _ => by kernel_rfl) rfl fun a hF => ?_
                      refine wpQuiet_nil ?_
                      intro w hM
                      refine hK18 _ _ ?_
                      refine wp_seq_k fun K19 hK19 => ?_
                      refine wp_region_lit ?_
                      refine sB 2 [(62, .int .i64 (2 * q + 2 * r / xc)), (63, .bool (decide (2251799813685248 < 2 * q + 2 * r / xc)))] hF (by kernel_rfl) fun a hF => ?_
                      refine wpList_nil ?_
                      refine hK19 _ _ ?_
                      by_cases hz17 : 2251799813685248 < 2 * q + 2 * r / xc
                      · skip
                        replace hF := hF.c hF (i := 63) (v := .bool true) rfl (bT hz17)
                        refine cT hF (by kernel_rfl) (by kernel_rfl) ?_
                        refine wp_seq_k fun K20 hK20 => ?_
                        refine wp_region_lit ?_
                        refine sB 2 [(6, .int .i64 0), (7, .bool false)] hF (by kernel_rfl) fun a hF => ?_
                        refine wpList_nil ?_
                        refine hK20 _ _ ?_
                        refine wp_ret ?_
                        refine hR0 _ _ ?_
                        refine ret_of hF hM (.tmp rfl (.tmp rfl (.nil))) ?_
                        have hnx := hA.next0 (by rw [← hsh]; omega) (by omega)
                        have hmd : mdB xa xb xc = false ∧ mdV xa xb xc = 0 := md_big (q := 2 * q + 2 * r / xc) (by omega) (by omega) (by rw [← haN, ← hbN]; exact hnx.big)
                        exact ⟨ret_eq (by rw [hmd.1, hmd.2]; rfl), hM.bel⟩
                      · skip
                        replace hF := hF.c hF (i := 63) (v := .bool false) rfl (bF hz17)
                        refine cF hF (by kernel_rfl) (by kernel_rfl) ?_
                        refine wp_skip ?_
                        refine hK11 _ _ ?_
                        refine wp_region_lit ?_
                        refine sB 1 [(30, .int .i64 ((kb : Int) - 1))] hF (by kernel_rfl) fun a hF => ?_
                        refine wl (eP 31 (v0 := .int .i64 (IntKind.i64.wrap ((kb : Int) - 1 - 1))) (v := .int .i64 ((kb : Int) - 1 - 1)) hF (by kernel_rfl) (fun _ => by kernel_rfl) (wi (by omega)) fun a hF => ?_)
                        refine sB 1 [(10, .int .i64 ((kb : Int) - 1 - 1))] hF (by kernel_rfl) fun a hF => ?_
                        refine wpList_nil ?_
                        have hnx := hA.next0 (by rw [← hsh]; omega) (by omega)
                        refine hK8 _ _ ⟨(m, 2 * q + 2 * r / xc, 2 * r % xc), ⟨(((((((Fr.nil hF).c hF (i := 2) rfl rfl).c hF (i := 1) rfl rfl).c hF (i := 0) rfl rfl).c hF (i := 10) rfl (vi (show ((kb : Int) - 1 - 1 : Int) = (m : Int) - 1 from by omega))).c hF (i := 9) rfl rfl).c hF (i := 8) rfl rfl), (hM.sub Sub.nil), (show MdAt aN (bN : Int) xc m (2 * q + 2 * r / xc) (2 * r % xc) from by exact hnx), (show (m : Int) ≤ 51 from by omega), (show 0 ≤ (2 * q + 2 * r / xc) from by exact hnx.q0), (show (2 * q + 2 * r / xc) ≤ 2251799813685248 from by omega), (show 0 ≤ (2 * r % xc) from by exact hnx.r0), (show (2 * r % xc) < xc from by exact hnx.r1)⟩, (show m < kb from by omega)⟩
                  · skip
                    replace hF := hF.c hF (i := 29) (v := .bool false) rfl (bF hz14)
                    refine cF hF (by kernel_rfl) (by kernel_rfl) ?_
                    refine wp_exit ?_
                    refine hK6 _ _ ?_
                    refine wp_seq_k fun K21 hK21 => ?_
                    refine wp_seq_k fun K22 hK22 => ?_
                    by_cases hz18 : xa < 0
                    · skip
                      by_cases hz19 : xb < 0
                      · skip
                        refine wp_region_lit ?_
                        refine sB 1 [(64, .int .i64 xa)] hF (by kernel_rfl) fun a hF => ?_
                        refine wl (eP 65 (v0 := .bool (decide (xa < 0))) (v := .bool true) hF (by kernel_rfl) (fun _ => by kernel_rfl) (bT hz18) fun a hF => ?_)
                        refine sB 1 [(66, .int .i64 xb)] hF (by kernel_rfl) fun a hF => ?_
                        refine wl (eP 67 (v0 := .bool (decide (xb < 0))) (v := .bool true) hF (by kernel_rfl) (fun _ => by kernel_rfl) (bT hz19) fun a hF => ?_)
                        refine sB 9 [(68, .bool false), (69, .bool false), (70, undef), (71, undef), (72, .bool false), (73, .bool false), (74, undef), (75, undef), (76, .bool false)] hF (by kernel_rfl) fun a hF => ?_
                        refine wpList_nil ?_
                        refine hK22 _ _ ?_
                        refine cF hF (by kernel_rfl) (by kernel_rfl) ?_
                        refine wp_skip ?_
                        refine hK21 _ _ ?_
                        refine wp_seq_k fun K23 hK23 => ?_
                        refine wp_region_lit ?_
                        refine sB 1 [(83, .int .i64 q)] hF (by kernel_rfl) fun a hF => ?_
                        refine wl (sC (f := 40) (args := #[.int .i64 q]) hF (by kernel_rfl) rfl (by decide) (by kernel_rfl) (fun _ => by kernel_rfl) ?_)
                        refine enterK 8 Tryd.func40 rfl rfl rfl ?_
                        intro a1 hF1 QR24 hR24 hNR24
                        refine wp_seq_k fun K25 hK25 => ?_
                        refine wp_region_lit ?_
                        refine sB 2 [(2, .int .i64 0), (3, .bool false)] hF1 (by kernel_rfl) fun a1 hF1 => ?_
                        refine wpList_nil ?_
                        refine hK25 _ _ ?_
                        refine wp_seq_k fun K26 hK26 => ?_
                        refine wp_seq_k fun K27 hK27 => ?_
                        by_cases hz20 : q ≤ 1125899906842624
                        · skip
                          refine wp_region_lit ?_
                          refine sB 1 [(4, .int .i64 q)] hF1 (by kernel_rfl) fun a1 hF1 => ?_
                          refine wl (eM 5 (v := .bool true) hF1 hM (by kernel_rfl) (yld_call (f := 33) (args := #[.int .i64 q]) hF1 (by kernel_rfl) (fun _ => by kernel_rfl) (fun w hM => rIn_yes q w (by omega))) fun a1 w hF1 hM => ?_)
                          refine sB 1 [(6, .bool false)] hF1 (by kernel_rfl) fun a1 hF1 => ?_
                          refine wpList_nil ?_
                          refine hK27 _ _ ?_
                          refine cF hF1 (by kernel_rfl) (by kernel_rfl) ?_
                          refine wp_skip ?_
                          refine hK26 _ _ ?_
                          refine wp_seq_k fun K28 hK28 => ?_
                          refine wp_region_lit ?_
                          refine sB 3 [(7, .int .i64 q), (2, .int .i64 q), (3, .bool true)] hF1 (by kernel_rfl) fun a1 hF1 => ?_
                          refine wpList_nil ?_
                          refine hK28 _ _ ?_
                          refine wp_ret ?_
                          refine hR24 _ _ ?_
                          refine ret_of hF1 hM (.tmp rfl (.tmp rfl (.nil))) ⟨_, rfl, ?_⟩
                          intro a hF
                          refine sB 4 [(85, .int .i64 q), (86, .bool true), (6, .int .i64 q), (7, .bool true)] hF (by kernel_rfl) fun a hF => ?_
                          refine wpList_nil ?_
                          refine hK23 _ _ ?_
                          refine wp_ret ?_
                          refine hR0 _ _ ?_
                          refine ret_of hF hM (.tmp rfl (.tmp rfl (.nil))) ?_
                          have hk0 : kb = 0 := by omega
                          rw [hk0] at hA0
                          have hint := hA0.done
                          rw [haN, hbN] at hint
                          have hmd : mdB xa xb xc = true ∧ mdV xa xb xc = q := md_yes (by unfold inR; omega) (fl_pos (q := q) (r := r) (mul_sign_pos (by omega)) hint (by omega) (by omega)) (by unfold inR; omega)
                          exact ⟨ret_eq (by rw [hmd.1, hmd.2]; rfl), hM.bel⟩
                        · skip
                          refine wp_region_lit ?_
                          refine sB 1 [(4, .int .i64 q)] hF1 (by kernel_rfl) fun a1 hF1 => ?_
                          refine wl (eM 5 (v := .bool false) hF1 hM (by kernel_rfl) (yld_call (f := 33) (args := #[.int .i64 q]) hF1 (by kernel_rfl) (fun _ => by kernel_rfl) (fun w hM => rIn_no q w (by omega))) fun a1 w hF1 hM => ?_)
                          refine sB 1 [(6, .bool true)] hF1 (by kernel_rfl) fun a1 hF1 => ?_
                          refine wpList_nil ?_
                          refine hK27 _ _ ?_
                          refine cT hF1 (by kernel_rfl) (by kernel_rfl) ?_
                          refine wp_seq_k fun K29 hK29 => ?_
                          refine wp_region_lit ?_
                          refine sB 2 [(2, .int .i64 0), (3, .bool false)] hF1 (by kernel_rfl) fun a1 hF1 => ?_
                          refine wpList_nil ?_
                          refine hK29 _ _ ?_
                          refine wp_ret ?_
                          refine hR24 _ _ ?_
                          refine ret_of hF1 hM (.tmp rfl (.tmp rfl (.nil))) ⟨_, rfl, ?_⟩
                          intro a hF
                          refine sB 4 [(85, .int .i64 0), (86, .bool false), (6, .int .i64 0), (7, .bool false)] hF (by kernel_rfl) fun a hF => ?_
                          refine wpList_nil ?_
                          refine hK23 _ _ ?_
                          refine wp_ret ?_
                          refine hR0 _ _ ?_
                          refine ret_of hF hM (.tmp rfl (.tmp rfl (.nil))) ?_
                          have hk0 : kb = 0 := by omega
                          rw [hk0] at hA0
                          have hint := hA0.done
                          rw [haN, hbN] at hint
                          have hmd : mdB xa xb xc = false ∧ mdV xa xb xc = 0 := md_out (v := q) (fl_pos (q := q) (r := r) (mul_sign_pos (by omega)) hint (by omega) (by omega)) (by unfold inR; omega)
                          exact ⟨ret_eq (by rw [hmd.1, hmd.2]; rfl), hM.bel⟩
                      · skip
                        refine wp_region_lit ?_
                        refine sB 1 [(64, .int .i64 xa)] hF (by kernel_rfl) fun a hF => ?_
                        refine wl (eP 65 (v0 := .bool (decide (xa < 0))) (v := .bool true) hF (by kernel_rfl) (fun _ => by kernel_rfl) (bT hz18) fun a hF => ?_)
                        refine sB 1 [(66, .int .i64 xb)] hF (by kernel_rfl) fun a hF => ?_
                        refine wl (eP 67 (v0 := .bool (decide (xb < 0))) (v := .bool false) hF (by kernel_rfl) (fun _ => by kernel_rfl) (bF hz19) fun a hF => ?_)
                        refine sB 3 [(68, .bool true), (69, .bool true), (70, .int .i64 xa)] hF (by kernel_rfl) fun a hF => ?_
                        refine wl (eP 71 (v0 := .bool (!decide (xa = 0))) (v := .bool true) hF (by kernel_rfl) (fun _ => by kernel_rfl) (nF (by omega)) fun a hF => ?_)
                        refine sB 5 [(72, .bool true), (73, .bool true), (74, .int .i64 xb), (75, .bool (!decide (xb = 0))), (76, .bool (!decide (xb = 0)))] hF (by kernel_rfl) fun a hF => ?_
                        refine wpList_nil ?_
                        refine hK22 _ _ ?_
                        by_cases hz21 : xb = 0
                        · skip
                          replace hF := hF.c hF (i := 75) (v := .bool false) rfl (nT hz21)
                          replace hF := hF.c hF (i := 76) (v := .bool false) rfl (nT hz21)
                          refine cF hF (by kernel_rfl) (by kernel_rfl) ?_
                          refine wp_skip ?_
                          refine hK21 _ _ ?_
                          refine wp_seq_k fun K30 hK30 => ?_
                          refine wp_region_lit ?_
                          refine sB 1 [(83, .int .i64 q)] hF (by kernel_rfl) fun a hF => ?_
                          refine wl (sC (f := 40) (args := #[.int .i64 q]) hF (by kernel_rfl) rfl (by decide) (by kernel_rfl) (fun _ => by kernel_rfl) ?_)
                          refine enterK 8 Tryd.func40 rfl rfl rfl ?_
                          intro a1 hF1 QR31 hR31 hNR31
                          refine wp_seq_k fun K32 hK32 => ?_
                          refine wp_region_lit ?_
                          refine sB 2 [(2, .int .i64 0), (3, .bool false)] hF1 (by kernel_rfl) fun a1 hF1 => ?_
                          refine wpList_nil ?_
                          refine hK32 _ _ ?_
                          refine wp_seq_k fun K33 hK33 => ?_
                          refine wp_seq_k fun K34 hK34 => ?_
                          by_cases hz22 : q ≤ 1125899906842624
                          · skip
                            refine wp_region_lit ?_
                            refine sB 1 [(4, .int .i64 q)] hF1 (by kernel_rfl) fun a1 hF1 => ?_
                            refine wl (eM 5 (v := .bool true) hF1 hM (by kernel_rfl) (yld_call (f := 33) (args := #[.int .i64 q]) hF1 (by kernel_rfl) (fun _ => by kernel_rfl) (fun w hM => rIn_yes q w (by omega))) fun a1 w hF1 hM => ?_)
                            refine sB 1 [(6, .bool false)] hF1 (by kernel_rfl) fun a1 hF1 => ?_
                            refine wpList_nil ?_
                            refine hK34 _ _ ?_
                            refine cF hF1 (by kernel_rfl) (by kernel_rfl) ?_
                            refine wp_skip ?_
                            refine hK33 _ _ ?_
                            refine wp_seq_k fun K35 hK35 => ?_
                            refine wp_region_lit ?_
                            refine sB 3 [(7, .int .i64 q), (2, .int .i64 q), (3, .bool true)] hF1 (by kernel_rfl) fun a1 hF1 => ?_
                            refine wpList_nil ?_
                            refine hK35 _ _ ?_
                            refine wp_ret ?_
                            refine hR31 _ _ ?_
                            refine ret_of hF1 hM (.tmp rfl (.tmp rfl (.nil))) ⟨_, rfl, ?_⟩
                            intro a hF
                            refine sB 4 [(85, .int .i64 q), (86, .bool true), (6, .int .i64 q), (7, .bool true)] hF (by kernel_rfl) fun a hF => ?_
                            refine wpList_nil ?_
                            refine hK30 _ _ ?_
                            refine wp_ret ?_
                            refine hR0 _ _ ?_
                            refine ret_of hF hM (.tmp rfl (.tmp rfl (.nil))) ?_
                            have hk0 : kb = 0 := by omega
                            rw [hk0] at hA0
                            have hint := hA0.done
                            rw [haN, hbN] at hint
                            have hmd : mdB xa xb xc = true ∧ mdV xa xb xc = q := md_yes (by unfold inR; omega) (fl_pos (q := q) (r := r) (by rw [hz21, Int.mul_zero]; decide) hint (by omega) (by omega)) (by unfold inR; omega)
                            exact ⟨ret_eq (by rw [hmd.1, hmd.2]; rfl), hM.bel⟩
                          · skip
                            refine wp_region_lit ?_
                            refine sB 1 [(4, .int .i64 q)] hF1 (by kernel_rfl) fun a1 hF1 => ?_
                            refine wl (eM 5 (v := .bool false) hF1 hM (by kernel_rfl) (yld_call (f := 33) (args := #[.int .i64 q]) hF1 (by kernel_rfl) (fun _ => by kernel_rfl) (fun w hM => rIn_no q w (by omega))) fun a1 w hF1 hM => ?_)
                            refine sB 1 [(6, .bool true)] hF1 (by kernel_rfl) fun a1 hF1 => ?_
                            refine wpList_nil ?_
                            refine hK34 _ _ ?_
                            refine cT hF1 (by kernel_rfl) (by kernel_rfl) ?_
                            refine wp_seq_k fun K36 hK36 => ?_
                            refine wp_region_lit ?_
                            refine sB 2 [(2, .int .i64 0), (3, .bool false)] hF1 (by kernel_rfl) fun a1 hF1 => ?_
                            refine wpList_nil ?_
                            refine hK36 _ _ ?_
                            refine wp_ret ?_
                            refine hR31 _ _ ?_
                            refine ret_of hF1 hM (.tmp rfl (.tmp rfl (.nil))) ⟨_, rfl, ?_⟩
                            intro a hF
                            refine sB 4 [(85, .int .i64 0), (86, .bool false), (6, .int .i64 0), (7, .bool false)] hF (by kernel_rfl) fun a hF => ?_
                            refine wpList_nil ?_
                            refine hK30 _ _ ?_
                            refine wp_ret ?_
                            refine hR0 _ _ ?_
                            refine ret_of hF hM (.tmp rfl (.tmp rfl (.nil))) ?_
                            have hk0 : kb = 0 := by omega
                            rw [hk0] at hA0
                            have hint := hA0.done
                            rw [haN, hbN] at hint
                            have hmd : mdB xa xb xc = false ∧ mdV xa xb xc = 0 := md_out (v := q) (fl_pos (q := q) (r := r) (by rw [hz21, Int.mul_zero]; decide) hint (by omega) (by omega)) (by unfold inR; omega)
                            exact ⟨ret_eq (by rw [hmd.1, hmd.2]; rfl), hM.bel⟩
                        · skip
                          replace hF := hF.c hF (i := 75) (v := .bool true) rfl (nF hz21)
                          replace hF := hF.c hF (i := 76) (v := .bool true) rfl (nF hz21)
                          refine cT hF (by kernel_rfl) (by kernel_rfl) ?_
                          refine wp_seq_k fun K37 hK37 => ?_
                          refine wp_seq_k fun K38 hK38 => ?_
                          refine wp_region_lit ?_
                          refine sB 2 [(77, .int .i64 r), (78, .bool (decide (0 < r)))] hF (by kernel_rfl) fun a hF => ?_
                          refine wpList_nil ?_
                          refine hK38 _ _ ?_
                          by_cases hz23 : 0 < r
                          · skip
                            replace hF := hF.c hF (i := 78) (v := .bool true) rfl (bT hz23)
                            refine cT hF (by kernel_rfl) (by kernel_rfl) ?_
                            refine wp_region_lit ?_
                            refine sB 1 [(79, .int .i64 q)] hF (by kernel_rfl) fun a hF => ?_
                            refine wl (eP 80 (v0 := .int .i64 (IntKind.i64.wrap (q + 1))) (v := .int .i64 (q + 1)) hF (by kernel_rfl) (fun _ => by kernel_rfl) (wi (by omega)) fun a hF => ?_)
                            refine sB 1 [(8, .int .i64 (q + 1))] hF (by kernel_rfl) fun a hF => ?_
                            refine wpList_nil ?_
                            refine hK37 _ _ ?_
                            refine wp_region_lit ?_
                            refine sB 1 [(81, .int .i64 (q + 1))] hF (by kernel_rfl) fun a hF => ?_
                            refine wl (eP 82 (v0 := .int .i64 (IntKind.i64.wrap (0 - (q + 1)))) (v := .int .i64 (-(q + 1))) hF (by kernel_rfl) (fun _ => by kernel_rfl) (vi (by rw [Int.zero_sub]; exact (w64 (by omega)))) fun a hF => ?_)
                            refine sB 1 [(8, .int .i64 (-(q + 1)))] hF (by kernel_rfl) fun a hF => ?_
                            refine wpList_nil ?_
                            refine hK21 _ _ ?_
                            refine wp_seq_k fun K39 hK39 => ?_
                            refine wp_region_lit ?_
                            refine sB 1 [(83, .int .i64 (-(q + 1)))] hF (by kernel_rfl) fun a hF => ?_
                            refine wl (sC (f := 40) (args := #[.int .i64 (-(q + 1))]) hF (by kernel_rfl) rfl (by decide) (by kernel_rfl) (fun _ => by kernel_rfl) ?_)
                            refine enterK 8 Tryd.func40 rfl rfl rfl ?_
                            intro a1 hF1 QR40 hR40 hNR40
                            refine wp_seq_k fun K41 hK41 => ?_
                            refine wp_region_lit ?_
                            refine sB 2 [(2, .int .i64 0), (3, .bool false)] hF1 (by kernel_rfl) fun a1 hF1 => ?_
                            refine wpList_nil ?_
                            refine hK41 _ _ ?_
                            refine wp_seq_k fun K42 hK42 => ?_
                            refine wp_seq_k fun K43 hK43 => ?_
                            by_cases hz24 : -1125899906842624 ≤ -(q + 1)
                            · skip
                              refine wp_region_lit ?_
                              refine sB 1 [(4, .int .i64 (-(q + 1)))] hF1 (by kernel_rfl) fun a1 hF1 => ?_
                              refine wl (eM 5 (v := .bool true) hF1 hM (by kernel_rfl) (yld_call (f := 33) (args := #[.int .i64 (-(q + 1))]) hF1 (by kernel_rfl) (fun _ => by kernel_rfl) (fun w hM => rIn_yes (-(q + 1)) w (by omega))) fun a1 w hF1 hM => ?_)
                              refine sB 1 [(6, .bool false)] hF1 (by kernel_rfl) fun a1 hF1 => ?_
                              refine wpList_nil ?_
                              refine hK43 _ _ ?_
                              refine cF hF1 (by kernel_rfl) (by kernel_rfl) ?_
                              refine wp_skip ?_
                              refine hK42 _ _ ?_
                              refine wp_seq_k fun K44 hK44 => ?_
                              refine wp_region_lit ?_
                              refine sB 3 [(7, .int .i64 (-(q + 1))), (2, .int .i64 (-(q + 1))), (3, .bool true)] hF1 (by kernel_rfl) fun a1 hF1 => ?_
                              refine wpList_nil ?_
                              refine hK44 _ _ ?_
                              refine wp_ret ?_
                              refine hR40 _ _ ?_
                              refine ret_of hF1 hM (.tmp rfl (.tmp rfl (.nil))) ⟨_, rfl, ?_⟩
                              intro a hF
                              refine sB 4 [(85, .int .i64 (-(q + 1))), (86, .bool true), (6, .int .i64 (-(q + 1))), (7, .bool true)] hF (by kernel_rfl) fun a hF => ?_
                              refine wpList_nil ?_
                              refine hK39 _ _ ?_
                              refine wp_ret ?_
                              refine hR0 _ _ ?_
                              refine ret_of hF hM (.tmp rfl (.tmp rfl (.nil))) ?_
                              have hk0 : kb = 0 := by omega
                              rw [hk0] at hA0
                              have hint := hA0.done
                              rw [haN, hbN] at hint
                              have hmd : mdB xa xb xc = true ∧ mdV xa xb xc = -(q + 1) := md_yes (by unfold inR; omega) ((fl_neg1 (q := q) (r := r) (mul_sign_neg (by omega)) hint (by omega) (by omega)).trans (show -q - 1 = -(q + 1) by omega)) (by unfold inR; omega)
                              exact ⟨ret_eq (by rw [hmd.1, hmd.2]; rfl), hM.bel⟩
                            · skip
                              refine wp_region_lit ?_
                              refine sB 1 [(4, .int .i64 (-(q + 1)))] hF1 (by kernel_rfl) fun a1 hF1 => ?_
                              refine wl (eM 5 (v := .bool false) hF1 hM (by kernel_rfl) (yld_call (f := 33) (args := #[.int .i64 (-(q + 1))]) hF1 (by kernel_rfl) (fun _ => by kernel_rfl) (fun w hM => rIn_no (-(q + 1)) w (by omega))) fun a1 w hF1 hM => ?_)
                              refine sB 1 [(6, .bool true)] hF1 (by kernel_rfl) fun a1 hF1 => ?_
                              refine wpList_nil ?_
                              refine hK43 _ _ ?_
                              refine cT hF1 (by kernel_rfl) (by kernel_rfl) ?_
                              refine wp_seq_k fun K45 hK45 => ?_
                              refine wp_region_lit ?_
                              refine sB 2 [(2, .int .i64 0), (3, .bool false)] hF1 (by kernel_rfl) fun a1 hF1 => ?_
                              refine wpList_nil ?_
                              refine hK45 _ _ ?_
                              refine wp_ret ?_
                              refine hR40 _ _ ?_
                              refine ret_of hF1 hM (.tmp rfl (.tmp rfl (.nil))) ⟨_, rfl, ?_⟩
                              intro a hF
                              refine sB 4 [(85, .int .i64 0), (86, .bool false), (6, .int .i64 0), (7, .bool false)] hF (by kernel_rfl) fun a hF => ?_
                              refine wpList_nil ?_
                              refine hK39 _ _ ?_
                              refine wp_ret ?_
                              refine hR0 _ _ ?_
                              refine ret_of hF hM (.tmp rfl (.tmp rfl (.nil))) ?_
                              have hk0 : kb = 0 := by omega
                              rw [hk0] at hA0
                              have hint := hA0.done
                              rw [haN, hbN] at hint
                              have hmd : mdB xa xb xc = false ∧ mdV xa xb xc = 0 := md_out (v := -(q + 1)) ((fl_neg1 (q := q) (r := r) (mul_sign_neg (by omega)) hint (by omega) (by omega)).trans (show -q - 1 = -(q + 1) by omega)) (by unfold inR; omega)
                              exact ⟨ret_eq (by rw [hmd.1, hmd.2]; rfl), hM.bel⟩
                          · skip
                            replace hF := hF.c hF (i := 78) (v := .bool false) rfl (bF hz23)
                            refine cF hF (by kernel_rfl) (by kernel_rfl) ?_
                            refine wp_skip ?_
                            refine hK37 _ _ ?_
                            refine wp_region_lit ?_
                            refine sB 1 [(81, .int .i64 q)] hF (by kernel_rfl) fun a hF => ?_
                            refine wl (eP 82 (v0 := .int .i64 (IntKind.i64.wrap (0 - q))) (v := .int .i64 (-q)) hF (by kernel_rfl) (fun _ => by kernel_rfl) (vi (by rw [Int.zero_sub]; exact (w64 (by omega)))) fun a hF => ?_)
                            refine sB 1 [(8, .int .i64 (-q))] hF (by kernel_rfl) fun a hF => ?_
                            refine wpList_nil ?_
                            refine hK21 _ _ ?_
                            refine wp_seq_k fun K46 hK46 => ?_
                            refine wp_region_lit ?_
                            refine sB 1 [(83, .int .i64 (-q))] hF (by kernel_rfl) fun a hF => ?_
                            refine wl (sC (f := 40) (args := #[.int .i64 (-q)]) hF (by kernel_rfl) rfl (by decide) (by kernel_rfl) (fun _ => by kernel_rfl) ?_)
                            refine enterK 8 Tryd.func40 rfl rfl rfl ?_
                            intro a1 hF1 QR47 hR47 hNR47
                            refine wp_seq_k fun K48 hK48 => ?_
                            refine wp_region_lit ?_
                            refine sB 2 [(2, .int .i64 0), (3, .bool false)] hF1 (by kernel_rfl) fun a1 hF1 => ?_
                            refine wpList_nil ?_
                            refine hK48 _ _ ?_
                            refine wp_seq_k fun K49 hK49 => ?_
                            refine wp_seq_k fun K50 hK50 => ?_
                            by_cases hz25 : -1125899906842624 ≤ -q
                            · skip
                              refine wp_region_lit ?_
                              refine sB 1 [(4, .int .i64 (-q))] hF1 (by kernel_rfl) fun a1 hF1 => ?_
                              refine wl (eM 5 (v := .bool true) hF1 hM (by kernel_rfl) (yld_call (f := 33) (args := #[.int .i64 (-q)]) hF1 (by kernel_rfl) (fun _ => by kernel_rfl) (fun w hM => rIn_yes (-q) w (by omega))) fun a1 w hF1 hM => ?_)
                              refine sB 1 [(6, .bool false)] hF1 (by kernel_rfl) fun a1 hF1 => ?_
                              refine wpList_nil ?_
                              refine hK50 _ _ ?_
                              refine cF hF1 (by kernel_rfl) (by kernel_rfl) ?_
                              refine wp_skip ?_
                              refine hK49 _ _ ?_
                              refine wp_seq_k fun K51 hK51 => ?_
                              refine wp_region_lit ?_
                              refine sB 3 [(7, .int .i64 (-q)), (2, .int .i64 (-q)), (3, .bool true)] hF1 (by kernel_rfl) fun a1 hF1 => ?_
                              refine wpList_nil ?_
                              refine hK51 _ _ ?_
                              refine wp_ret ?_
                              refine hR47 _ _ ?_
                              refine ret_of hF1 hM (.tmp rfl (.tmp rfl (.nil))) ⟨_, rfl, ?_⟩
                              intro a hF
                              refine sB 4 [(85, .int .i64 (-q)), (86, .bool true), (6, .int .i64 (-q)), (7, .bool true)] hF (by kernel_rfl) fun a hF => ?_
                              refine wpList_nil ?_
                              refine hK46 _ _ ?_
                              refine wp_ret ?_
                              refine hR0 _ _ ?_
                              refine ret_of hF hM (.tmp rfl (.tmp rfl (.nil))) ?_
                              have hk0 : kb = 0 := by omega
                              rw [hk0] at hA0
                              have hint := hA0.done
                              rw [haN, hbN] at hint
                              have hmd : mdB xa xb xc = true ∧ mdV xa xb xc = -q := md_yes (by unfold inR; omega) (fl_neg0 (q := q) (r := r) (mul_sign_neg (by omega)) hint (by omega) (by omega)) (by unfold inR; omega)
                              exact ⟨ret_eq (by rw [hmd.1, hmd.2]; rfl), hM.bel⟩
                            · skip
                              refine wp_region_lit ?_
                              refine sB 1 [(4, .int .i64 (-q))] hF1 (by kernel_rfl) fun a1 hF1 => ?_
                              refine wl (eM 5 (v := .bool false) hF1 hM (by kernel_rfl) (yld_call (f := 33) (args := #[.int .i64 (-q)]) hF1 (by kernel_rfl) (fun _ => by kernel_rfl) (fun w hM => rIn_no (-q) w (by omega))) fun a1 w hF1 hM => ?_)
                              refine sB 1 [(6, .bool true)] hF1 (by kernel_rfl) fun a1 hF1 => ?_
                              refine wpList_nil ?_
                              refine hK50 _ _ ?_
                              refine cT hF1 (by kernel_rfl) (by kernel_rfl) ?_
                              refine wp_seq_k fun K52 hK52 => ?_
                              refine wp_region_lit ?_
                              refine sB 2 [(2, .int .i64 0), (3, .bool false)] hF1 (by kernel_rfl) fun a1 hF1 => ?_
                              refine wpList_nil ?_
                              refine hK52 _ _ ?_
                              refine wp_ret ?_
                              refine hR47 _ _ ?_
                              refine ret_of hF1 hM (.tmp rfl (.tmp rfl (.nil))) ⟨_, rfl, ?_⟩
                              intro a hF
                              refine sB 4 [(85, .int .i64 0), (86, .bool false), (6, .int .i64 0), (7, .bool false)] hF (by kernel_rfl) fun a hF => ?_
                              refine wpList_nil ?_
                              refine hK46 _ _ ?_
                              refine wp_ret ?_
                              refine hR0 _ _ ?_
                              refine ret_of hF hM (.tmp rfl (.tmp rfl (.nil))) ?_
                              have hk0 : kb = 0 := by omega
                              rw [hk0] at hA0
                              have hint := hA0.done
                              rw [haN, hbN] at hint
                              have hmd : mdB xa xb xc = false ∧ mdV xa xb xc = 0 := md_out (v := -q) (fl_neg0 (q := q) (r := r) (mul_sign_neg (by omega)) hint (by omega) (by omega)) (by unfold inR; omega)
                              exact ⟨ret_eq (by rw [hmd.1, hmd.2]; rfl), hM.bel⟩
                    · skip
                      by_cases hz26 : xb < 0
                      · skip
                        by_cases hz27 : xa = 0
                        · skip
                          refine wp_region_lit ?_
                          refine sB 1 [(64, .int .i64 xa)] hF (by kernel_rfl) fun a hF => ?_
                          refine wl (eP 65 (v0 := .bool (decide (xa < 0))) (v := .bool false) hF (by kernel_rfl) (fun _ => by kernel_rfl) (bF hz18) fun a hF => ?_)
                          refine sB 1 [(66, .int .i64 xb)] hF (by kernel_rfl) fun a hF => ?_
                          refine wl (eP 67 (v0 := .bool (decide (xb < 0))) (v := .bool true) hF (by kernel_rfl) (fun _ => by kernel_rfl) (bT hz26) fun a hF => ?_)
                          refine sB 3 [(68, .bool true), (69, .bool true), (70, .int .i64 xa)] hF (by kernel_rfl) fun a hF => ?_
                          refine wl (eP 71 (v0 := .bool (!decide (xa = 0))) (v := .bool false) hF (by kernel_rfl) (fun _ => by kernel_rfl) (nT hz27) fun a hF => ?_)
                          refine sB 5 [(72, .bool false), (73, .bool false), (74, undef), (75, undef), (76, .bool false)] hF (by kernel_rfl) fun a hF => ?_
                          refine wpList_nil ?_
                          refine hK22 _ _ ?_
                          refine cF hF (by kernel_rfl) (by kernel_rfl) ?_
                          refine wp_skip ?_
                          refine hK21 _ _ ?_
                          refine wp_seq_k fun K53 hK53 => ?_
                          refine wp_region_lit ?_
                          refine sB 1 [(83, .int .i64 q)] hF (by kernel_rfl) fun a hF => ?_
                          refine wl (sC (f := 40) (args := #[.int .i64 q]) hF (by kernel_rfl) rfl (by decide) (by kernel_rfl) (fun _ => by kernel_rfl) ?_)
                          refine enterK 8 Tryd.func40 rfl rfl rfl ?_
                          intro a1 hF1 QR54 hR54 hNR54
                          refine wp_seq_k fun K55 hK55 => ?_
                          refine wp_region_lit ?_
                          refine sB 2 [(2, .int .i64 0), (3, .bool false)] hF1 (by kernel_rfl) fun a1 hF1 => ?_
                          refine wpList_nil ?_
                          refine hK55 _ _ ?_
                          refine wp_seq_k fun K56 hK56 => ?_
                          refine wp_seq_k fun K57 hK57 => ?_
                          by_cases hz28 : q ≤ 1125899906842624
                          · skip
                            refine wp_region_lit ?_
                            refine sB 1 [(4, .int .i64 q)] hF1 (by kernel_rfl) fun a1 hF1 => ?_
                            refine wl (eM 5 (v := .bool true) hF1 hM (by kernel_rfl) (yld_call (f := 33) (args := #[.int .i64 q]) hF1 (by kernel_rfl) (fun _ => by kernel_rfl) (fun w hM => rIn_yes q w (by omega))) fun a1 w hF1 hM => ?_)
                            refine sB 1 [(6, .bool false)] hF1 (by kernel_rfl) fun a1 hF1 => ?_
                            refine wpList_nil ?_
                            refine hK57 _ _ ?_
                            refine cF hF1 (by kernel_rfl) (by kernel_rfl) ?_
                            refine wp_skip ?_
                            refine hK56 _ _ ?_
                            refine wp_seq_k fun K58 hK58 => ?_
                            refine wp_region_lit ?_
                            refine sB 3 [(7, .int .i64 q), (2, .int .i64 q), (3, .bool true)] hF1 (by kernel_rfl) fun a1 hF1 => ?_
                            refine wpList_nil ?_
                            refine hK58 _ _ ?_
                            refine wp_ret ?_
                            refine hR54 _ _ ?_
                            refine ret_of hF1 hM (.tmp rfl (.tmp rfl (.nil))) ⟨_, rfl, ?_⟩
                            intro a hF
                            refine sB 4 [(85, .int .i64 q), (86, .bool true), (6, .int .i64 q), (7, .bool true)] hF (by kernel_rfl) fun a hF => ?_
                            refine wpList_nil ?_
                            refine hK53 _ _ ?_
                            refine wp_ret ?_
                            refine hR0 _ _ ?_
                            refine ret_of hF hM (.tmp rfl (.tmp rfl (.nil))) ?_
                            have hk0 : kb = 0 := by omega
                            rw [hk0] at hA0
                            have hint := hA0.done
                            rw [haN, hbN] at hint
                            have hmd : mdB xa xb xc = true ∧ mdV xa xb xc = q := md_yes (by unfold inR; omega) (fl_pos (q := q) (r := r) (by rw [hz27, Int.zero_mul]; decide) hint (by omega) (by omega)) (by unfold inR; omega)
                            exact ⟨ret_eq (by rw [hmd.1, hmd.2]; rfl), hM.bel⟩
                          · skip
                            refine wp_region_lit ?_
                            refine sB 1 [(4, .int .i64 q)] hF1 (by kernel_rfl) fun a1 hF1 => ?_
                            refine wl (eM 5 (v := .bool false) hF1 hM (by kernel_rfl) (yld_call (f := 33) (args := #[.int .i64 q]) hF1 (by kernel_rfl) (fun _ => by kernel_rfl) (fun w hM => rIn_no q w (by omega))) fun a1 w hF1 hM => ?_)
                            refine sB 1 [(6, .bool true)] hF1 (by kernel_rfl) fun a1 hF1 => ?_
                            refine wpList_nil ?_
                            refine hK57 _ _ ?_
                            refine cT hF1 (by kernel_rfl) (by kernel_rfl) ?_
                            refine wp_seq_k fun K59 hK59 => ?_
                            refine wp_region_lit ?_
                            refine sB 2 [(2, .int .i64 0), (3, .bool false)] hF1 (by kernel_rfl) fun a1 hF1 => ?_
                            refine wpList_nil ?_
                            refine hK59 _ _ ?_
                            refine wp_ret ?_
                            refine hR54 _ _ ?_
                            refine ret_of hF1 hM (.tmp rfl (.tmp rfl (.nil))) ⟨_, rfl, ?_⟩
                            intro a hF
                            refine sB 4 [(85, .int .i64 0), (86, .bool false), (6, .int .i64 0), (7, .bool false)] hF (by kernel_rfl) fun a hF => ?_
                            refine wpList_nil ?_
                            refine hK53 _ _ ?_
                            refine wp_ret ?_
                            refine hR0 _ _ ?_
                            refine ret_of hF hM (.tmp rfl (.tmp rfl (.nil))) ?_
                            have hk0 : kb = 0 := by omega
                            rw [hk0] at hA0
                            have hint := hA0.done
                            rw [haN, hbN] at hint
                            have hmd : mdB xa xb xc = false ∧ mdV xa xb xc = 0 := md_out (v := q) (fl_pos (q := q) (r := r) (by rw [hz27, Int.zero_mul]; decide) hint (by omega) (by omega)) (by unfold inR; omega)
                            exact ⟨ret_eq (by rw [hmd.1, hmd.2]; rfl), hM.bel⟩
                        · skip
                          refine wp_region_lit ?_
                          refine sB 1 [(64, .int .i64 xa)] hF (by kernel_rfl) fun a hF => ?_
                          refine wl (eP 65 (v0 := .bool (decide (xa < 0))) (v := .bool false) hF (by kernel_rfl) (fun _ => by kernel_rfl) (bF hz18) fun a hF => ?_)
                          refine sB 1 [(66, .int .i64 xb)] hF (by kernel_rfl) fun a hF => ?_
                          refine wl (eP 67 (v0 := .bool (decide (xb < 0))) (v := .bool true) hF (by kernel_rfl) (fun _ => by kernel_rfl) (bT hz26) fun a hF => ?_)
                          refine sB 3 [(68, .bool true), (69, .bool true), (70, .int .i64 xa)] hF (by kernel_rfl) fun a hF => ?_
                          refine wl (eP 71 (v0 := .bool (!decide (xa = 0))) (v := .bool true) hF (by kernel_rfl) (fun _ => by kernel_rfl) (nF hz27) fun a hF => ?_)
                          refine sB 3 [(72, .bool true), (73, .bool true), (74, .int .i64 xb)] hF (by kernel_rfl) fun a hF => ?_
                          refine wl (eP 75 (v0 := .bool (!decide (xb = 0))) (v := .bool true) hF (by kernel_rfl) (fun _ => by kernel_rfl) (nF (by omega)) fun a hF => ?_)
                          refine sB 1 [(76, .bool true)] hF (by kernel_rfl) fun a hF => ?_
                          refine wpList_nil ?_
                          refine hK22 _ _ ?_
                          refine cT hF (by kernel_rfl) (by kernel_rfl) ?_
                          refine wp_seq_k fun K60 hK60 => ?_
                          refine wp_seq_k fun K61 hK61 => ?_
                          refine wp_region_lit ?_
                          refine sB 2 [(77, .int .i64 r), (78, .bool (decide (0 < r)))] hF (by kernel_rfl) fun a hF => ?_
                          refine wpList_nil ?_
                          refine hK61 _ _ ?_
                          by_cases hz29 : 0 < r
                          · skip
                            replace hF := hF.c hF (i := 78) (v := .bool true) rfl (bT hz29)
                            refine cT hF (by kernel_rfl) (by kernel_rfl) ?_
                            refine wp_region_lit ?_
                            refine sB 1 [(79, .int .i64 q)] hF (by kernel_rfl) fun a hF => ?_
                            refine wl (eP 80 (v0 := .int .i64 (IntKind.i64.wrap (q + 1))) (v := .int .i64 (q + 1)) hF (by kernel_rfl) (fun _ => by kernel_rfl) (wi (by omega)) fun a hF => ?_)
                            refine sB 1 [(8, .int .i64 (q + 1))] hF (by kernel_rfl) fun a hF => ?_
                            refine wpList_nil ?_
                            refine hK60 _ _ ?_
                            refine wp_region_lit ?_
                            refine sB 1 [(81, .int .i64 (q + 1))] hF (by kernel_rfl) fun a hF => ?_
                            refine wl (eP 82 (v0 := .int .i64 (IntKind.i64.wrap (0 - (q + 1)))) (v := .int .i64 (-(q + 1))) hF (by kernel_rfl) (fun _ => by kernel_rfl) (vi (by rw [Int.zero_sub]; exact (w64 (by omega)))) fun a hF => ?_)
                            refine sB 1 [(8, .int .i64 (-(q + 1)))] hF (by kernel_rfl) fun a hF => ?_
                            refine wpList_nil ?_
                            refine hK21 _ _ ?_
                            refine wp_seq_k fun K62 hK62 => ?_
                            refine wp_region_lit ?_
                            refine sB 1 [(83, .int .i64 (-(q + 1)))] hF (by kernel_rfl) fun a hF => ?_
                            refine wl (sC (f := 40) (args := #[.int .i64 (-(q + 1))]) hF (by kernel_rfl) rfl (by decide) (by kernel_rfl) (fun _ => by kernel_rfl) ?_)
                            refine enterK 8 Tryd.func40 rfl rfl rfl ?_
                            intro a1 hF1 QR63 hR63 hNR63
                            refine wp_seq_k fun K64 hK64 => ?_
                            refine wp_region_lit ?_
                            refine sB 2 [(2, .int .i64 0), (3, .bool false)] hF1 (by kernel_rfl) fun a1 hF1 => ?_
                            refine wpList_nil ?_
                            refine hK64 _ _ ?_
                            refine wp_seq_k fun K65 hK65 => ?_
                            refine wp_seq_k fun K66 hK66 => ?_
                            by_cases hz30 : -1125899906842624 ≤ -(q + 1)
                            · skip
                              refine wp_region_lit ?_
                              refine sB 1 [(4, .int .i64 (-(q + 1)))] hF1 (by kernel_rfl) fun a1 hF1 => ?_
                              refine wl (eM 5 (v := .bool true) hF1 hM (by kernel_rfl) (yld_call (f := 33) (args := #[.int .i64 (-(q + 1))]) hF1 (by kernel_rfl) (fun _ => by kernel_rfl) (fun w hM => rIn_yes (-(q + 1)) w (by omega))) fun a1 w hF1 hM => ?_)
                              refine sB 1 [(6, .bool false)] hF1 (by kernel_rfl) fun a1 hF1 => ?_
                              refine wpList_nil ?_
                              refine hK66 _ _ ?_
                              refine cF hF1 (by kernel_rfl) (by kernel_rfl) ?_
                              refine wp_skip ?_
                              refine hK65 _ _ ?_
                              refine wp_seq_k fun K67 hK67 => ?_
                              refine wp_region_lit ?_
                              refine sB 3 [(7, .int .i64 (-(q + 1))), (2, .int .i64 (-(q + 1))), (3, .bool true)] hF1 (by kernel_rfl) fun a1 hF1 => ?_
                              refine wpList_nil ?_
                              refine hK67 _ _ ?_
                              refine wp_ret ?_
                              refine hR63 _ _ ?_
                              refine ret_of hF1 hM (.tmp rfl (.tmp rfl (.nil))) ⟨_, rfl, ?_⟩
                              intro a hF
                              refine sB 4 [(85, .int .i64 (-(q + 1))), (86, .bool true), (6, .int .i64 (-(q + 1))), (7, .bool true)] hF (by kernel_rfl) fun a hF => ?_
                              refine wpList_nil ?_
                              refine hK62 _ _ ?_
                              refine wp_ret ?_
                              refine hR0 _ _ ?_
                              refine ret_of hF hM (.tmp rfl (.tmp rfl (.nil))) ?_
                              have hk0 : kb = 0 := by omega
                              rw [hk0] at hA0
                              have hint := hA0.done
                              rw [haN, hbN] at hint
                              have hmd : mdB xa xb xc = true ∧ mdV xa xb xc = -(q + 1) := md_yes (by unfold inR; omega) ((fl_neg1 (q := q) (r := r) (mul_sign_neg (by omega)) hint (by omega) (by omega)).trans (show -q - 1 = -(q + 1) by omega)) (by unfold inR; omega)
                              exact ⟨ret_eq (by rw [hmd.1, hmd.2]; rfl), hM.bel⟩
                            · skip
                              refine wp_region_lit ?_
                              refine sB 1 [(4, .int .i64 (-(q + 1)))] hF1 (by kernel_rfl) fun a1 hF1 => ?_
                              refine wl (eM 5 (v := .bool false) hF1 hM (by kernel_rfl) (yld_call (f := 33) (args := #[.int .i64 (-(q + 1))]) hF1 (by kernel_rfl) (fun _ => by kernel_rfl) (fun w hM => rIn_no (-(q + 1)) w (by omega))) fun a1 w hF1 hM => ?_)
                              refine sB 1 [(6, .bool true)] hF1 (by kernel_rfl) fun a1 hF1 => ?_
                              refine wpList_nil ?_
                              refine hK66 _ _ ?_
                              refine cT hF1 (by kernel_rfl) (by kernel_rfl) ?_
                              refine wp_seq_k fun K68 hK68 => ?_
                              refine wp_region_lit ?_
                              refine sB 2 [(2, .int .i64 0), (3, .bool false)] hF1 (by kernel_rfl) fun a1 hF1 => ?_
                              refine wpList_nil ?_
                              refine hK68 _ _ ?_
                              refine wp_ret ?_
                              refine hR63 _ _ ?_
                              refine ret_of hF1 hM (.tmp rfl (.tmp rfl (.nil))) ⟨_, rfl, ?_⟩
                              intro a hF
                              refine sB 4 [(85, .int .i64 0), (86, .bool false), (6, .int .i64 0), (7, .bool false)] hF (by kernel_rfl) fun a hF => ?_
                              refine wpList_nil ?_
                              refine hK62 _ _ ?_
                              refine wp_ret ?_
                              refine hR0 _ _ ?_
                              refine ret_of hF hM (.tmp rfl (.tmp rfl (.nil))) ?_
                              have hk0 : kb = 0 := by omega
                              rw [hk0] at hA0
                              have hint := hA0.done
                              rw [haN, hbN] at hint
                              have hmd : mdB xa xb xc = false ∧ mdV xa xb xc = 0 := md_out (v := -(q + 1)) ((fl_neg1 (q := q) (r := r) (mul_sign_neg (by omega)) hint (by omega) (by omega)).trans (show -q - 1 = -(q + 1) by omega)) (by unfold inR; omega)
                              exact ⟨ret_eq (by rw [hmd.1, hmd.2]; rfl), hM.bel⟩
                          · skip
                            replace hF := hF.c hF (i := 78) (v := .bool false) rfl (bF hz29)
                            refine cF hF (by kernel_rfl) (by kernel_rfl) ?_
                            refine wp_skip ?_
                            refine hK60 _ _ ?_
                            refine wp_region_lit ?_
                            refine sB 1 [(81, .int .i64 q)] hF (by kernel_rfl) fun a hF => ?_
                            refine wl (eP 82 (v0 := .int .i64 (IntKind.i64.wrap (0 - q))) (v := .int .i64 (-q)) hF (by kernel_rfl) (fun _ => by kernel_rfl) (vi (by rw [Int.zero_sub]; exact (w64 (by omega)))) fun a hF => ?_)
                            refine sB 1 [(8, .int .i64 (-q))] hF (by kernel_rfl) fun a hF => ?_
                            refine wpList_nil ?_
                            refine hK21 _ _ ?_
                            refine wp_seq_k fun K69 hK69 => ?_
                            refine wp_region_lit ?_
                            refine sB 1 [(83, .int .i64 (-q))] hF (by kernel_rfl) fun a hF => ?_
                            refine wl (sC (f := 40) (args := #[.int .i64 (-q)]) hF (by kernel_rfl) rfl (by decide) (by kernel_rfl) (fun _ => by kernel_rfl) ?_)
                            refine enterK 8 Tryd.func40 rfl rfl rfl ?_
                            intro a1 hF1 QR70 hR70 hNR70
                            refine wp_seq_k fun K71 hK71 => ?_
                            refine wp_region_lit ?_
                            refine sB 2 [(2, .int .i64 0), (3, .bool false)] hF1 (by kernel_rfl) fun a1 hF1 => ?_
                            refine wpList_nil ?_
                            refine hK71 _ _ ?_
                            refine wp_seq_k fun K72 hK72 => ?_
                            refine wp_seq_k fun K73 hK73 => ?_
                            by_cases hz31 : -1125899906842624 ≤ -q
                            · skip
                              refine wp_region_lit ?_
                              refine sB 1 [(4, .int .i64 (-q))] hF1 (by kernel_rfl) fun a1 hF1 => ?_
                              refine wl (eM 5 (v := .bool true) hF1 hM (by kernel_rfl) (yld_call (f := 33) (args := #[.int .i64 (-q)]) hF1 (by kernel_rfl) (fun _ => by kernel_rfl) (fun w hM => rIn_yes (-q) w (by omega))) fun a1 w hF1 hM => ?_)
                              refine sB 1 [(6, .bool false)] hF1 (by kernel_rfl) fun a1 hF1 => ?_
                              refine wpList_nil ?_
                              refine hK73 _ _ ?_
                              refine cF hF1 (by kernel_rfl) (by kernel_rfl) ?_
                              refine wp_skip ?_
                              refine hK72 _ _ ?_
                              refine wp_seq_k fun K74 hK74 => ?_
                              refine wp_region_lit ?_
                              refine sB 3 [(7, .int .i64 (-q)), (2, .int .i64 (-q)), (3, .bool true)] hF1 (by kernel_rfl) fun a1 hF1 => ?_
                              refine wpList_nil ?_
                              refine hK74 _ _ ?_
                              refine wp_ret ?_
                              refine hR70 _ _ ?_
                              refine ret_of hF1 hM (.tmp rfl (.tmp rfl (.nil))) ⟨_, rfl, ?_⟩
                              intro a hF
                              refine sB 4 [(85, .int .i64 (-q)), (86, .bool true), (6, .int .i64 (-q)), (7, .bool true)] hF (by kernel_rfl) fun a hF => ?_
                              refine wpList_nil ?_
                              refine hK69 _ _ ?_
                              refine wp_ret ?_
                              refine hR0 _ _ ?_
                              refine ret_of hF hM (.tmp rfl (.tmp rfl (.nil))) ?_
                              have hk0 : kb = 0 := by omega
                              rw [hk0] at hA0
                              have hint := hA0.done
                              rw [haN, hbN] at hint
                              have hmd : mdB xa xb xc = true ∧ mdV xa xb xc = -q := md_yes (by unfold inR; omega) (fl_neg0 (q := q) (r := r) (mul_sign_neg (by omega)) hint (by omega) (by omega)) (by unfold inR; omega)
                              exact ⟨ret_eq (by rw [hmd.1, hmd.2]; rfl), hM.bel⟩
                            · skip
                              refine wp_region_lit ?_
                              refine sB 1 [(4, .int .i64 (-q))] hF1 (by kernel_rfl) fun a1 hF1 => ?_
                              refine wl (eM 5 (v := .bool false) hF1 hM (by kernel_rfl) (yld_call (f := 33) (args := #[.int .i64 (-q)]) hF1 (by kernel_rfl) (fun _ => by kernel_rfl) (fun w hM => rIn_no (-q) w (by omega))) fun a1 w hF1 hM => ?_)
                              refine sB 1 [(6, .bool true)] hF1 (by kernel_rfl) fun a1 hF1 => ?_
                              refine wpList_nil ?_
                              refine hK73 _ _ ?_
                              refine cT hF1 (by kernel_rfl) (by kernel_rfl) ?_
                              refine wp_seq_k fun K75 hK75 => ?_
                              refine wp_region_lit ?_
                              refine sB 2 [(2, .int .i64 0), (3, .bool false)] hF1 (by kernel_rfl) fun a1 hF1 => ?_
                              refine wpList_nil ?_
                              refine hK75 _ _ ?_
                              refine wp_ret ?_
                              refine hR70 _ _ ?_
                              refine ret_of hF1 hM (.tmp rfl (.tmp rfl (.nil))) ⟨_, rfl, ?_⟩
                              intro a hF
                              refine sB 4 [(85, .int .i64 0), (86, .bool false), (6, .int .i64 0), (7, .bool false)] hF (by kernel_rfl) fun a hF => ?_
                              refine wpList_nil ?_
                              refine hK69 _ _ ?_
                              refine wp_ret ?_
                              refine hR0 _ _ ?_
                              refine ret_of hF hM (.tmp rfl (.tmp rfl (.nil))) ?_
                              have hk0 : kb = 0 := by omega
                              rw [hk0] at hA0
                              have hint := hA0.done
                              rw [haN, hbN] at hint
                              have hmd : mdB xa xb xc = false ∧ mdV xa xb xc = 0 := md_out (v := -q) (fl_neg0 (q := q) (r := r) (mul_sign_neg (by omega)) hint (by omega) (by omega)) (by unfold inR; omega)
                              exact ⟨ret_eq (by rw [hmd.1, hmd.2]; rfl), hM.bel⟩
                      · skip
                        refine wp_region_lit ?_
                        refine sB 1 [(64, .int .i64 xa)] hF (by kernel_rfl) fun a hF => ?_
                        refine wl (eP 65 (v0 := .bool (decide (xa < 0))) (v := .bool false) hF (by kernel_rfl) (fun _ => by kernel_rfl) (bF hz18) fun a hF => ?_)
                        refine sB 1 [(66, .int .i64 xb)] hF (by kernel_rfl) fun a hF => ?_
                        refine wl (eP 67 (v0 := .bool (decide (xb < 0))) (v := .bool false) hF (by kernel_rfl) (fun _ => by kernel_rfl) (bF hz26) fun a hF => ?_)
                        refine sB 9 [(68, .bool false), (69, .bool false), (70, undef), (71, undef), (72, .bool false), (73, .bool false), (74, undef), (75, undef), (76, .bool false)] hF (by kernel_rfl) fun a hF => ?_
                        refine wpList_nil ?_
                        refine hK22 _ _ ?_
                        refine cF hF (by kernel_rfl) (by kernel_rfl) ?_
                        refine wp_skip ?_
                        refine hK21 _ _ ?_
                        refine wp_seq_k fun K76 hK76 => ?_
                        refine wp_region_lit ?_
                        refine sB 1 [(83, .int .i64 q)] hF (by kernel_rfl) fun a hF => ?_
                        refine wl (sC (f := 40) (args := #[.int .i64 q]) hF (by kernel_rfl) rfl (by decide) (by kernel_rfl) (fun _ => by kernel_rfl) ?_)
                        refine enterK 8 Tryd.func40 rfl rfl rfl ?_
                        intro a1 hF1 QR77 hR77 hNR77
                        refine wp_seq_k fun K78 hK78 => ?_
                        refine wp_region_lit ?_
                        refine sB 2 [(2, .int .i64 0), (3, .bool false)] hF1 (by kernel_rfl) fun a1 hF1 => ?_
                        refine wpList_nil ?_
                        refine hK78 _ _ ?_
                        refine wp_seq_k fun K79 hK79 => ?_
                        refine wp_seq_k fun K80 hK80 => ?_
                        by_cases hz32 : q ≤ 1125899906842624
                        · skip
                          refine wp_region_lit ?_
                          refine sB 1 [(4, .int .i64 q)] hF1 (by kernel_rfl) fun a1 hF1 => ?_
                          refine wl (eM 5 (v := .bool true) hF1 hM (by kernel_rfl) (yld_call (f := 33) (args := #[.int .i64 q]) hF1 (by kernel_rfl) (fun _ => by kernel_rfl) (fun w hM => rIn_yes q w (by omega))) fun a1 w hF1 hM => ?_)
                          refine sB 1 [(6, .bool false)] hF1 (by kernel_rfl) fun a1 hF1 => ?_
                          refine wpList_nil ?_
                          refine hK80 _ _ ?_
                          refine cF hF1 (by kernel_rfl) (by kernel_rfl) ?_
                          refine wp_skip ?_
                          refine hK79 _ _ ?_
                          refine wp_seq_k fun K81 hK81 => ?_
                          refine wp_region_lit ?_
                          refine sB 3 [(7, .int .i64 q), (2, .int .i64 q), (3, .bool true)] hF1 (by kernel_rfl) fun a1 hF1 => ?_
                          refine wpList_nil ?_
                          refine hK81 _ _ ?_
                          refine wp_ret ?_
                          refine hR77 _ _ ?_
                          refine ret_of hF1 hM (.tmp rfl (.tmp rfl (.nil))) ⟨_, rfl, ?_⟩
                          intro a hF
                          refine sB 4 [(85, .int .i64 q), (86, .bool true), (6, .int .i64 q), (7, .bool true)] hF (by kernel_rfl) fun a hF => ?_
                          refine wpList_nil ?_
                          refine hK76 _ _ ?_
                          refine wp_ret ?_
                          refine hR0 _ _ ?_
                          refine ret_of hF hM (.tmp rfl (.tmp rfl (.nil))) ?_
                          have hk0 : kb = 0 := by omega
                          rw [hk0] at hA0
                          have hint := hA0.done
                          rw [haN, hbN] at hint
                          have hmd : mdB xa xb xc = true ∧ mdV xa xb xc = q := md_yes (by unfold inR; omega) (fl_pos (q := q) (r := r) (mul_sign_pos (by omega)) hint (by omega) (by omega)) (by unfold inR; omega)
                          exact ⟨ret_eq (by rw [hmd.1, hmd.2]; rfl), hM.bel⟩
                        · skip
                          refine wp_region_lit ?_
                          refine sB 1 [(4, .int .i64 q)] hF1 (by kernel_rfl) fun a1 hF1 => ?_
                          refine wl (eM 5 (v := .bool false) hF1 hM (by kernel_rfl) (yld_call (f := 33) (args := #[.int .i64 q]) hF1 (by kernel_rfl) (fun _ => by kernel_rfl) (fun w hM => rIn_no q w (by omega))) fun a1 w hF1 hM => ?_)
                          refine sB 1 [(6, .bool true)] hF1 (by kernel_rfl) fun a1 hF1 => ?_
                          refine wpList_nil ?_
                          refine hK80 _ _ ?_
                          refine cT hF1 (by kernel_rfl) (by kernel_rfl) ?_
                          refine wp_seq_k fun K82 hK82 => ?_
                          refine wp_region_lit ?_
                          refine sB 2 [(2, .int .i64 0), (3, .bool false)] hF1 (by kernel_rfl) fun a1 hF1 => ?_
                          refine wpList_nil ?_
                          refine hK82 _ _ ?_
                          refine wp_ret ?_
                          refine hR77 _ _ ?_
                          refine ret_of hF1 hM (.tmp rfl (.tmp rfl (.nil))) ⟨_, rfl, ?_⟩
                          intro a hF
                          refine sB 4 [(85, .int .i64 0), (86, .bool false), (6, .int .i64 0), (7, .bool false)] hF (by kernel_rfl) fun a hF => ?_
                          refine wpList_nil ?_
                          refine hK76 _ _ ?_
                          refine wp_ret ?_
                          refine hR0 _ _ ?_
                          refine ret_of hF hM (.tmp rfl (.tmp rfl (.nil))) ?_
                          have hk0 : kb = 0 := by omega
                          rw [hk0] at hA0
                          have hint := hA0.done
                          rw [haN, hbN] at hint
                          have hmd : mdB xa xb xc = false ∧ mdV xa xb xc = 0 := md_out (v := q) (fl_pos (q := q) (r := r) (mul_sign_pos (by omega)) hint (by omega) (by omega)) (by unfold inR; omega)
                          exact ⟨ret_eq (by rw [hmd.1, hmd.2]; rfl), hM.bel⟩
            · skip
              refine wp_region_lit ?_
              refine sB 1 [(11, .int .i64 xa)] hF (by kernel_rfl) fun a hF => ?_
              refine wl (eM 12 (v := .bool true) hF hM (by kernel_rfl) (yld_call (f := 33) (args := #[.int .i64 xa]) hF (by kernel_rfl) (fun _ => by kernel_rfl) (fun w hM => rIn_yes xa w (by omega))) fun a w hF hM => ?_)
              refine sB 3 [(13, .bool false), (14, .bool false), (15, .int .i64 xb)] hF (by kernel_rfl) fun a hF => ?_
              refine wl (eM 16 (v := .bool true) hF hM (by kernel_rfl) (yld_call (f := 33) (args := #[.int .i64 xb]) hF (by kernel_rfl) (fun _ => by kernel_rfl) (fun w hM => rIn_yes xb w (by omega))) fun a w hF hM => ?_)
              refine sB 4 [(17, .bool false), (18, .bool false), (19, .bool false), (20, .int .i64 xc)] hF (by kernel_rfl) fun a hF => ?_
              refine wl (eM 21 (v := .bool false) hF hM (by kernel_rfl) (yld_call (f := 33) (args := #[.int .i64 xc]) hF (by kernel_rfl) (fun _ => by kernel_rfl) (fun w hM => rIn_no xc w (by omega))) fun a w hF hM => ?_)
              refine sB 6 [(22, .bool true), (23, .bool true), (24, .bool true), (25, undef), (26, undef), (27, .bool true)] hF (by kernel_rfl) fun a hF => ?_
              refine wpList_nil ?_
              refine hK3 _ _ ?_
              refine cT hF (by kernel_rfl) (by kernel_rfl) ?_
              refine wp_seq_k fun K83 hK83 => ?_
              refine wp_region_lit ?_
              refine sB 2 [(6, .int .i64 0), (7, .bool false)] hF (by kernel_rfl) fun a hF => ?_
              refine wpList_nil ?_
              refine hK83 _ _ ?_
              refine wp_ret ?_
              refine hR0 _ _ ?_
              refine ret_of hF hM (.tmp rfl (.tmp rfl (.nil))) ?_
              have hmd : mdB xa xb xc = false ∧ mdV xa xb xc = 0 := md_arg (by unfold inR; omega)
              exact ⟨ret_eq (by rw [hmd.1, hmd.2]; rfl), hM.bel⟩
          · skip
            refine wp_region_lit ?_
            refine sB 1 [(11, .int .i64 xa)] hF (by kernel_rfl) fun a hF => ?_
            refine wl (eM 12 (v := .bool true) hF hM (by kernel_rfl) (yld_call (f := 33) (args := #[.int .i64 xa]) hF (by kernel_rfl) (fun _ => by kernel_rfl) (fun w hM => rIn_yes xa w (by omega))) fun a w hF hM => ?_)
            refine sB 3 [(13, .bool false), (14, .bool false), (15, .int .i64 xb)] hF (by kernel_rfl) fun a hF => ?_
            refine wl (eM 16 (v := .bool true) hF hM (by kernel_rfl) (yld_call (f := 33) (args := #[.int .i64 xb]) hF (by kernel_rfl) (fun _ => by kernel_rfl) (fun w hM => rIn_yes xb w (by omega))) fun a w hF hM => ?_)
            refine sB 4 [(17, .bool false), (18, .bool false), (19, .bool false), (20, .int .i64 xc)] hF (by kernel_rfl) fun a hF => ?_
            refine wl (eM 21 (v := .bool false) hF hM (by kernel_rfl) (yld_call (f := 33) (args := #[.int .i64 xc]) hF (by kernel_rfl) (fun _ => by kernel_rfl) (fun w hM => rIn_no xc w (by omega))) fun a w hF hM => ?_)
            refine sB 6 [(22, .bool true), (23, .bool true), (24, .bool true), (25, undef), (26, undef), (27, .bool true)] hF (by kernel_rfl) fun a hF => ?_
            refine wpList_nil ?_
            refine hK3 _ _ ?_
            refine cT hF (by kernel_rfl) (by kernel_rfl) ?_
            refine wp_seq_k fun K84 hK84 => ?_
            refine wp_region_lit ?_
            refine sB 2 [(6, .int .i64 0), (7, .bool false)] hF (by kernel_rfl) fun a hF => ?_
            refine wpList_nil ?_
            refine hK84 _ _ ?_
            refine wp_ret ?_
            refine hR0 _ _ ?_
            refine ret_of hF hM (.tmp rfl (.tmp rfl (.nil))) ?_
            have hmd : mdB xa xb xc = false ∧ mdV xa xb xc = 0 := md_arg (by unfold inR; omega)
            exact ⟨ret_eq (by rw [hmd.1, hmd.2]; rfl), hM.bel⟩
        · skip
          refine wp_region_lit ?_
          refine sB 1 [(11, .int .i64 xa)] hF (by kernel_rfl) fun a hF => ?_
          refine wl (eM 12 (v := .bool true) hF hM (by kernel_rfl) (yld_call (f := 33) (args := #[.int .i64 xa]) hF (by kernel_rfl) (fun _ => by kernel_rfl) (fun w hM => rIn_yes xa w (by omega))) fun a w hF hM => ?_)
          refine sB 3 [(13, .bool false), (14, .bool false), (15, .int .i64 xb)] hF (by kernel_rfl) fun a hF => ?_
          refine wl (eM 16 (v := .bool false) hF hM (by kernel_rfl) (yld_call (f := 33) (args := #[.int .i64 xb]) hF (by kernel_rfl) (fun _ => by kernel_rfl) (fun w hM => rIn_no xb w (by omega))) fun a w hF hM => ?_)
          refine sB 11 [(17, .bool true), (18, .bool true), (19, .bool true), (20, undef), (21, undef), (22, undef), (23, .bool true), (24, .bool true), (25, undef), (26, undef), (27, .bool true)] hF (by kernel_rfl) fun a hF => ?_
          refine wpList_nil ?_
          refine hK3 _ _ ?_
          refine cT hF (by kernel_rfl) (by kernel_rfl) ?_
          refine wp_seq_k fun K85 hK85 => ?_
          refine wp_region_lit ?_
          refine sB 2 [(6, .int .i64 0), (7, .bool false)] hF (by kernel_rfl) fun a hF => ?_
          refine wpList_nil ?_
          refine hK85 _ _ ?_
          refine wp_ret ?_
          refine hR0 _ _ ?_
          refine ret_of hF hM (.tmp rfl (.tmp rfl (.nil))) ?_
          have hmd : mdB xa xb xc = false ∧ mdV xa xb xc = 0 := md_arg (by unfold inR; omega)
          exact ⟨ret_eq (by rw [hmd.1, hmd.2]; rfl), hM.bel⟩
      · skip
        refine wp_region_lit ?_
        refine sB 1 [(11, .int .i64 xa)] hF (by kernel_rfl) fun a hF => ?_
        refine wl (eM 12 (v := .bool true) hF hM (by kernel_rfl) (yld_call (f := 33) (args := #[.int .i64 xa]) hF (by kernel_rfl) (fun _ => by kernel_rfl) (fun w hM => rIn_yes xa w (by omega))) fun a w hF hM => ?_)
        refine sB 3 [(13, .bool false), (14, .bool false), (15, .int .i64 xb)] hF (by kernel_rfl) fun a hF => ?_
        refine wl (eM 16 (v := .bool false) hF hM (by kernel_rfl) (yld_call (f := 33) (args := #[.int .i64 xb]) hF (by kernel_rfl) (fun _ => by kernel_rfl) (fun w hM => rIn_no xb w (by omega))) fun a w hF hM => ?_)
        refine sB 11 [(17, .bool true), (18, .bool true), (19, .bool true), (20, undef), (21, undef), (22, undef), (23, .bool true), (24, .bool true), (25, undef), (26, undef), (27, .bool true)] hF (by kernel_rfl) fun a hF => ?_
        refine wpList_nil ?_
        refine hK3 _ _ ?_
        refine cT hF (by kernel_rfl) (by kernel_rfl) ?_
        refine wp_seq_k fun K86 hK86 => ?_
        refine wp_region_lit ?_
        refine sB 2 [(6, .int .i64 0), (7, .bool false)] hF (by kernel_rfl) fun a hF => ?_
        refine wpList_nil ?_
        refine hK86 _ _ ?_
        refine wp_ret ?_
        refine hR0 _ _ ?_
        refine ret_of hF hM (.tmp rfl (.tmp rfl (.nil))) ?_
        have hmd : mdB xa xb xc = false ∧ mdV xa xb xc = 0 := md_arg (by unfold inR; omega)
        exact ⟨ret_eq (by rw [hmd.1, hmd.2]; rfl), hM.bel⟩
    · skip
      refine wp_region_lit ?_
      refine sB 1 [(11, .int .i64 xa)] hF (by kernel_rfl) fun a hF => ?_
      refine wl (eM 12 (v := .bool false) hF hM (by kernel_rfl) (yld_call (f := 33) (args := #[.int .i64 xa]) hF (by kernel_rfl) (fun _ => by kernel_rfl) (fun w hM => rIn_no xa w (by omega))) fun a w hF hM => ?_)
      refine sB 15 [(13, .bool true), (14, .bool true), (15, undef), (16, undef), (17, undef), (18, .bool true), (19, .bool true), (20, undef), (21, undef), (22, undef), (23, .bool true), (24, .bool true), (25, undef), (26, undef), (27, .bool true)] hF (by kernel_rfl) fun a hF => ?_
      refine wpList_nil ?_
      refine hK3 _ _ ?_
      refine cT hF (by kernel_rfl) (by kernel_rfl) ?_
      refine wp_seq_k fun K87 hK87 => ?_
      refine wp_region_lit ?_
      refine sB 2 [(6, .int .i64 0), (7, .bool false)] hF (by kernel_rfl) fun a hF => ?_
      refine wpList_nil ?_
      refine hK87 _ _ ?_
      refine wp_ret ?_
      refine hR0 _ _ ?_
      refine ret_of hF hM (.tmp rfl (.tmp rfl (.nil))) ?_
      have hmd : mdB xa xb xc = false ∧ mdV xa xb xc = 0 := md_arg (by unfold inR; omega)
      exact ⟨ret_eq (by rw [hmd.1, hmd.2]; rfl), hM.bel⟩
  · skip
    refine wp_region_lit ?_
    refine sB 1 [(11, .int .i64 xa)] hF (by kernel_rfl) fun a hF => ?_
    refine wl (eM 12 (v := .bool false) hF hM (by kernel_rfl) (yld_call (f := 33) (args := #[.int .i64 xa]) hF (by kernel_rfl) (fun _ => by kernel_rfl) (fun w hM => rIn_no xa w (by omega))) fun a w hF hM => ?_)
    refine sB 15 [(13, .bool true), (14, .bool true), (15, undef), (16, undef), (17, undef), (18, .bool true), (19, .bool true), (20, undef), (21, undef), (22, undef), (23, .bool true), (24, .bool true), (25, undef), (26, undef), (27, .bool true)] hF (by kernel_rfl) fun a hF => ?_
    refine wpList_nil ?_
    refine hK3 _ _ ?_
    refine cT hF (by kernel_rfl) (by kernel_rfl) ?_
    refine wp_seq_k fun K88 hK88 => ?_
    refine wp_region_lit ?_
    refine sB 2 [(6, .int .i64 0), (7, .bool false)] hF (by kernel_rfl) fun a hF => ?_
    refine wpList_nil ?_
    refine hK88 _ _ ?_
    refine wp_ret ?_
    refine hR0 _ _ ?_
    refine ret_of hF hM (.tmp rfl (.tmp rfl (.nil))) ?_
    have hmd : mdB xa xb xc = false ∧ mdV xa xb xc = 0 := md_arg (by unfold inR; omega)
    exact ⟨ret_eq (by rw [hmd.1, hmd.2]; rfl), hM.bel⟩

theorem rMul_w (xa xb : Int) (w0 : World) :
    Calls Tryd.prog 31 #[.int .i64 xa, .int .i64 xb] w0 (Ret w0 (.tuple #[.int .i64 (mdV xa xb 1), .bool (mdB xa xb 1)])) := by
  refine enterK 11 Tryd.func31 rfl rfl rfl ?_
  intro a hF Q0 hR0 hN0
  have hM := Mem.start w0
  refine wp_seq_k fun K1 hK1 => ?_
  refine wp_region_lit ?_
  refine sB 2 [(4, .int .i64 0), (5, .bool false)] hF (by kernel_rfl) fun a hF => ?_
  refine wpList_nil ?_
  refine hK1 _ _ ?_
  refine wp_seq_k fun K2 hK2 => ?_
  refine wp_region_lit ?_
  refine sB 2 [(6, .int .i64 xa), (7, .int .i64 xb)] hF (by kernel_rfl) fun a hF => ?_
  refine wl (eM 8 (v := .tuple #[.int .i64 (mdV xa xb 1), .bool (mdB xa xb 1)]) hF hM (by kernel_rfl) (yld_call (f := 20) (args := #[.int .i64 xa, .int .i64 xb, .int .i64 1]) hF (by kernel_rfl) (fun _ => by kernel_rfl) (fun w hM => rMulDiv_w xa xb 1 w)) fun a w hF hM => ?_)
  refine sB 4 [(9, .int .i64 (mdV xa xb 1)), (10, .bool (mdB xa xb 1)), (4, .int .i64 (mdV xa xb 1)), (5, .bool (mdB xa xb 1))] hF (by kernel_rfl) fun a hF => ?_
  refine wpList_nil ?_
  refine hK2 _ _ ?_
  refine wp_ret ?_
  refine hR0 _ _ ?_
  refine ret_of hF hM (.tmp rfl (.tmp rfl (.nil))) ?_
  exact ⟨rfl, hM.bel⟩

theorem rGcd_w (xa xb : Int) (w0 : World) :
    Calls Tryd.prog 22 #[.int .i64 xa, .int .i64 xb] w0 (Ret w0 (.int .i64 (gcV xa xb))) := by
  obtain ⟨aN, haN⟩ : ∃ m : Nat, m = xa.natAbs := ⟨_, rfl⟩
  obtain ⟨bN, hbN⟩ : ∃ m : Nat, m = xb.natAbs := ⟨_, rfl⟩
  refine enterK 24 Tryd.func22 rfl rfl rfl ?_
  intro a hF Q0 hR0 hN0
  have hM := Mem.start w0
  refine wp_seq_k fun K1 hK1 => ?_
  refine wp_region_lit ?_
  refine sB 1 [(4, .int .i64 0)] hF (by kernel_rfl) fun a hF => ?_
  refine wpList_nil ?_
  refine hK1 _ _ ?_
  refine wp_seq_k fun K2 hK2 => ?_
  refine wp_seq_k fun K3 hK3 => ?_
  by_cases hz1 : -1125899906842624 ≤ xa
  · skip
    by_cases hz2 : xa ≤ 1125899906842624
    · skip
      by_cases hz3 : -1125899906842624 ≤ xb
      · skip
        by_cases hz4 : xb ≤ 1125899906842624
        · skip
          refine wp_region_lit ?_
          refine sB 1 [(5, .int .i64 xa)] hF (by kernel_rfl) fun a hF => ?_
          refine wl (eM 6 (v := .bool true) hF hM (by kernel_rfl) (yld_call (f := 33) (args := #[.int .i64 xa]) hF (by kernel_rfl) (fun _ => by kernel_rfl) (fun w hM => rIn_yes xa w (by omega))) fun a w hF hM => ?_)
          refine sB 3 [(7, .bool false), (8, .bool false), (9, .int .i64 xb)] hF (by kernel_rfl) fun a hF => ?_
          refine wl (eM 10 (v := .bool true) hF hM (by kernel_rfl) (yld_call (f := 33) (args := #[.int .i64 xb]) hF (by kernel_rfl) (fun _ => by kernel_rfl) (fun w hM => rIn_yes xb w (by omega))) fun a w hF hM => ?_)
          refine sB 2 [(11, .bool false), (12, .bool false)] hF (by kernel_rfl) fun a hF => ?_
          refine wpList_nil ?_
          refine hK3 _ _ ?_
          refine cF hF (by kernel_rfl) (by kernel_rfl) ?_
          refine wp_skip ?_
          refine hK2 _ _ ?_
          refine wp_seq_k fun K4 hK4 => ?_
          refine wp_region_lit ?_
          refine sB 1 [(13, .int .i64 xa)] hF (by kernel_rfl) fun a hF => ?_
          refine wl (eM 14 (v := .int .i64 (aN : Int)) hF hM (by kernel_rfl) (yld_call (f := 39) (args := #[.int .i64 xa]) hF (by kernel_rfl) (fun _ => by kernel_rfl) (fun w hM => by rw [haN]; exact rAbs_w xa w (by omega))) fun a w hF hM => ?_)
          have b_aN : aN ≤ 1125899906842624 := by omega
          refine sB 1 [(15, .int .i64 xb)] hF (by kernel_rfl) fun a hF => ?_
          refine wl (eM 16 (v := .int .i64 (bN : Int)) hF hM (by kernel_rfl) (yld_call (f := 39) (args := #[.int .i64 xb]) hF (by kernel_rfl) (fun _ => by kernel_rfl) (fun w hM => by rw [hbN]; exact rAbs_w xb w (by omega))) fun a w hF hM => ?_)
          have b_bN : bN ≤ 1125899906842624 := by omega
          refine sB 2 [(0, .int .i64 (aN : Int)), (1, .int .i64 (bN : Int))] hF (by kernel_rfl) fun a hF => ?_
          refine wpList_nil ?_
          refine hK4 _ _ ?_
          refine wp_seq_k fun K5 hK5 => ?_
          refine wp_block ?_
          refine wp_loop_k (G := Nat × Nat) (fun gg a w => Fr 24 [(0, some (.int .i64 (gg.1 : Int))), (1, some (.int .i64 (gg.2 : Int))), (4, some (.int .i64 0))] a ∧ Mem w0.heap.size w0 [] w ∧ (Nat.gcd gg.1 gg.2 = Nat.gcd aN bN) ∧ ((gg.1 : Int) ≤ 1125899906842624) ∧ ((gg.2 : Int) ≤ 1125899906842624)) (fun gg => gg.2) (aN, bN) ?_ ?_
          · refine ⟨((((Fr.nil hF).c hF (i := 4) rfl rfl).c hF (i := 1) rfl rfl).c hF (i := 0) rfl rfl), (hM.sub Sub.nil), (show Nat.gcd aN bN = Nat.gcd aN bN from by rfl), (show (aN : Int) ≤ 1125899906842624 from by omega), (show (bN : Int) ≤ 1125899906842624 from by omega)⟩
          · intro gg a w hI
            intro K6 hK6
            obtain ⟨x, y⟩ := gg
            try dsimp only at hI hK6
            obtain ⟨hF, hM, hz5, hz6, hz7⟩ := hI
            have hG : Nat.gcd x y = Nat.gcd aN bN := by assumption
            refine wp_seq_k fun K7 hK7 => ?_
            refine wp_seq_k fun K8 hK8 => ?_
            refine wp_region_lit ?_
            refine sB 2 [(17, .int .i64 (y : Int)), (18, .bool (decide (0 < (y : Int))))] hF (by kernel_rfl) fun a hF => ?_
            refine wpList_nil ?_
            refine hK8 _ _ ?_
            by_cases hz8 : 0 < (y : Int)
            · skip
              replace hF := hF.c hF (i := 18) (v := .bool true) rfl (bT hz8)
              refine cT hF (by kernel_rfl) (by kernel_rfl) ?_
              refine wp_skip ?_
              refine hK7 _ _ ?_
              refine wp_block ?_
              refine rQ hM (by kernel_rfl) (by kernel_rfl) ?_
              refine eQ 19 (v0 := .int .i64 (y : Int)) (v := .int .i64 (y : Int)) hF (by kernel_rfl) (fun _ => by kernel_rfl) rfl fun a hF => ?_
              refine eQ 20 (v0 := .int .i64 (x : Int)) (v := .int .i64 (x : Int)) hF (by kernel_rfl) (fun _ => by kernel_rfl) rfl fun a hF => ?_
              refine eQ 21 (v0 := .int .i64 (y : Int)) (v := .int .i64 (y : Int)) hF (by kernel_rfl) (fun _ => by kernel_rfl) rfl fun a hF => ?_
              refine eQ2 22 (v := .int .i64 ((x : Int) % (y : Int))) hF (by kernel_rfl) (yld_rem (x : Int) (y : Int) hF rfl (by kernel_rfl) (by kernel_rfl) (by kernel_rfl) (by omega) (Int.tmod_eq_emod_of_nonneg (by omega))) fun a hF => ?_
              have := emod_bd (p := (x : Int)) (q := (y : Int)) (by omega) (by omega)
              refine eQ 0 (v0 := .int .i64 (y : Int)) (v := .int .i64 (y : Int)) hF (by kernel_rfl) (fun _ => by kernel_rfl) rfl fun a hF => ?_
              refine eQ 1 (v0 := .int .i64 ((x : Int) % (y : Int))) (v := .int .i64 ((x : Int) % (y : Int))) hF (by kernel_rfl) (fun _ => by kernel_rfl) rfl fun a hF => ?_
              refine wpQuiet_nil ?_
              intro w hM
              obtain ⟨z, hz⟩ : ∃ z : Nat, z = x % y := ⟨_, rfl⟩
              have hzc : (z : Int) = (x : Int) % (y : Int) := by rw [hz]; rfl
              have hzl := Nat.mod_lt x (show y > 0 by omega)
              rw [← hz] at hzl
              refine hK6 _ _ ⟨(y, z), ⟨((((Fr.nil hF).c hF (i := 4) rfl rfl).c hF (i := 1) rfl (vi (show ((x : Int) % (y : Int) : Int) = (z : Int) from by omega))).c hF (i := 0) rfl rfl), (hM.sub Sub.nil), (show Nat.gcd y z = Nat.gcd aN bN from by rw [hz, gcd_step]; assumption), (show (y : Int) ≤ 1125899906842624 from by omega), (show (z : Int) ≤ 1125899906842624 from by omega)⟩, (show z < y from by omega)⟩
            · skip
              replace hF := hF.c hF (i := 18) (v := .bool false) rfl (bF hz8)
              refine cF hF (by kernel_rfl) (by kernel_rfl) ?_
              refine wp_exit ?_
              refine hK5 _ _ ?_
              refine wp_seq_k fun K9 hK9 => ?_
              refine wp_region_lit ?_
              refine sB 2 [(23, .int .i64 (x : Int)), (4, .int .i64 (x : Int))] hF (by kernel_rfl) fun a hF => ?_
              refine wpList_nil ?_
              refine hK9 _ _ ?_
              refine wp_ret ?_
              refine hR0 _ _ ?_
              refine ret_of hF hM (.tmp rfl (.nil)) ?_
              have hy0 : y = 0 := by omega
              rw [hy0, Nat.gcd_zero_right] at hG
              exact ⟨ret_int (by rw [gcV_yes (by unfold inR; omega), ← haN, ← hbN, ← hG]), hM.bel⟩
        · skip
          refine wp_region_lit ?_
          refine sB 1 [(5, .int .i64 xa)] hF (by kernel_rfl) fun a hF => ?_
          refine wl (eM 6 (v := .bool true) hF hM (by kernel_rfl) (yld_call (f := 33) (args := #[.int .i64 xa]) hF (by kernel_rfl) (fun _ => by kernel_rfl) (fun w hM => rIn_yes xa w (by omega))) fun a w hF hM => ?_)
          refine sB 3 [(7, .bool false), (8, .bool false), (9, .int .i64 xb)] hF (by kernel_rfl) fun a hF => ?_
          refine wl (eM 10 (v := .bool false) hF hM (by kernel_rfl) (yld_call (f := 33) (args := #[.int .i64 xb]) hF (by kernel_rfl) (fun _ => by kernel_rfl) (fun w hM => rIn_no xb w (by omega))) fun a w hF hM => ?_)
          refine sB 2 [(11, .bool true), (12, .bool true)] hF (by kernel_rfl) fun a hF => ?_
          refine wpList_nil ?_
          refine hK3 _ _ ?_
          refine cT hF (by kernel_rfl) (by kernel_rfl) ?_
          refine wp_seq_k fun K10 hK10 => ?_
          refine wp_region_lit ?_
          refine sB 1 [(4, .int .i64 0)] hF (by kernel_rfl) fun a hF => ?_
          refine wpList_nil ?_
          refine hK10 _ _ ?_
          refine wp_ret ?_
          refine hR0 _ _ ?_
          refine ret_of hF hM (.tmp rfl (.nil)) ?_
          exact ⟨ret_int (gcV_no (by unfold inR; omega)).symm, hM.bel⟩
      · skip
        refine wp_region_lit ?_
        refine sB 1 [(5, .int .i64 xa)] hF (by kernel_rfl) fun a hF => ?_
        refine wl (eM 6 (v := .bool true) hF hM (by kernel_rfl) (yld_call (f := 33) (args := #[.int .i64 xa]) hF (by kernel_rfl) (fun _ => by kernel_rfl) (fun w hM => rIn_yes xa w (by omega))) fun a w hF hM => ?_)
        refine sB 3 [(7, .bool false), (8, .bool false), (9, .int .i64 xb)] hF (by kernel_rfl) fun a hF => ?_
        refine wl (eM 10 (v := .bool false) hF hM (by kernel_rfl) (yld_call (f := 33) (args := #[.int .i64 xb]) hF (by kernel_rfl) (fun _ => by kernel_rfl) (fun w hM => rIn_no xb w (by omega))) fun a w hF hM => ?_)
        refine sB 2 [(11, .bool true), (12, .bool true)] hF (by kernel_rfl) fun a hF => ?_
        refine wpList_nil ?_
        refine hK3 _ _ ?_
        refine cT hF (by kernel_rfl) (by kernel_rfl) ?_
        refine wp_seq_k fun K11 hK11 => ?_
        refine wp_region_lit ?_
        refine sB 1 [(4, .int .i64 0)] hF (by kernel_rfl) fun a hF => ?_
        refine wpList_nil ?_
        refine hK11 _ _ ?_
        refine wp_ret ?_
        refine hR0 _ _ ?_
        refine ret_of hF hM (.tmp rfl (.nil)) ?_
        exact ⟨ret_int (gcV_no (by unfold inR; omega)).symm, hM.bel⟩
    · skip
      refine wp_region_lit ?_
      refine sB 1 [(5, .int .i64 xa)] hF (by kernel_rfl) fun a hF => ?_
      refine wl (eM 6 (v := .bool false) hF hM (by kernel_rfl) (yld_call (f := 33) (args := #[.int .i64 xa]) hF (by kernel_rfl) (fun _ => by kernel_rfl) (fun w hM => rIn_no xa w (by omega))) fun a w hF hM => ?_)
      refine sB 6 [(7, .bool true), (8, .bool true), (9, undef), (10, undef), (11, undef), (12, .bool true)] hF (by kernel_rfl) fun a hF => ?_
      refine wpList_nil ?_
      refine hK3 _ _ ?_
      refine cT hF (by kernel_rfl) (by kernel_rfl) ?_
      refine wp_seq_k fun K12 hK12 => ?_
      refine wp_region_lit ?_
      refine sB 1 [(4, .int .i64 0)] hF (by kernel_rfl) fun a hF => ?_
      refine wpList_nil ?_
      refine hK12 _ _ ?_
      refine wp_ret ?_
      refine hR0 _ _ ?_
      refine ret_of hF hM (.tmp rfl (.nil)) ?_
      exact ⟨ret_int (gcV_no (by unfold inR; omega)).symm, hM.bel⟩
  · skip
    refine wp_region_lit ?_
    refine sB 1 [(5, .int .i64 xa)] hF (by kernel_rfl) fun a hF => ?_
    refine wl (eM 6 (v := .bool false) hF hM (by kernel_rfl) (yld_call (f := 33) (args := #[.int .i64 xa]) hF (by kernel_rfl) (fun _ => by kernel_rfl) (fun w hM => rIn_no xa w (by omega))) fun a w hF hM => ?_)
    refine sB 6 [(7, .bool true), (8, .bool true), (9, undef), (10, undef), (11, undef), (12, .bool true)] hF (by kernel_rfl) fun a hF => ?_
    refine wpList_nil ?_
    refine hK3 _ _ ?_
    refine cT hF (by kernel_rfl) (by kernel_rfl) ?_
    refine wp_seq_k fun K13 hK13 => ?_
    refine wp_region_lit ?_
    refine sB 1 [(4, .int .i64 0)] hF (by kernel_rfl) fun a hF => ?_
    refine wpList_nil ?_
    refine hK13 _ _ ?_
    refine wp_ret ?_
    refine hR0 _ _ ?_
    refine ret_of hF hM (.tmp rfl (.nil)) ?_
    exact ⟨ret_int (gcV_no (by unfold inR; omega)).symm, hM.bel⟩

theorem pos_next {l : List Int} {k : Nat} (h : ∀ i, i < k → 1 ≤ nt l i ∧ nt l i ≤ 1125899906842624) (hk : 1 ≤ nt l k ∧ nt l k ≤ 1125899906842624) : ∀ i, i < k + 1 → 1 ≤ nt l i ∧ nt l i ≤ 1125899906842624 := fun j hj => by
  by_cases e : j = k
  · subst e; exact hk
  · exact h j (by omega)
theorem rLcm_w (A : Option Addr) (l : List Int) (c : Nat) (w0 : World) (hA : Ro w0 A (l.map (Value.int .i64))) (hm : l.length ≤ 1000000) :
    Calls Tryd.prog 24 #[.slice A l.length c] w0 (Ret w0 (.tuple #[.int .i64 (lcV l), .bool (lcB l)])) := by
  refine enterK 54 Tryd.func24 rfl rfl rfl ?_
  intro a hF Q0 hR0 hN0
  have hM := Mem.start w0
  replace hM := hM.addOld 1 hA (Nat.le_refl _)
  refine wp_seq_k fun K1 hK1 => ?_
  refine wp_region_lit ?_
  refine sB 2 [(2, .int .i64 0), (3, .bool false)] hF (by kernel_rfl) fun a hF => ?_
  refine wpList_nil ?_
  refine hK1 _ _ ?_
  refine wp_seq_k fun K2 hK2 => ?_
  refine wp_region_lit ?_
  refine sB 1 [(4, .int .i64 1)] hF (by kernel_rfl) fun a hF => ?_
  refine wpList_nil ?_
  refine hK2 _ _ ?_
  refine wp_seq_k fun K3 hK3 => ?_
  refine wp_seq_k fun K4 hK4 => ?_
  refine wp_region_lit ?_
  refine sB 1 [(5, .int .i64 0)] hF (by kernel_rfl) fun a hF => ?_
  refine wpList_nil ?_
  refine hK4 _ _ ?_
  refine wp_block ?_
  refine wp_loop_k (G := Nat) (fun gg a w => Fr 54 [(5, some (.int .i64 (gg : Int))), (0, some (.slice A l.length c)), (4, some (.int .i64 1))] a ∧ Mem w0.heap.size w0 [(1, some (.ro A (l.map (Value.int .i64))))] w ∧ ((gg : Int) ≤ (l.length : Int)) ∧ (∀ i, i < gg → 1 ≤ nt l i ∧ nt l i ≤ 1125899906842624)) (fun gg => l.length - gg) (0) ?_ ?_
  · refine ⟨((((Fr.nil hF).c hF (i := 4) rfl rfl).c hF (i := 0) rfl rfl).c hF (i := 5) rfl (vi (show (0 : Int) = (0 : Int) from by omega))), (hM.sub (Sub.nil.c (k := 1) rfl rfl)), (show (0 : Int) ≤ (l.length : Int) from by omega), (show ∀ i, i < 0 → 1 ≤ nt l i ∧ nt l i ≤ 1125899906842624 from by exact fun i hi => by omega)⟩
  · intro gg a w hI
    intro K5 hK5
    obtain ⟨j, rfl⟩ : ∃ x, x = gg := ⟨_, rfl⟩
    try dsimp only at hI hK5
    obtain ⟨hF, hM, hz1, hz2⟩ := hI
    refine wp_seq_k fun K6 hK6 => ?_
    refine wp_seq_k fun K7 hK7 => ?_
    refine wp_region_lit ?_
    refine sB 4 [(9, .int .i64 (j : Int)), (10, .slice A l.length c), (11, .int .i64 (l.length : Int)), (12, .bool (decide ((j : Int) < (l.length : Int))))] hF (by kernel_rfl) fun a hF => ?_
    refine wpList_nil ?_
    refine hK7 _ _ ?_
    by_cases hz3 : (j : Int) < (l.length : Int)
    · skip
      replace hF := hF.c hF (i := 12) (v := .bool true) rfl (bT hz3)
      refine cT hF (by kernel_rfl) (by kernel_rfl) ?_
      refine wp_skip ?_
      refine hK6 _ _ ?_
      refine wp_seq_k fun K8 hK8 => ?_
      refine wp_block ?_
      refine wp_seq_k fun K9 hK9 => ?_
      by_cases hz4 : -1125899906842624 ≤ nt l j
      · skip
        by_cases hz5 : nt l j ≤ 1125899906842624
        · skip
          refine wp_region_lit ?_
          refine sB 2 [(15, .slice A l.length c), (16, .int .i64 (j : Int))] hF (by kernel_rfl) fun a hF => ?_
          refine wl (eM 17 (v := .pointer (some (ea A (j)))) hF hM (by kernel_rfl) (yld_ix (kd := .i64) (e := 3) (len := l.length) (cap := c) (i := (j : Int)) (size := 1) (A := A) hF rfl (by kernel_rfl) (by kernel_rfl) (by kernel_rfl) (by kernel_rfl) (by kernel_rfl) (roK 1 rfl) (by omega) (by omega) (by rw [List.length_map]; omega)) fun a w hF hM => ?_)
          refine wl (eM 18 (v := .int .i64 (nt l j)) hF hM (by kernel_rfl) (yld_ro1 (A := A) (j := j) hF rfl (by kernel_rfl) (by kernel_rfl) (roK 1 rfl) (by kernel_rfl) (nt_at (by omega))) fun a w hF hM => ?_)
          refine wl (eM 19 (v := .bool true) hF hM (by kernel_rfl) (yld_call (f := 33) (args := #[.int .i64 (nt l j)]) hF (by kernel_rfl) (fun _ => by kernel_rfl) (fun w hM => rIn_yes (nt l j) w (by omega))) fun a w hF hM => ?_)
          refine sB 4 [(20, .bool false), (21, .bool false), (22, .slice A l.length c), (23, .int .i64 (j : Int))] hF (by kernel_rfl) fun a hF => ?_
          refine wl (eM 24 (v := .pointer (some (ea A (j)))) hF hM (by kernel_rfl) (yld_ix (kd := .i64) (e := 3) (len := l.length) (cap := c) (i := (j : Int)) (size := 1) (A := A) hF rfl (by kernel_rfl) (by kernel_rfl) (by kernel_rfl) (by kernel_rfl) (by kernel_rfl) (roK 1 rfl) (by omega) (by omega) (by rw [List.length_map]; omega)) fun a w hF hM => ?_)
          refine wl (eM 25 (v := .int .i64 (nt l j)) hF hM (by kernel_rfl) (yld_ro1 (A := A) (j := j) hF rfl (by kernel_rfl) (by kernel_rfl) (roK 1 rfl) (by kernel_rfl) (nt_at (by omega))) fun a w hF hM => ?_)
          refine sB 2 [(26, .bool (decide (nt l j < 1))), (27, .bool (decide (nt l j < 1)))] hF (by kernel_rfl) fun a hF => ?_
          refine wpList_nil ?_
          refine hK9 _ _ ?_
          by_cases hz6 : nt l j < 1
          · skip
            replace hF := hF.c hF (i := 26) (v := .bool true) rfl (bT hz6)
            replace hF := hF.c hF (i := 27) (v := .bool true) rfl (bT hz6)
            refine cT hF (by kernel_rfl) (by kernel_rfl) ?_
            refine wp_seq_k fun K10 hK10 => ?_
            refine wp_region_lit ?_
            refine sB 2 [(2, .int .i64 0), (3, .bool false)] hF (by kernel_rfl) fun a hF => ?_
            refine wpList_nil ?_
            refine hK10 _ _ ?_
            refine wp_ret ?_
            refine hR0 _ _ ?_
            refine ret_of hF hM (.tmp rfl (.tmp rfl (.nil))) ?_
            have hd := lc_none (lcF_bad l 1 j (by omega) (by omega))
            exact ⟨ret_eq (by rw [hd.1, hd.2]; rfl), hM.bel⟩
          · skip
            replace hF := hF.c hF (i := 26) (v := .bool false) rfl (bF hz6)
            replace hF := hF.c hF (i := 27) (v := .bool false) rfl (bF hz6)
            refine cF hF (by kernel_rfl) (by kernel_rfl) ?_
            refine wp_skip ?_
            refine hK8 _ _ ?_
            refine wp_region_lit ?_
            refine sB 1 [(13, .int .i64 (j : Int))] hF (by kernel_rfl) fun a hF => ?_
            refine wl (eP 14 (v0 := .int .i64 (IntKind.i64.wrap ((j : Int) + 1))) (v := .int .i64 ((j : Int) + 1)) hF (by kernel_rfl) (fun _ => by kernel_rfl) (wi (by omega)) fun a hF => ?_)
            refine sB 1 [(5, .int .i64 ((j : Int) + 1))] hF (by kernel_rfl) fun a hF => ?_
            refine wpList_nil ?_
            refine hK5 _ _ ⟨(j + 1), ⟨((((Fr.nil hF).c hF (i := 4) rfl rfl).c hF (i := 0) rfl rfl).c hF (i := 5) rfl (vi (show ((j : Int) + 1 : Int) = ((j + 1) : Int) from by omega))), (hM.sub (Sub.nil.c (k := 1) rfl rfl)), (show ((j + 1) : Int) ≤ (l.length : Int) from by omega), (show ∀ i, i < (j + 1) → 1 ≤ nt l i ∧ nt l i ≤ 1125899906842624 from by exact pos_next (by assumption) (by omega))⟩, (show l.length - (j + 1) < l.length - j from by omega)⟩
        · skip
          refine wp_region_lit ?_
          refine sB 2 [(15, .slice A l.length c), (16, .int .i64 (j : Int))] hF (by kernel_rfl) fun a hF => ?_
          refine wl (eM 17 (v := .pointer (some (ea A (j)))) hF hM (by kernel_rfl) (yld_ix (kd := .i64) (e := 3) (len := l.length) (cap := c) (i := (j : Int)) (size := 1) (A := A) hF rfl (by kernel_rfl) (by kernel_rfl) (by kernel_rfl) (by kernel_rfl) (by kernel_rfl) (roK 1 rfl) (by omega) (by omega) (by rw [List.length_map]; omega)) fun a w hF hM => ?_)
          refine wl (eM 18 (v := .int .i64 (nt l j)) hF hM (by kernel_rfl) (yld_ro1 (A := A) (j := j) hF rfl (by kernel_rfl) (by kernel_rfl) (roK 1 rfl) (by kernel_rfl) (nt_at (by omega))) fun a w hF hM => ?_)
          refine wl (eM 19 (v := .bool false) hF hM (by kernel_rfl) (yld_call (f := 33) (args := #[.int .i64 (nt l j)]) hF (by kernel_rfl) (fun _ => by kernel_rfl) (fun w hM => rIn_no (nt l j) w (by omega))) fun a w hF hM => ?_)
          refine sB 8 [(20, .bool true), (21, .bool true), (22, undef), (23, undef), (24, undef), (25, undef), (26, undef), (27, .bool true)] hF (by kernel_rfl) fun a hF => ?_
          refine wpList_nil ?_
          refine hK9 _ _ ?_
          refine cT hF (by kernel_rfl) (by kernel_rfl) ?_
          refine wp_seq_k fun K11 hK11 => ?_
          refine wp_region_lit ?_
          refine sB 2 [(2, .int .i64 0), (3, .bool false)] hF (by kernel_rfl) fun a hF => ?_
          refine wpList_nil ?_
          refine hK11 _ _ ?_
          refine wp_ret ?_
          refine hR0 _ _ ?_
          refine ret_of hF hM (.tmp rfl (.tmp rfl (.nil))) ?_
          have hd := lc_none (lcF_bad l 1 j (by omega) (by omega))
          exact ⟨ret_eq (by rw [hd.1, hd.2]; rfl), hM.bel⟩
      · skip
        refine wp_region_lit ?_
        refine sB 2 [(15, .slice A l.length c), (16, .int .i64 (j : Int))] hF (by kernel_rfl) fun a hF => ?_
        refine wl (eM 17 (v := .pointer (some (ea A (j)))) hF hM (by kernel_rfl) (yld_ix (kd := .i64) (e := 3) (len := l.length) (cap := c) (i := (j : Int)) (size := 1) (A := A) hF rfl (by kernel_rfl) (by kernel_rfl) (by kernel_rfl) (by kernel_rfl) (by kernel_rfl) (roK 1 rfl) (by omega) (by omega) (by rw [List.length_map]; omega)) fun a w hF hM => ?_)
        refine wl (eM 18 (v := .int .i64 (nt l j)) hF hM (by kernel_rfl) (yld_ro1 (A := A) (j := j) hF rfl (by kernel_rfl) (by kernel_rfl) (roK 1 rfl) (by kernel_rfl) (nt_at (by omega))) fun a w hF hM => ?_)
        refine wl (eM 19 (v := .bool false) hF hM (by kernel_rfl) (yld_call (f := 33) (args := #[.int .i64 (nt l j)]) hF (by kernel_rfl) (fun _ => by kernel_rfl) (fun w hM => rIn_no (nt l j) w (by omega))) fun a w hF hM => ?_)
        refine sB 8 [(20, .bool true), (21, .bool true), (22, undef), (23, undef), (24, undef), (25, undef), (26, undef), (27, .bool true)] hF (by kernel_rfl) fun a hF => ?_
        refine wpList_nil ?_
        refine hK9 _ _ ?_
        refine cT hF (by kernel_rfl) (by kernel_rfl) ?_
        refine wp_seq_k fun K12 hK12 => ?_
        refine wp_region_lit ?_
        refine sB 2 [(2, .int .i64 0), (3, .bool false)] hF (by kernel_rfl) fun a hF => ?_
        refine wpList_nil ?_
        refine hK12 _ _ ?_
        refine wp_ret ?_
        refine hR0 _ _ ?_
        refine ret_of hF hM (.tmp rfl (.tmp rfl (.nil))) ?_
        have hd := lc_none (lcF_bad l 1 j (by omega) (by omega))
        exact ⟨ret_eq (by rw [hd.1, hd.2]; rfl), hM.bel⟩
    · skip
      replace hF := hF.c hF (i := 12) (v := .bool false) rfl (bF hz3)
      refine cF hF (by kernel_rfl) (by kernel_rfl) ?_
      refine wp_exit ?_
      refine hK3 _ _ ?_
      refine wp_seq_k fun K13 hK13 => ?_
      refine wp_seq_k fun K14 hK14 => ?_
      have hall : ∀ i, i < l.length → 1 ≤ nt l i ∧ nt l i ≤ 1125899906842624 := fun i hi => (by assumption : ∀ i, i < j → 1 ≤ nt l i ∧ nt l i ≤ 1125899906842624) i (by omega)
      refine wp_region_lit ?_
      refine sB 1 [(6, .int .i64 0)] hF (by kernel_rfl) fun a hF => ?_
      refine wpList_nil ?_
      refine hK14 _ _ ?_
      refine wp_block ?_
      refine wp_loop_k (G := Nat × Int) (fun gg a w => Fr 54 [(4, some (.int .i64 gg.2)), (6, some (.int .i64 (gg.1 : Int))), (0, some (.slice A l.length c))] a ∧ Mem w0.heap.size w0 [(1, some (.ro A (l.map (Value.int .i64))))] w ∧ ((gg.1 : Int) ≤ (l.length : Int)) ∧ (LcAt l gg.1 gg.2)) (fun gg => l.length - gg.1) (0, 1) ?_ ?_
      · refine ⟨((((Fr.nil hF).c hF (i := 0) rfl rfl).c hF (i := 6) rfl (vi (show (0 : Int) = (0 : Int) from by omega))).c hF (i := 4) rfl rfl), (hM.sub (Sub.nil.c (k := 1) rfl rfl)), (show (0 : Int) ≤ (l.length : Int) from by omega), (show LcAt l 0 1 from by exact LcAt.zero l)⟩
      · intro gg a w hI
        intro K15 hK15
        obtain ⟨k, m⟩ := gg
        try dsimp only at hI hK15
        obtain ⟨hF, hM, hz7, hz8⟩ := hI
        have hL : LcAt l k m := by assumption
        have hL1 := hL.m1
        have hL2 := hL.m2
        refine wp_seq_k fun K16 hK16 => ?_
        refine wp_seq_k fun K17 hK17 => ?_
        refine wp_region_lit ?_
        refine sB 4 [(28, .int .i64 (k : Int)), (29, .slice A l.length c), (30, .int .i64 (l.length : Int)), (31, .bool (decide ((k : Int) < (l.length : Int))))] hF (by kernel_rfl) fun a hF => ?_
        refine wpList_nil ?_
        refine hK17 _ _ ?_
        by_cases hz9 : (k : Int) < (l.length : Int)
        · skip
          replace hF := hF.c hF (i := 31) (v := .bool true) rfl (bT hz9)
          refine cT hF (by kernel_rfl) (by kernel_rfl) ?_
          refine wp_skip ?_
          refine hK16 _ _ ?_
          refine wp_seq_k fun K18 hK18 => ?_
          refine wp_block ?_
          refine wp_seq_k fun K19 hK19 => ?_
          have hnk := hall k (by omega)
          have hgp := gcV_pos (m := m) (n := nt l k) ⟨by omega, by omega⟩ (by unfold inR; omega)
          refine rQ hM (by kernel_rfl) (by kernel_rfl) ?_
          refine eQ 35 (v0 := .int .i64 m) (v := .int .i64 m) hF (by kernel_rfl) (fun _ => by kernel_rfl) rfl fun a hF => ?_
          refine eQ 36 (v0 := .slice A l.length c) (v := .slice A l.length c) hF (by kernel_rfl) (fun _ => by kernel_rfl) rfl fun a hF => ?_
          refine eQ 37 (v0 := .int .i64 (k : Int)) (v := .int .i64 (k : Int)) hF (by kernel_rfl) (fun _ => by kernel_rfl) rfl fun a hF => ?_
          refine eQ2 38 (v := .pointer (some (ea A (k)))) hF (by kernel_rfl) (yld_ix (kd := .i64) (e := 3) (len := l.length) (cap := c) (i := (k : Int)) (size := 1) (A := A) hF rfl (by kernel_rfl) (by kernel_rfl) (by kernel_rfl) (by kernel_rfl) (by kernel_rfl) (roK 1 rfl) (by omega) (by omega) (by rw [List.length_map]; omega)) fun a hF => ?_
          refine eQ2 39 (v := .int .i64 (nt l k)) hF (by kernel_rfl) (yld_ro1 (A := A) (j := k) hF rfl (by kernel_rfl) (by kernel_rfl) (roK 1 rfl) (by kernel_rfl) (nt_at (by omega))) fun a hF => ?_
          refine eQ 40 (v0 := .int .i64 m) (v := .int .i64 m) hF (by kernel_rfl) (fun _ => by kernel_rfl) rfl fun a hF => ?_
          refine eQ 41 (v0 := .slice A l.length c) (v := .slice A l.length c) hF (by kernel_rfl) (fun _ => by kernel_rfl) rfl fun a hF => ?_
          refine eQ 42 (v0 := .int .i64 (k : Int)) (v := .int .i64 (k : Int)) hF (by kernel_rfl) (fun _ => by kernel_rfl) rfl fun a hF => ?_
          refine eQ2 43 (v := .pointer (some (ea A (k)))) hF (by kernel_rfl) (yld_ix (kd := .i64) (e := 3) (len := l.length) (cap := c) (i := (k : Int)) (size := 1) (A := A) hF rfl (by kernel_rfl) (by kernel_rfl) (by kernel_rfl) (by kernel_rfl) (by kernel_rfl) (roK 1 rfl) (by omega) (by omega) (by rw [List.length_map]; omega)) fun a hF => ?_
          refine eQ2 44 (v := .int .i64 (nt l k)) hF (by kernel_rfl) (yld_ro1 (A := A) (j := k) hF rfl (by kernel_rfl) (by kernel_rfl) (roK 1 rfl) (by kernel_rfl) (nt_at (by omega))) fun a hF => ?_
          refine eQ2 45 (v := .int .i64 (gcV m (nt l k))) hF (by kernel_rfl) (yld_call (f := 22) (args := #[.int .i64 m, .int .i64 (nt l k)]) hF (by kernel_rfl) (fun _ => by kernel_rfl) (fun w hM => rGcd_w m (nt l k) w)) fun a hF => ?_
          have := gcV_bd m (nt l k)
          refine eQ2 46 (v := .int .i64 (nt l k / gcV m (nt l k))) hF (by kernel_rfl) (yld_quo (nt l k) (gcV m (nt l k)) hF rfl (by kernel_rfl) (by kernel_rfl) (by kernel_rfl) (by omega) (qpos_i64 (by omega) (by omega) (by omega))) fun a hF => ?_
          have := ediv_le_self_of (p := nt l k) (q := gcV m (nt l k)) (by omega) (by omega)
          refine eQ2 47 (v := .tuple #[.int .i64 (mdV m (nt l k / gcV m (nt l k)) 1), .bool (mdB m (nt l k / gcV m (nt l k)) 1)]) hF (by kernel_rfl) (yld_call (f := 31) (args := #[.int .i64 m, .int .i64 (nt l k / gcV m (nt l k))]) hF (by kernel_rfl) (fun _ => by kernel_rfl) (fun w hM => rMul_w m (nt l k / gcV m (nt l k)) w)) fun a hF => ?_
          refine eQ 34 (v0 := .tuple #[.int .i64 (mdV m (nt l k / gcV m (nt l k)) 1), .bool (mdB m (nt l k / gcV m (nt l k)) 1)]) (v := .tuple #[.int .i64 (mdV m (nt l k / gcV m (nt l k)) 1), .bool (mdB m (nt l k / gcV m (nt l k)) 1)]) hF (by kernel_rfl) (fun _ => by kernel_rfl) rfl fun a hF => ?_
          refine eQ 48 (v0 := .int .i64 (mdV m (nt l k / gcV m (nt l k)) 1)) (v := .int .i64 (mdV m (nt l k / gcV m (nt l k)) 1)) hF (by kernel_rfl) (fun _ => by kernel_rfl) rfl fun a hF => ?_
          refine eQ 49 (v0 := .bool (mdB m (nt l k / gcV m (nt l k)) 1)) (v := .bool (mdB m (nt l k / gcV m (nt l k)) 1)) hF (by kernel_rfl) (fun _ => by kernel_rfl) rfl fun a hF => ?_
          refine eQ 7 (v0 := .int .i64 (mdV m (nt l k / gcV m (nt l k)) 1)) (v := .int .i64 (mdV m (nt l k / gcV m (nt l k)) 1)) hF (by kernel_rfl) (fun _ => by kernel_rfl) rfl fun a hF => ?_
          refine eQ 8 (v0 := .bool (mdB m (nt l k / gcV m (nt l k)) 1)) (v := .bool (mdB m (nt l k / gcV m (nt l k)) 1)) hF (by kernel_rfl) (fun _ => by kernel_rfl) rfl fun a hF => ?_
          refine wpQuiet_nil ?_
          intro w hM
          refine hK19 _ _ ?_
          refine wp_seq_k fun K20 hK20 => ?_
          refine wp_seq_k fun K21 hK21 => ?_
          cases hz10 : (mdB m (nt l k / gcV m (nt l k)) 1)
          · skip
            replace hF := hF.c hF (i := 8) (v := .bool false) rfl (congrArg Value.bool hz10)
            replace hF := hF.c hF (i := 49) (v := .bool false) rfl (congrArg Value.bool hz10)
            refine wp_region_lit ?_
            refine sB 2 [(50, .bool false), (51, .bool true)] hF (by kernel_rfl) fun a hF => ?_
            refine wpList_nil ?_
            refine hK21 _ _ ?_
            refine cT hF (by kernel_rfl) (by kernel_rfl) ?_
            refine wp_seq_k fun K22 hK22 => ?_
            refine wp_region_lit ?_
            refine sB 2 [(2, .int .i64 0), (3, .bool false)] hF (by kernel_rfl) fun a hF => ?_
            refine wpList_nil ?_
            refine hK22 _ _ ?_
            refine wp_ret ?_
            refine hR0 _ _ ?_
            refine ret_of hF hM (.tmp rfl (.tmp rfl (.nil))) ?_
            have hsw := md_swap (m := m) (n := nt l k) ⟨by omega, by omega⟩ ⟨by omega, by omega⟩
            have hd := lc_none (hL.bad (by omega) (by omega) (hsw.1.symm.trans hz10))
            exact ⟨ret_eq (by rw [hd.1, hd.2]; rfl), hM.bel⟩
          · skip
            replace hF := hF.c hF (i := 8) (v := .bool true) rfl (congrArg Value.bool hz10)
            replace hF := hF.c hF (i := 49) (v := .bool true) rfl (congrArg Value.bool hz10)
            refine wp_region_lit ?_
            refine sB 2 [(50, .bool true), (51, .bool false)] hF (by kernel_rfl) fun a hF => ?_
            refine wpList_nil ?_
            refine hK21 _ _ ?_
            refine cF hF (by kernel_rfl) (by kernel_rfl) ?_
            refine wp_skip ?_
            refine hK20 _ _ ?_
            refine wp_region_lit ?_
            refine sB 2 [(52, .int .i64 (mdV m (nt l k / gcV m (nt l k)) 1)), (4, .int .i64 (mdV m (nt l k / gcV m (nt l k)) 1))] hF (by kernel_rfl) fun a hF => ?_
            refine wpList_nil ?_
            refine hK18 _ _ ?_
            refine wp_region_lit ?_
            refine sB 1 [(32, .int .i64 (k : Int))] hF (by kernel_rfl) fun a hF => ?_
            refine wl (eP 33 (v0 := .int .i64 (IntKind.i64.wrap ((k : Int) + 1))) (v := .int .i64 ((k : Int) + 1)) hF (by kernel_rfl) (fun _ => by kernel_rfl) (wi (by omega)) fun a hF => ?_)
            refine sB 1 [(6, .int .i64 ((k : Int) + 1))] hF (by kernel_rfl) fun a hF => ?_
            refine wpList_nil ?_
            have hsw := md_swap (m := m) (n := nt l k) ⟨by omega, by omega⟩ ⟨by omega, by omega⟩
            have hnx := hL.next (by omega) (by omega) (hsw.1.symm.trans hz10)
            rw [← hsw.2] at hnx
            refine hK15 _ _ ⟨(k + 1, mdV m (nt l k / gcV m (nt l k)) 1), ⟨((((Fr.nil hF).c hF (i := 0) rfl rfl).c hF (i := 6) rfl (vi (show ((k : Int) + 1 : Int) = ((k + 1) : Int) from by omega))).c hF (i := 4) rfl rfl), (hM.sub (Sub.nil.c (k := 1) rfl rfl)), (show ((k + 1) : Int) ≤ (l.length : Int) from by omega), (show LcAt l (k + 1) (mdV m (nt l k / gcV m (nt l k)) 1) from by exact hnx)⟩, (show l.length - (k + 1) < l.length - k from by omega)⟩
        · skip
          replace hF := hF.c hF (i := 31) (v := .bool false) rfl (bF hz9)
          refine cF hF (by kernel_rfl) (by kernel_rfl) ?_
          refine wp_exit ?_
          refine hK13 _ _ ?_
          refine wp_seq_k fun K23 hK23 => ?_
          refine wp_region_lit ?_
          refine sB 3 [(53, .int .i64 m), (2, .int .i64 m), (3, .bool true)] hF (by kernel_rfl) fun a hF => ?_
          refine wpList_nil ?_
          refine hK23 _ _ ?_
          refine wp_ret ?_
          refine hR0 _ _ ?_
          refine ret_of hF hM (.tmp rfl (.tmp rfl (.nil))) ?_
          have hd := hL.done (by omega)
          exact ⟨ret_eq (by rw [hd.1, hd.2]; rfl), hM.bel⟩

end Go.Proofs.YtjfjcjbjdbjlgaaDoor
