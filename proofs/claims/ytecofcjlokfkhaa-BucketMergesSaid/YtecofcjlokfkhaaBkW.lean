/-
  Contracts of package bucket and its reference.
-/
import Derived.Test.YtecofcjlokfkhaaFitW
import Derived.Test.YtecofcjlokfkhaaNumC
import Derived.Test.YtecofcjlokfkhaaBkPlain
namespace Go.Proofs.Ytecofcjlokfkhaa
open Go.RowKit
set_option linter.unusedVariables false
set_option linter.unusedSimpArgs false

theorem right_yes (b r : Int) (w0 : World) (h : bkE b r = 0) :
    Calls Try.prog 32 #[.agg #[.int .i64 b, .int .i64 r]] w0 (Ret w0 (.bool true)) := by
  have h := bkE_ok h
  refine enterK 21 Try.func32 rfl rfl rfl ?_
  intro a hF Q0 hR0 hN0
  have hM := Mem.start w0
  refine wp_seq_k fun K1 hK1 => ?_
  refine wp_region_lit ?_
  refine wl (eN 1 1 (t := 23) (fun b => .pointer (some ⟨b, 0, none⟩)) #[.int .i64 b, .int .i64 r] hF hM (by kernel_rfl) (fun _ => by kernel_rfl) fun bb1 a w hF hM => ?_)
  refine sB 1 [(2, .bool false)] hF (by kernel_rfl) fun a hF => ?_
  refine wpList_nil ?_
  refine hK1 _ _ ?_
  refine wp_seq_k fun K2 hK2 => ?_
  refine wp_region_lit ?_
  refine sB 1 [(3, .pointer (some ⟨bb1, 0, none⟩))] hF (by kernel_rfl) fun a hF => ?_
  refine wl (eL 4 1 0 (v := .int .i64 b) hF hM (by kernel_rfl) rfl rfl (by kernel_rfl) (by kernel_rfl) fun a w hF hM => ?_)
  refine wl (eP 5 (v0 := .bool (decide (1 ≤ b))) (v := .bool true) hF (by kernel_rfl) (fun _ => by kernel_rfl) (bT (by omega)) fun a hF => ?_)
  refine sB 2 [(6, .bool true), (7, .pointer (some ⟨bb1, 0, none⟩))] hF (by kernel_rfl) fun a hF => ?_
  refine wl (eL 8 1 0 (v := .int .i64 b) hF hM (by kernel_rfl) rfl rfl (by kernel_rfl) (by kernel_rfl) fun a w hF hM => ?_)
  refine wl (eP 9 (v0 := .bool (decide (b ≤ 1048576))) (v := .bool true) hF (by kernel_rfl) (fun _ => by kernel_rfl) (bT (by omega)) fun a hF => ?_)
  refine sB 3 [(10, .bool true), (11, .bool true), (12, .pointer (some ⟨bb1, 1, none⟩))] hF (by kernel_rfl) fun a hF => ?_
  refine wl (eL 13 1 1 (v := .int .i64 r) hF hM (by kernel_rfl) rfl rfl (by kernel_rfl) (by kernel_rfl) fun a w hF hM => ?_)
  refine wl (eP 14 (v0 := .bool (decide (1 ≤ r))) (v := .bool true) hF (by kernel_rfl) (fun _ => by kernel_rfl) (bT (by omega)) fun a hF => ?_)
  refine sB 3 [(15, .bool true), (16, .bool true), (17, .pointer (some ⟨bb1, 1, none⟩))] hF (by kernel_rfl) fun a hF => ?_
  refine wl (eL 18 1 1 (v := .int .i64 r) hF hM (by kernel_rfl) rfl rfl (by kernel_rfl) (by kernel_rfl) fun a w hF hM => ?_)
  refine wl (eP 19 (v0 := .bool (decide (r ≤ 2097152))) (v := .bool true) hF (by kernel_rfl) (fun _ => by kernel_rfl) (bT (by omega)) fun a hF => ?_)
  refine sB 2 [(20, .bool true), (2, .bool true)] hF (by kernel_rfl) fun a hF => ?_
  refine wpList_nil ?_
  refine hK2 _ _ ?_
  refine wp_ret ?_
  refine hR0 _ _ ?_
  refine ret_of hF hM (.tmp rfl (.nil)) ?_
  exact ⟨rfl, hM.bel⟩

theorem right_no (b r : Int) (w0 : World) (h : ¬ bkE b r = 0) :
    Calls Try.prog 32 #[.agg #[.int .i64 b, .int .i64 r]] w0 (Ret w0 (.bool false)) := by
  refine enterK 21 Try.func32 rfl rfl rfl ?_
  intro a hF Q0 hR0 hN0
  have hM := Mem.start w0
  refine wp_seq_k fun K1 hK1 => ?_
  refine wp_region_lit ?_
  refine wl (eN 1 1 (t := 23) (fun b => .pointer (some ⟨b, 0, none⟩)) #[.int .i64 b, .int .i64 r] hF hM (by kernel_rfl) (fun _ => by kernel_rfl) fun bb1 a w hF hM => ?_)
  refine sB 1 [(2, .bool false)] hF (by kernel_rfl) fun a hF => ?_
  refine wpList_nil ?_
  refine hK1 _ _ ?_
  refine wp_seq_k fun K2 hK2 => ?_
  by_cases hz1 : 1 ≤ b
  · skip
    by_cases hz2 : b ≤ 1048576
    · skip
      by_cases hz3 : 1 ≤ r
      · skip
        refine wp_region_lit ?_
        refine sB 1 [(3, .pointer (some ⟨bb1, 0, none⟩))] hF (by kernel_rfl) fun a hF => ?_
        refine wl (eL 4 1 0 (v := .int .i64 b) hF hM (by kernel_rfl) rfl rfl (by kernel_rfl) (by kernel_rfl) fun a w hF hM => ?_)
        refine wl (eP 5 (v0 := .bool (decide (1 ≤ b))) (v := .bool true) hF (by kernel_rfl) (fun _ => by kernel_rfl) (bT hz1) fun a hF => ?_)
        refine sB 2 [(6, .bool true), (7, .pointer (some ⟨bb1, 0, none⟩))] hF (by kernel_rfl) fun a hF => ?_
        refine wl (eL 8 1 0 (v := .int .i64 b) hF hM (by kernel_rfl) rfl rfl (by kernel_rfl) (by kernel_rfl) fun a w hF hM => ?_)
        refine wl (eP 9 (v0 := .bool (decide (b ≤ 1048576))) (v := .bool true) hF (by kernel_rfl) (fun _ => by kernel_rfl) (bT hz2) fun a hF => ?_)
        refine sB 3 [(10, .bool true), (11, .bool true), (12, .pointer (some ⟨bb1, 1, none⟩))] hF (by kernel_rfl) fun a hF => ?_
        refine wl (eL 13 1 1 (v := .int .i64 r) hF hM (by kernel_rfl) rfl rfl (by kernel_rfl) (by kernel_rfl) fun a w hF hM => ?_)
        refine wl (eP 14 (v0 := .bool (decide (1 ≤ r))) (v := .bool true) hF (by kernel_rfl) (fun _ => by kernel_rfl) (bT hz3) fun a hF => ?_)
        refine sB 3 [(15, .bool true), (16, .bool true), (17, .pointer (some ⟨bb1, 1, none⟩))] hF (by kernel_rfl) fun a hF => ?_
        refine wl (eL 18 1 1 (v := .int .i64 r) hF hM (by kernel_rfl) rfl rfl (by kernel_rfl) (by kernel_rfl) fun a w hF hM => ?_)
        refine sB 3 [(19, .bool (decide (r ≤ 2097152))), (20, .bool (decide (r ≤ 2097152))), (2, .bool (decide (r ≤ 2097152)))] hF (by kernel_rfl) fun a hF => ?_
        refine wpList_nil ?_
        refine hK2 _ _ ?_
        refine wp_ret ?_
        refine hR0 _ _ ?_
        refine ret_of hF hM (.tmp rfl (.nil)) ?_
        exact ⟨ret_bool (decide_eq_false (by unfold bkE at h; omega)), hM.bel⟩
      · skip
        refine wp_region_lit ?_
        refine sB 1 [(3, .pointer (some ⟨bb1, 0, none⟩))] hF (by kernel_rfl) fun a hF => ?_
        refine wl (eL 4 1 0 (v := .int .i64 b) hF hM (by kernel_rfl) rfl rfl (by kernel_rfl) (by kernel_rfl) fun a w hF hM => ?_)
        refine wl (eP 5 (v0 := .bool (decide (1 ≤ b))) (v := .bool true) hF (by kernel_rfl) (fun _ => by kernel_rfl) (bT hz1) fun a hF => ?_)
        refine sB 2 [(6, .bool true), (7, .pointer (some ⟨bb1, 0, none⟩))] hF (by kernel_rfl) fun a hF => ?_
        refine wl (eL 8 1 0 (v := .int .i64 b) hF hM (by kernel_rfl) rfl rfl (by kernel_rfl) (by kernel_rfl) fun a w hF hM => ?_)
        refine wl (eP 9 (v0 := .bool (decide (b ≤ 1048576))) (v := .bool true) hF (by kernel_rfl) (fun _ => by kernel_rfl) (bT hz2) fun a hF => ?_)
        refine sB 3 [(10, .bool true), (11, .bool true), (12, .pointer (some ⟨bb1, 1, none⟩))] hF (by kernel_rfl) fun a hF => ?_
        refine wl (eL 13 1 1 (v := .int .i64 r) hF hM (by kernel_rfl) rfl rfl (by kernel_rfl) (by kernel_rfl) fun a w hF hM => ?_)
        refine wl (eP 14 (v0 := .bool (decide (1 ≤ r))) (v := .bool false) hF (by kernel_rfl) (fun _ => by kernel_rfl) (bF hz3) fun a hF => ?_)
        refine sB 7 [(15, .bool false), (16, .bool false), (17, undef), (18, undef), (19, undef), (20, .bool false), (2, .bool false)] hF (by kernel_rfl) fun a hF => ?_
        refine wpList_nil ?_
        refine hK2 _ _ ?_
        refine wp_ret ?_
        refine hR0 _ _ ?_
        refine ret_of hF hM (.tmp rfl (.nil)) ?_
        exact ⟨rfl, hM.bel⟩
    · skip
      refine wp_region_lit ?_
      refine sB 1 [(3, .pointer (some ⟨bb1, 0, none⟩))] hF (by kernel_rfl) fun a hF => ?_
      refine wl (eL 4 1 0 (v := .int .i64 b) hF hM (by kernel_rfl) rfl rfl (by kernel_rfl) (by kernel_rfl) fun a w hF hM => ?_)
      refine wl (eP 5 (v0 := .bool (decide (1 ≤ b))) (v := .bool true) hF (by kernel_rfl) (fun _ => by kernel_rfl) (bT hz1) fun a hF => ?_)
      refine sB 2 [(6, .bool true), (7, .pointer (some ⟨bb1, 0, none⟩))] hF (by kernel_rfl) fun a hF => ?_
      refine wl (eL 8 1 0 (v := .int .i64 b) hF hM (by kernel_rfl) rfl rfl (by kernel_rfl) (by kernel_rfl) fun a w hF hM => ?_)
      refine wl (eP 9 (v0 := .bool (decide (b ≤ 1048576))) (v := .bool false) hF (by kernel_rfl) (fun _ => by kernel_rfl) (bF hz2) fun a hF => ?_)
      refine sB 12 [(10, .bool false), (11, .bool false), (12, undef), (13, undef), (14, undef), (15, .bool false), (16, .bool false), (17, undef), (18, undef), (19, undef), (20, .bool false), (2, .bool false)] hF (by kernel_rfl) fun a hF => ?_
      refine wpList_nil ?_
      refine hK2 _ _ ?_
      refine wp_ret ?_
      refine hR0 _ _ ?_
      refine ret_of hF hM (.tmp rfl (.nil)) ?_
      exact ⟨rfl, hM.bel⟩
  · skip
    refine wp_region_lit ?_
    refine sB 1 [(3, .pointer (some ⟨bb1, 0, none⟩))] hF (by kernel_rfl) fun a hF => ?_
    refine wl (eL 4 1 0 (v := .int .i64 b) hF hM (by kernel_rfl) rfl rfl (by kernel_rfl) (by kernel_rfl) fun a w hF hM => ?_)
    refine wl (eP 5 (v0 := .bool (decide (1 ≤ b))) (v := .bool false) hF (by kernel_rfl) (fun _ => by kernel_rfl) (bF hz1) fun a hF => ?_)
    refine sB 16 [(6, .bool false), (7, undef), (8, undef), (9, undef), (10, .bool false), (11, .bool false), (12, undef), (13, undef), (14, undef), (15, .bool false), (16, .bool false), (17, undef), (18, undef), (19, undef), (20, .bool false), (2, .bool false)] hF (by kernel_rfl) fun a hF => ?_
    refine wpList_nil ?_
    refine hK2 _ _ ?_
    refine wp_ret ?_
    refine hR0 _ _ ?_
    refine ret_of hF hM (.tmp rfl (.nil)) ?_
    exact ⟨rfl, hM.bel⟩

theorem bWithin_w (b r t : Int) (w0 : World) :
    Calls Try.prog 13 #[.agg #[.int .i64 b, .int .i64 r], .int .i64 t] w0 (Ret w0 (.tuple #[.int .i64 (wiV b r t), .int .i64 (wiE b r t)])) := by
  refine enterK 28 Try.func13 rfl rfl rfl ?_
  intro a hF Q0 hR0 hN0
  have hM := Mem.start w0
  refine wp_seq_k fun K1 hK1 => ?_
  refine wp_region_lit ?_
  refine wl (eN 2 1 (t := 23) (fun b => .pointer (some ⟨b, 0, none⟩)) #[.int .i64 b, .int .i64 r] hF hM (by kernel_rfl) (fun _ => by kernel_rfl) fun bb1 a w hF hM => ?_)
  refine sB 2 [(4, .int .i64 0), (5, .int .i64 0)] hF (by kernel_rfl) fun a hF => ?_
  refine wpList_nil ?_
  refine hK1 _ _ ?_
  refine wp_seq_k fun K2 hK2 => ?_
  refine wp_seq_k fun K3 hK3 => ?_
  refine wp_region_lit ?_
  refine wl (eL 9 1 0 (v := .agg #[.int .i64 b, .int .i64 r]) hF hM (by kernel_rfl) rfl rfl (by kernel_rfl) (by kernel_rfl) fun a w hF hM => ?_)
  refine wl (eM 10 (v := .int .i64 (bkE b r)) hF hM (by kernel_rfl) (yld_call (f := 15) (args := #[.agg #[.int .i64 b, .int .i64 r]]) hF (by kernel_rfl) (fun _ => by kernel_rfl) (fun w hM => bkCheck_w b r w)) fun a w hF hM => ?_)
  refine sB 1 [(6, .int .i64 (bkE b r))] hF (by kernel_rfl) fun a hF => ?_
  refine wpList_nil ?_
  refine hK3 _ _ ?_
  refine wp_seq_k fun K4 hK4 => ?_
  refine wp_region_lit ?_
  refine sB 2 [(11, .int .i64 (bkE b r)), (12, .bool (!decide (bkE b r = 0)))] hF (by kernel_rfl) fun a hF => ?_
  refine wpList_nil ?_
  refine hK4 _ _ ?_
  by_cases hz1 : bkE b r = 0
  · skip
    have hz2 := bkE_ok hz1
    replace hF := hF.c hF (i := 12) (v := .bool false) rfl (nT hz1)
    refine cF hF (by kernel_rfl) (by kernel_rfl) ?_
    refine wp_skip ?_
    refine hK2 _ _ ?_
    refine wp_seq_k fun K5 hK5 => ?_
    refine wp_seq_k fun K6 hK6 => ?_
    by_cases hz3 : 0 ≤ t
    · skip
      by_cases hz4 : t ≤ 1099511627776
      · skip
        refine wp_region_lit ?_
        refine sB 1 [(14, .int .i64 t)] hF (by kernel_rfl) fun a hF => ?_
        refine wl (eM 15 (v := .bool true) hF hM (by kernel_rfl) (yld_call (f := 33) (args := #[.int .i64 t, .int .i64 0, .int .i64 1099511627776]) hF (by kernel_rfl) (fun _ => by kernel_rfl) (fun w hM => inside_yes t 0 1099511627776 w hz3 hz4)) fun a w hF hM => ?_)
        refine sB 1 [(16, .bool false)] hF (by kernel_rfl) fun a hF => ?_
        refine wpList_nil ?_
        refine hK6 _ _ ?_
        refine cF hF (by kernel_rfl) (by kernel_rfl) ?_
        refine wp_skip ?_
        refine hK5 _ _ ?_
        refine wp_seq_k fun K7 hK7 => ?_
        refine wp_region_lit ?_
        refine sB 1 [(18, .pointer (some ⟨bb1, 1, none⟩))] hF (by kernel_rfl) fun a hF => ?_
        refine wl (eL 19 1 1 (v := .int .i64 r) hF hM (by kernel_rfl) rfl rfl (by kernel_rfl) (by kernel_rfl) fun a w hF hM => ?_)
        refine sB 1 [(20, .int .i64 t)] hF (by kernel_rfl) fun a hF => ?_
        refine wl (eM 21 (v := .tuple #[.int .i64 (mdV r t 1048576), .bool (mdB r t 1048576)]) hF hM (by kernel_rfl) (yld_call (f := 34) (args := #[.int .i64 r, .int .i64 t, .int .i64 1048576]) hF (by kernel_rfl) (fun _ => by kernel_rfl) (fun w hM => mulDiv_w r t 1048576 w)) fun a w hF hM => ?_)
        refine sB 5 [(17, .tuple #[.int .i64 (mdV r t 1048576), .bool (mdB r t 1048576)]), (22, .int .i64 (mdV r t 1048576)), (23, .bool (mdB r t 1048576)), (7, .int .i64 (mdV r t 1048576)), (8, .bool (mdB r t 1048576))] hF (by kernel_rfl) fun a hF => ?_
        refine wpList_nil ?_
        refine hK7 _ _ ?_
        refine wp_seq_k fun K8 hK8 => ?_
        have hwm := wi_md (r := r) (t := t) (by omega) (by omega)
        have hwb : 0 ≤ mdV r t 1048576 ∧ mdV r t 1048576 ≤ 2199023255552 := by rw [hwm.1]; exact hwm.2
        refine wp_region_lit ?_
        refine sB 1 [(24, .pointer (some ⟨bb1, 0, none⟩))] hF (by kernel_rfl) fun a hF => ?_
        refine wl (eL 25 1 0 (v := .int .i64 b) hF hM (by kernel_rfl) rfl rfl (by kernel_rfl) (by kernel_rfl) fun a w hF hM => ?_)
        refine sB 1 [(26, .int .i64 (mdV r t 1048576))] hF (by kernel_rfl) fun a hF => ?_
        refine wl (eP 27 (v0 := .int .i64 (IntKind.i64.wrap (b + mdV r t 1048576))) (v := .int .i64 (b + mdV r t 1048576)) hF (by kernel_rfl) (fun _ => by kernel_rfl) (wi (by omega)) fun a hF => ?_)
        refine sB 2 [(4, .int .i64 (b + mdV r t 1048576)), (5, .int .i64 0)] hF (by kernel_rfl) fun a hF => ?_
        refine wpList_nil ?_
        refine hK8 _ _ ?_
        refine wp_ret ?_
        refine hR0 _ _ ?_
        refine ret_of hF hM (.tmp rfl (.tmp rfl (.nil))) ?_
        have hd := wi_yes (t := t) hz1 (by omega)
        exact ⟨ret_eq (by rw [hd.1, hd.2, ← hwm.1]; rfl), hM.bel⟩
      · skip
        refine wp_region_lit ?_
        refine sB 1 [(14, .int .i64 t)] hF (by kernel_rfl) fun a hF => ?_
        refine wl (eM 15 (v := .bool false) hF hM (by kernel_rfl) (yld_call (f := 33) (args := #[.int .i64 t, .int .i64 0, .int .i64 1099511627776]) hF (by kernel_rfl) (fun _ => by kernel_rfl) (fun w hM => inside_no t 0 1099511627776 w (.inr hz4))) fun a w hF hM => ?_)
        refine sB 1 [(16, .bool true)] hF (by kernel_rfl) fun a hF => ?_
        refine wpList_nil ?_
        refine hK6 _ _ ?_
        refine cT hF (by kernel_rfl) (by kernel_rfl) ?_
        refine wp_seq_k fun K9 hK9 => ?_
        refine wp_region_lit ?_
        refine sB 2 [(4, .int .i64 0), (5, .int .i64 2)] hF (by kernel_rfl) fun a hF => ?_
        refine wpList_nil ?_
        refine hK9 _ _ ?_
        refine wp_ret ?_
        refine hR0 _ _ ?_
        refine ret_of hF hM (.tmp rfl (.tmp rfl (.nil))) ?_
        have hd := wi_2 (t := t) hz1 (by omega)
        exact ⟨ret_eq (by rw [hd.1, hd.2]; rfl), hM.bel⟩
    · skip
      refine wp_region_lit ?_
      refine sB 1 [(14, .int .i64 t)] hF (by kernel_rfl) fun a hF => ?_
      refine wl (eM 15 (v := .bool false) hF hM (by kernel_rfl) (yld_call (f := 33) (args := #[.int .i64 t, .int .i64 0, .int .i64 1099511627776]) hF (by kernel_rfl) (fun _ => by kernel_rfl) (fun w hM => inside_no t 0 1099511627776 w (.inl hz3))) fun a w hF hM => ?_)
      refine sB 1 [(16, .bool true)] hF (by kernel_rfl) fun a hF => ?_
      refine wpList_nil ?_
      refine hK6 _ _ ?_
      refine cT hF (by kernel_rfl) (by kernel_rfl) ?_
      refine wp_seq_k fun K10 hK10 => ?_
      refine wp_region_lit ?_
      refine sB 2 [(4, .int .i64 0), (5, .int .i64 2)] hF (by kernel_rfl) fun a hF => ?_
      refine wpList_nil ?_
      refine hK10 _ _ ?_
      refine wp_ret ?_
      refine hR0 _ _ ?_
      refine ret_of hF hM (.tmp rfl (.tmp rfl (.nil))) ?_
      have hd := wi_2 (t := t) hz1 (by omega)
      exact ⟨ret_eq (by rw [hd.1, hd.2]; rfl), hM.bel⟩
  · skip
    replace hF := hF.c hF (i := 12) (v := .bool true) rfl (nF hz1)
    refine cT hF (by kernel_rfl) (by kernel_rfl) ?_
    refine wp_seq_k fun K11 hK11 => ?_
    refine wp_region_lit ?_
    refine sB 3 [(13, .int .i64 (bkE b r)), (4, .int .i64 0), (5, .int .i64 (bkE b r))] hF (by kernel_rfl) fun a hF => ?_
    refine wpList_nil ?_
    refine hK11 _ _ ?_
    refine wp_ret ?_
    refine hR0 _ _ ?_
    refine ret_of hF hM (.tmp rfl (.tmp rfl (.nil))) ?_
    have hd := wi_130 (t := t) hz1
    exact ⟨ret_eq (by rw [hd.1, hd.2, bkE_no hz1]; rfl), hM.bel⟩

theorem rWithin_w (b r t : Int) (w0 : World) :
    Calls Try.prog 14 #[.agg #[.int .i64 b, .int .i64 r], .int .i64 t] w0 (Ret w0 (.tuple #[.int .i64 (wiV b r t), .int .i64 (wiE b r t)])) := by
  refine enterK 23 Try.func14 rfl rfl rfl ?_
  intro a hF Q0 hR0 hN0
  have hM := Mem.start w0
  refine wp_seq_k fun K1 hK1 => ?_
  refine wp_region_lit ?_
  refine wl (eN 2 1 (t := 23) (fun b => .pointer (some ⟨b, 0, none⟩)) #[.int .i64 b, .int .i64 r] hF hM (by kernel_rfl) (fun _ => by kernel_rfl) fun bb1 a w hF hM => ?_)
  refine sB 2 [(4, .int .i64 0), (5, .int .i64 0)] hF (by kernel_rfl) fun a hF => ?_
  refine wpList_nil ?_
  refine hK1 _ _ ?_
  refine wp_seq_k fun K2 hK2 => ?_
  refine wp_seq_k fun K3 hK3 => ?_
  by_cases hz1 : bkE b r = 0
  · skip
    have hz2 := bkE_ok hz1
    refine wp_region_lit ?_
    refine wl (eL 6 1 0 (v := .agg #[.int .i64 b, .int .i64 r]) hF hM (by kernel_rfl) rfl rfl (by kernel_rfl) (by kernel_rfl) fun a w hF hM => ?_)
    refine wl (eM 7 (v := .bool true) hF hM (by kernel_rfl) (yld_call (f := 32) (args := #[.agg #[.int .i64 b, .int .i64 r]]) hF (by kernel_rfl) (fun _ => by kernel_rfl) (fun w hM => right_yes b r w hz1)) fun a w hF hM => ?_)
    refine sB 1 [(8, .bool false)] hF (by kernel_rfl) fun a hF => ?_
    refine wpList_nil ?_
    refine hK3 _ _ ?_
    refine cF hF (by kernel_rfl) (by kernel_rfl) ?_
    refine wp_skip ?_
    refine hK2 _ _ ?_
    refine wp_seq_k fun K4 hK4 => ?_
    refine wp_seq_k fun K5 hK5 => ?_
    by_cases hz3 : t < 0
    · skip
      refine wp_region_lit ?_
      refine sB 1 [(9, .int .i64 t)] hF (by kernel_rfl) fun a hF => ?_
      refine wl (eP 10 (v0 := .bool (decide (t < 0))) (v := .bool true) hF (by kernel_rfl) (fun _ => by kernel_rfl) (bT hz3) fun a hF => ?_)
      refine sB 4 [(11, .bool true), (12, undef), (13, undef), (14, .bool true)] hF (by kernel_rfl) fun a hF => ?_
      refine wpList_nil ?_
      refine hK5 _ _ ?_
      refine cT hF (by kernel_rfl) (by kernel_rfl) ?_
      refine wp_seq_k fun K6 hK6 => ?_
      refine wp_region_lit ?_
      refine sB 2 [(4, .int .i64 0), (5, .int .i64 2)] hF (by kernel_rfl) fun a hF => ?_
      refine wpList_nil ?_
      refine hK6 _ _ ?_
      refine wp_ret ?_
      refine hR0 _ _ ?_
      refine ret_of hF hM (.tmp rfl (.tmp rfl (.nil))) ?_
      have hd := wi_2 (t := t) hz1 (by omega)
      exact ⟨ret_eq (by rw [hd.1, hd.2]; rfl), hM.bel⟩
    · skip
      refine wp_region_lit ?_
      refine sB 1 [(9, .int .i64 t)] hF (by kernel_rfl) fun a hF => ?_
      refine wl (eP 10 (v0 := .bool (decide (t < 0))) (v := .bool false) hF (by kernel_rfl) (fun _ => by kernel_rfl) (bF hz3) fun a hF => ?_)
      refine sB 4 [(11, .bool false), (12, .int .i64 t), (13, .bool (decide (1099511627776 < t))), (14, .bool (decide (1099511627776 < t)))] hF (by kernel_rfl) fun a hF => ?_
      refine wpList_nil ?_
      refine hK5 _ _ ?_
      by_cases hz4 : 1099511627776 < t
      · skip
        replace hF := hF.c hF (i := 13) (v := .bool true) rfl (bT hz4)
        replace hF := hF.c hF (i := 14) (v := .bool true) rfl (bT hz4)
        refine cT hF (by kernel_rfl) (by kernel_rfl) ?_
        refine wp_seq_k fun K7 hK7 => ?_
        refine wp_region_lit ?_
        refine sB 2 [(4, .int .i64 0), (5, .int .i64 2)] hF (by kernel_rfl) fun a hF => ?_
        refine wpList_nil ?_
        refine hK7 _ _ ?_
        refine wp_ret ?_
        refine hR0 _ _ ?_
        refine ret_of hF hM (.tmp rfl (.tmp rfl (.nil))) ?_
        have hd := wi_2 (t := t) hz1 (by omega)
        exact ⟨ret_eq (by rw [hd.1, hd.2]; rfl), hM.bel⟩
      · skip
        replace hF := hF.c hF (i := 13) (v := .bool false) rfl (bF hz4)
        replace hF := hF.c hF (i := 14) (v := .bool false) rfl (bF hz4)
        refine cF hF (by kernel_rfl) (by kernel_rfl) ?_
        refine wp_skip ?_
        refine hK4 _ _ ?_
        refine wp_seq_k fun K8 hK8 => ?_
        refine wp_region_lit ?_
        refine sB 1 [(15, .pointer (some ⟨bb1, 0, none⟩))] hF (by kernel_rfl) fun a hF => ?_
        refine wl (eL 16 1 0 (v := .int .i64 b) hF hM (by kernel_rfl) rfl rfl (by kernel_rfl) (by kernel_rfl) fun a w hF hM => ?_)
        refine sB 1 [(17, .pointer (some ⟨bb1, 1, none⟩))] hF (by kernel_rfl) fun a hF => ?_
        refine wl (eL 18 1 1 (v := .int .i64 r) hF hM (by kernel_rfl) rfl rfl (by kernel_rfl) (by kernel_rfl) fun a w hF hM => ?_)
        refine sB 1 [(19, .int .i64 t)] hF (by kernel_rfl) fun a hF => ?_
        have hz5 : 0 ≤ r * t ∧ r * t ≤ 2305843009213693952 := mul_bd (1) (2097152) (0) (1099511627776) (by omega) (by omega) (by omega) (by omega) (by decide)
        refine wl (eP 20 (v0 := .int .i64 (IntKind.i64.wrap (r * t))) (v := .int .i64 (r * t)) hF (by kernel_rfl) (fun _ => by kernel_rfl) (wi (by omega)) fun a hF => ?_)
        refine wl (eM 21 (v := .int .i64 (r * t / 1048576)) hF hM (by kernel_rfl) (yld_quo (r * t) 1048576 hF rfl (by kernel_rfl) (by kernel_rfl) (by kernel_rfl) (by decide) (qpos_i64 (by omega) (by omega) (by omega))) fun a w hF hM => ?_)
        refine wl (eP 22 (v0 := .int .i64 (IntKind.i64.wrap (b + r * t / 1048576))) (v := .int .i64 (b + r * t / 1048576)) hF (by kernel_rfl) (fun _ => by kernel_rfl) (wi (by omega)) fun a hF => ?_)
        refine sB 2 [(4, .int .i64 (b + r * t / 1048576)), (5, .int .i64 0)] hF (by kernel_rfl) fun a hF => ?_
        refine wpList_nil ?_
        refine hK8 _ _ ?_
        refine wp_ret ?_
        refine hR0 _ _ ?_
        refine ret_of hF hM (.tmp rfl (.tmp rfl (.nil))) ?_
        have hd := wi_yes (t := t) hz1 (by omega)
        exact ⟨ret_eq (by rw [hd.1, hd.2]; rfl), hM.bel⟩
  · skip
    refine wp_region_lit ?_
    refine wl (eL 6 1 0 (v := .agg #[.int .i64 b, .int .i64 r]) hF hM (by kernel_rfl) rfl rfl (by kernel_rfl) (by kernel_rfl) fun a w hF hM => ?_)
    refine wl (eM 7 (v := .bool false) hF hM (by kernel_rfl) (yld_call (f := 32) (args := #[.agg #[.int .i64 b, .int .i64 r]]) hF (by kernel_rfl) (fun _ => by kernel_rfl) (fun w hM => right_no b r w hz1)) fun a w hF hM => ?_)
    refine sB 1 [(8, .bool true)] hF (by kernel_rfl) fun a hF => ?_
    refine wpList_nil ?_
    refine hK3 _ _ ?_
    refine cT hF (by kernel_rfl) (by kernel_rfl) ?_
    refine wp_seq_k fun K9 hK9 => ?_
    refine wp_region_lit ?_
    refine sB 2 [(4, .int .i64 0), (5, .int .i64 130)] hF (by kernel_rfl) fun a hF => ?_
    refine wpList_nil ?_
    refine hK9 _ _ ?_
    refine wp_ret ?_
    refine hR0 _ _ ?_
    refine ret_of hF hM (.tmp rfl (.tmp rfl (.nil))) ?_
    have hd := wi_130 (t := t) hz1
    exact ⟨ret_eq (by rw [hd.1, hd.2]; rfl), hM.bel⟩

theorem bSum_w (A : Option Addr) (l : List (Int × Int)) (c : Nat) (w0 : World) (hA : Ro w0 A (flat2 l)) :
    Calls Try.prog 11 #[.slice A l.length c] w0 (Ret w0 (.tuple #[.agg #[.int .i64 (smB l), .int .i64 (smR l)], .int .i64 (smE l)])) := by
  refine enterK 46 Try.func11 rfl rfl rfl ?_
  intro a hF Q0 hR0 hN0
  have hM := Mem.start w0
  replace hM := hM.addOld 1 hA (Nat.le_refl _)
  refine wp_seq_k fun K1 hK1 => ?_
  refine wp_region_lit ?_
  refine wl (eN 2 2 (t := 23) (fun b => .pointer (some ⟨b, 0, none⟩)) #[.int .i64 0, .int .i64 0] hF hM (by kernel_rfl) (fun _ => by kernel_rfl) fun bb1 a w hF hM => ?_)
  refine sB 1 [(3, .int .i64 0)] hF (by kernel_rfl) fun a hF => ?_
  refine wpList_nil ?_
  refine hK1 _ _ ?_
  refine wp_seq_k fun K2 hK2 => ?_
  refine wp_seq_k fun K3 hK3 => ?_
  refine wp_region_lit ?_
  refine sB 3 [(8, .slice A l.length c), (9, .int .i64 (l.length : Int)), (10, .bool (decide ((l.length : Int) = 0)))] hF (by kernel_rfl) fun a hF => ?_
  refine wpList_nil ?_
  refine hK3 _ _ ?_
  by_cases hz1 : (l.length : Int) = 0
  · skip
    replace hF := hF.c hF (i := 10) (v := .bool true) rfl (bT hz1)
    refine cT hF (by kernel_rfl) (by kernel_rfl) ?_
    refine wp_seq_k fun K4 hK4 => ?_
    refine wp_region_lit ?_
    refine sB 1 [(11, .agg #[.int .i64 0, .int .i64 0])] hF (by kernel_rfl) fun a hF => ?_
    refine wl (sStore (i := 2) (off := 0) (cs' := #[.int .i64 0, .int .i64 0]) hF hM (by kernel_rfl) rfl rfl (by kernel_rfl) (by kernel_rfl) rfl (by kernel_rfl) fun w hM => ?_)
    refine sB 1 [(3, .int .i64 2)] hF (by kernel_rfl) fun a hF => ?_
    refine wpList_nil ?_
    refine hK4 _ _ ?_
    refine wp_ret ?_
    refine hR0 _ _ ?_
    refine ret_of hF hM (.cell (i := 2) rfl rfl (v := .agg #[.int .i64 0, .int .i64 0]) (by kernel_rfl) (.tmp rfl (.nil))) ?_
    have hd := sm_no (l := l) (e := 2) (by unfold smE; rw [if_pos (by omega)]) (by decide)
    exact ⟨ret_eq (by rw [hd.1, hd.2.1, hd.2.2]; rfl), hM.bel⟩
  · skip
    replace hF := hF.c hF (i := 10) (v := .bool false) rfl (bF hz1)
    refine cF hF (by kernel_rfl) (by kernel_rfl) ?_
    refine wp_skip ?_
    refine hK2 _ _ ?_
    refine wp_seq_k fun K5 hK5 => ?_
    refine wp_seq_k fun K6 hK6 => ?_
    refine wp_region_lit ?_
    refine sB 3 [(12, .slice A l.length c), (13, .int .i64 (l.length : Int)), (14, .bool (decide (12 < (l.length : Int))))] hF (by kernel_rfl) fun a hF => ?_
    refine wpList_nil ?_
    refine hK6 _ _ ?_
    by_cases hz2 : 12 < (l.length : Int)
    · skip
      replace hF := hF.c hF (i := 14) (v := .bool true) rfl (bT hz2)
      refine cT hF (by kernel_rfl) (by kernel_rfl) ?_
      refine wp_seq_k fun K7 hK7 => ?_
      refine wp_region_lit ?_
      refine sB 1 [(15, .agg #[.int .i64 0, .int .i64 0])] hF (by kernel_rfl) fun a hF => ?_
      refine wl (sStore (i := 2) (off := 0) (cs' := #[.int .i64 0, .int .i64 0]) hF hM (by kernel_rfl) rfl rfl (by kernel_rfl) (by kernel_rfl) rfl (by kernel_rfl) fun w hM => ?_)
      refine sB 1 [(3, .int .i64 3)] hF (by kernel_rfl) fun a hF => ?_
      refine wpList_nil ?_
      refine hK7 _ _ ?_
      refine wp_ret ?_
      refine hR0 _ _ ?_
      refine ret_of hF hM (.cell (i := 2) rfl rfl (v := .agg #[.int .i64 0, .int .i64 0]) (by kernel_rfl) (.tmp rfl (.nil))) ?_
      have hd := sm_no (l := l) (e := 3) (by unfold smE; rw [if_neg (by omega), if_pos (by omega)]) (by decide)
      exact ⟨ret_eq (by rw [hd.1, hd.2.1, hd.2.2]; rfl), hM.bel⟩
    · skip
      replace hF := hF.c hF (i := 14) (v := .bool false) rfl (bF hz2)
      refine cF hF (by kernel_rfl) (by kernel_rfl) ?_
      refine wp_skip ?_
      refine hK5 _ _ ?_
      refine wp_seq_k fun K8 hK8 => ?_
      refine wp_region_lit ?_
      refine wl (eN 4 3 (t := 23) (fun b => .pointer (some ⟨b, 0, none⟩)) #[.int .i64 0, .int .i64 0] hF hM (by kernel_rfl) (fun _ => by kernel_rfl) fun bb2 a w hF hM => ?_)
      refine wpList_nil ?_
      refine hK8 _ _ ?_
      refine wp_seq_k fun K9 hK9 => ?_
      refine wp_seq_k fun K10 hK10 => ?_
      refine wp_region_lit ?_
      refine sB 3 [(16, .slice A l.length c), (17, .int .i64 (l.length : Int)), (18, .int .i64 0)] hF (by kernel_rfl) fun a hF => ?_
      refine wpList_nil ?_
      refine hK10 _ _ ?_
      refine wp_block ?_
      refine wp_loop_k (G := Nat × Int × Int) (fun gg a w => Fr 46 [(18, some (.int .i64 (gg.1 : Int))), (2, some (.pointer (some ⟨bb1, 0, none⟩))), (4, some (.pointer (some ⟨bb2, 0, none⟩))), (16, some (.slice A l.length c)), (17, some (.int .i64 (l.length : Int)))] a ∧ Mem w0.heap.size w0 [(1, some (.ro A (flat2 l))), (2, some (.row bb1 23 #[.int .i64 0, .int .i64 0])), (3, some (.row bb2 23 #[.int .i64 gg.2.1, .int .i64 gg.2.2]))] w ∧ ((gg.1 : Int) ≤ (l.length : Int)) ∧ (SmAt l gg.1 gg.2.1 gg.2.2)) (fun gg => l.length - gg.1) (0, 0, 0) ?_ ?_
      · refine ⟨((((((Fr.nil hF).c hF (i := 17) rfl rfl).c hF (i := 16) rfl rfl).c hF (i := 4) rfl rfl).c hF (i := 2) rfl rfl).c hF (i := 18) rfl (vi (show (0 : Int) = (0 : Int) from by omega))), (hM.sub (((Sub.nil.c (k := 3) rfl rfl).c (k := 2) rfl rfl).c (k := 1) rfl rfl)), (show (0 : Int) ≤ (l.length : Int) from by omega), (show SmAt l 0 0 0 from by exact SmAt.zero l)⟩
      · intro gg a w hI
        intro K11 hK11
        obtain ⟨k, x, y⟩ := gg
        try dsimp only at hI hK11
        obtain ⟨hF, hM, hz3, hz4⟩ := hI
        have hS : SmAt l k x y := by assumption
        have hS1 := hS.lo
        have hS2 := hS.lr
        refine wp_seq_k fun K12 hK12 => ?_
        refine wp_region_lit ?_
        refine sB 1 [(19, .bool (decide ((k : Int) < (l.length : Int))))] hF (by kernel_rfl) fun a hF => ?_
        refine wpList_nil ?_
        refine hK12 _ _ ?_
        refine wp_seq_k fun K13 hK13 => ?_
        by_cases hz5 : (k : Int) < (l.length : Int)
        · skip
          replace hF := hF.c hF (i := 19) (v := .bool true) rfl (bT hz5)
          refine cT hF (by kernel_rfl) (by kernel_rfl) ?_
          refine wp_skip ?_
          refine hK13 _ _ ?_
          refine wp_seq_k fun K14 hK14 => ?_
          refine wp_block ?_
          refine wp_seq_k fun K15 hK15 => ?_
          refine wp_region_lit ?_
          refine wl (eM 20 (v := .pointer (some (ea A (k * 2)))) hF hM (by kernel_rfl) (yld_ix (kd := .i64) (e := 23) (len := l.length) (cap := c) (i := (k : Int)) (size := 2) (A := A) hF rfl (by kernel_rfl) (by kernel_rfl) (by kernel_rfl) (by kernel_rfl) (by kernel_rfl) (roK 1 rfl) (by omega) (by omega) (by rw [flat2_length]; omega)) fun a w hF hM => ?_)
          refine wl (eM 21 (v := .agg #[.int .i64 (pr l k).1, .int .i64 (pr l k).2]) hF hM (by kernel_rfl) (yld_roM (A := A) (j := k * 2) (us := [.int .i64 (pr l k).1, .int .i64 (pr l k).2]) hF rfl (by kernel_rfl) (by kernel_rfl) (roK 1 rfl) (by kernel_rfl) rfl (pr_both (k := k) (by omega) (by omega))) fun a w hF hM => ?_)
          refine wl (eN 6 4 (t := 23) (fun b => .pointer (some ⟨b, 0, none⟩)) #[.int .i64 0, .int .i64 0] hF hM (by kernel_rfl) (fun _ => by kernel_rfl) fun bb3 a w hF hM => ?_)
          refine wl (sStore (i := 4) (off := 0) (cs' := #[.int .i64 (pr l k).1, .int .i64 (pr l k).2]) hF hM (by kernel_rfl) rfl rfl (by kernel_rfl) (by kernel_rfl) rfl (by kernel_rfl) fun w hM => ?_)
          refine wpList_nil ?_
          refine hK15 _ _ ?_
          refine wp_seq_k fun K16 hK16 => ?_
          refine wp_seq_k fun K17 hK17 => ?_
          refine wp_region_lit ?_
          refine wl (eL 22 4 0 (v := .agg #[.int .i64 (pr l k).1, .int .i64 (pr l k).2]) hF hM (by kernel_rfl) rfl rfl (by kernel_rfl) (by kernel_rfl) fun a w hF hM => ?_)
          refine wl (eM 23 (v := .int .i64 (bkE (pr l k).1 (pr l k).2)) hF hM (by kernel_rfl) (yld_call (f := 15) (args := #[.agg #[.int .i64 (pr l k).1, .int .i64 (pr l k).2]]) hF (by kernel_rfl) (fun _ => by kernel_rfl) (fun w hM => bkCheck_w (pr l k).1 (pr l k).2 w)) fun a w hF hM => ?_)
          refine sB 1 [(7, .int .i64 (bkE (pr l k).1 (pr l k).2))] hF (by kernel_rfl) fun a hF => ?_
          refine wpList_nil ?_
          refine hK17 _ _ ?_
          refine wp_seq_k fun K18 hK18 => ?_
          refine wp_region_lit ?_
          refine sB 2 [(24, .int .i64 (bkE (pr l k).1 (pr l k).2)), (25, .bool (!decide (bkE (pr l k).1 (pr l k).2 = 0)))] hF (by kernel_rfl) fun a hF => ?_
          refine wpList_nil ?_
          refine hK18 _ _ ?_
          by_cases hz6 : bkE (pr l k).1 (pr l k).2 = 0
          · skip
            have hz7 := bkE_ok hz6
            replace hF := hF.c hF (i := 25) (v := .bool false) rfl (nT hz6)
            refine cF hF (by kernel_rfl) (by kernel_rfl) ?_
            refine wp_skip ?_
            refine hK16 _ _ ?_
            refine wp_seq_k fun K19 hK19 => ?_
            refine wp_region_lit ?_
            refine sB 1 [(28, .pointer (some ⟨bb2, 0, none⟩))] hF (by kernel_rfl) fun a hF => ?_
            refine wl (eL 29 3 0 (v := .int .i64 x) hF hM (by kernel_rfl) rfl rfl (by kernel_rfl) (by kernel_rfl) fun a w hF hM => ?_)
            refine sB 1 [(30, .pointer (some ⟨bb3, 0, none⟩))] hF (by kernel_rfl) fun a hF => ?_
            refine wl (eL 31 4 0 (v := .int .i64 (pr l k).1) hF hM (by kernel_rfl) rfl rfl (by kernel_rfl) (by kernel_rfl) fun a w hF hM => ?_)
            refine wl (eP 32 (v0 := .int .i64 (IntKind.i64.wrap (x + (pr l k).1))) (v := .int .i64 (x + (pr l k).1)) hF (by kernel_rfl) (fun _ => by kernel_rfl) (wi (by omega)) fun a hF => ?_)
            refine sB 1 [(33, .pointer (some ⟨bb2, 0, none⟩))] hF (by kernel_rfl) fun a hF => ?_
            refine wl (sStore (i := 3) (off := 0) (cs' := #[.int .i64 (x + (pr l k).1), .int .i64 y]) hF hM (by kernel_rfl) rfl rfl (by kernel_rfl) (by kernel_rfl) rfl (by kernel_rfl) fun w hM => ?_)
            refine wpList_nil ?_
            refine hK19 _ _ ?_
            refine wp_region_lit ?_
            refine sB 1 [(34, .pointer (some ⟨bb2, 1, none⟩))] hF (by kernel_rfl) fun a hF => ?_
            refine wl (eL 35 3 1 (v := .int .i64 y) hF hM (by kernel_rfl) rfl rfl (by kernel_rfl) (by kernel_rfl) fun a w hF hM => ?_)
            refine sB 1 [(36, .pointer (some ⟨bb3, 1, none⟩))] hF (by kernel_rfl) fun a hF => ?_
            refine wl (eL 37 4 1 (v := .int .i64 (pr l k).2) hF hM (by kernel_rfl) rfl rfl (by kernel_rfl) (by kernel_rfl) fun a w hF hM => ?_)
            refine wl (eP 38 (v0 := .int .i64 (IntKind.i64.wrap (y + (pr l k).2))) (v := .int .i64 (y + (pr l k).2)) hF (by kernel_rfl) (fun _ => by kernel_rfl) (wi (by omega)) fun a hF => ?_)
            refine sB 1 [(39, .pointer (some ⟨bb2, 1, none⟩))] hF (by kernel_rfl) fun a hF => ?_
            refine wl (sStore (i := 3) (off := 1) (cs' := #[.int .i64 (x + (pr l k).1), .int .i64 (y + (pr l k).2)]) hF hM (by kernel_rfl) rfl rfl (by kernel_rfl) (by kernel_rfl) rfl (by kernel_rfl) fun w hM => ?_)
            refine wpList_nil ?_
            refine hK14 _ _ ?_
            refine wp_region_lit ?_
            refine wl (eP 40 (v0 := .int .i64 (IntKind.i64.wrap ((k : Int) + 1))) (v := .int .i64 ((k : Int) + 1)) hF (by kernel_rfl) (fun _ => by kernel_rfl) (wi (by omega)) fun a hF => ?_)
            refine sB 1 [(18, .int .i64 ((k : Int) + 1))] hF (by kernel_rfl) fun a hF => ?_
            refine wpList_nil ?_
            have hnx := hS.next (by omega) hz6
            refine hK11 _ _ ⟨(k + 1, x + (pr l k).1, y + (pr l k).2), ⟨((((((Fr.nil hF).c hF (i := 17) rfl rfl).c hF (i := 16) rfl rfl).c hF (i := 4) rfl rfl).c hF (i := 2) rfl rfl).c hF (i := 18) rfl (vi (show ((k : Int) + 1 : Int) = ((k + 1) : Int) from by omega))), (hM.sub (((Sub.nil.c (k := 3) rfl rfl).c (k := 2) rfl rfl).c (k := 1) rfl rfl)), (show ((k + 1) : Int) ≤ (l.length : Int) from by omega), (show SmAt l (k + 1) (x + (pr l k).1) (y + (pr l k).2) from by exact hnx)⟩, (show l.length - (k + 1) < l.length - k from by omega)⟩
          · skip
            replace hF := hF.c hF (i := 25) (v := .bool true) rfl (nF hz6)
            refine cT hF (by kernel_rfl) (by kernel_rfl) ?_
            refine wp_seq_k fun K20 hK20 => ?_
            refine wp_region_lit ?_
            refine sB 2 [(26, .agg #[.int .i64 0, .int .i64 0]), (27, .int .i64 (bkE (pr l k).1 (pr l k).2))] hF (by kernel_rfl) fun a hF => ?_
            refine wl (sStore (i := 2) (off := 0) (cs' := #[.int .i64 0, .int .i64 0]) hF hM (by kernel_rfl) rfl rfl (by kernel_rfl) (by kernel_rfl) rfl (by kernel_rfl) fun w hM => ?_)
            refine sB 1 [(3, .int .i64 (bkE (pr l k).1 (pr l k).2))] hF (by kernel_rfl) fun a hF => ?_
            refine wpList_nil ?_
            refine hK20 _ _ ?_
            refine wp_ret ?_
            refine hR0 _ _ ?_
            refine ret_of hF hM (.cell (i := 2) rfl rfl (v := .agg #[.int .i64 0, .int .i64 0]) (by kernel_rfl) (.tmp rfl (.nil))) ?_
            have hd := sm_no (SmAt.bad (l := l) (k := k) (by omega) (by omega) hz6) (by decide)
            exact ⟨ret_eq (by rw [hd.1, hd.2.1, hd.2.2, bkE_no hz6]; rfl), hM.bel⟩
        · skip
          replace hF := hF.c hF (i := 19) (v := .bool false) rfl (bF hz5)
          refine cF hF (by kernel_rfl) (by kernel_rfl) ?_
          refine wp_exit ?_
          refine hK9 _ _ ?_
          refine wp_seq_k fun K21 hK21 => ?_
          refine wp_seq_k fun K22 hK22 => ?_
          refine wp_region_lit ?_
          refine wl (eL 41 3 0 (v := .agg #[.int .i64 x, .int .i64 y]) hF hM (by kernel_rfl) rfl rfl (by kernel_rfl) (by kernel_rfl) fun a w hF hM => ?_)
          refine wl (eM 42 (v := .int .i64 (bkE x y)) hF hM (by kernel_rfl) (yld_call (f := 15) (args := #[.agg #[.int .i64 x, .int .i64 y]]) hF (by kernel_rfl) (fun _ => by kernel_rfl) (fun w hM => bkCheck_w x y w)) fun a w hF hM => ?_)
          refine sB 1 [(43, .bool (!decide (bkE x y = 0)))] hF (by kernel_rfl) fun a hF => ?_
          refine wpList_nil ?_
          refine hK22 _ _ ?_
          by_cases hz8 : bkE x y = 0
          · skip
            have hz9 := bkE_ok hz8
            replace hF := hF.c hF (i := 43) (v := .bool false) rfl (nT hz8)
            refine cF hF (by kernel_rfl) (by kernel_rfl) ?_
            refine wp_skip ?_
            refine hK21 _ _ ?_
            refine wp_seq_k fun K23 hK23 => ?_
            refine wp_region_lit ?_
            refine wl (eL 45 3 0 (v := .agg #[.int .i64 x, .int .i64 y]) hF hM (by kernel_rfl) rfl rfl (by kernel_rfl) (by kernel_rfl) fun a w hF hM => ?_)
            refine wl (sStore (i := 2) (off := 0) (cs' := #[.int .i64 x, .int .i64 y]) hF hM (by kernel_rfl) rfl rfl (by kernel_rfl) (by kernel_rfl) rfl (by kernel_rfl) fun w hM => ?_)
            refine sB 1 [(3, .int .i64 0)] hF (by kernel_rfl) fun a hF => ?_
            refine wpList_nil ?_
            refine hK23 _ _ ?_
            refine wp_ret ?_
            refine hR0 _ _ ?_
            refine ret_of hF hM (.cell (i := 2) rfl rfl (v := .agg #[.int .i64 x, .int .i64 y]) (by kernel_rfl) (.tmp rfl (.nil))) ?_
            have hdn := hS.done (by omega) (by omega) (by omega)
            rw [if_pos hz8] at hdn
            have hd := sm_yes hdn.1
            exact ⟨ret_eq (by rw [hd.1, hd.2.1, hd.2.2, hdn.2.1, hdn.2.2]; rfl), hM.bel⟩
          · skip
            replace hF := hF.c hF (i := 43) (v := .bool true) rfl (nF hz8)
            refine cT hF (by kernel_rfl) (by kernel_rfl) ?_
            refine wp_seq_k fun K24 hK24 => ?_
            refine wp_region_lit ?_
            refine sB 1 [(44, .agg #[.int .i64 0, .int .i64 0])] hF (by kernel_rfl) fun a hF => ?_
            refine wl (sStore (i := 2) (off := 0) (cs' := #[.int .i64 0, .int .i64 0]) hF hM (by kernel_rfl) rfl rfl (by kernel_rfl) (by kernel_rfl) rfl (by kernel_rfl) fun w hM => ?_)
            refine sB 1 [(3, .int .i64 6)] hF (by kernel_rfl) fun a hF => ?_
            refine wpList_nil ?_
            refine hK24 _ _ ?_
            refine wp_ret ?_
            refine hR0 _ _ ?_
            refine ret_of hF hM (.cell (i := 2) rfl rfl (v := .agg #[.int .i64 0, .int .i64 0]) (by kernel_rfl) (.tmp rfl (.nil))) ?_
            have hdn := hS.done (by omega) (by omega) (by omega)
            rw [if_neg hz8] at hdn
            have hd := sm_no hdn.1 (by decide)
            exact ⟨ret_eq (by rw [hd.1, hd.2.1, hd.2.2]; rfl), hM.bel⟩

theorem rSum_w (A : Option Addr) (l : List (Int × Int)) (c : Nat) (w0 : World) (hA : Ro w0 A (flat2 l)) :
    Calls Try.prog 12 #[.slice A l.length c] w0 (Ret w0 (.tuple #[.agg #[.int .i64 (smB l), .int .i64 (smR l)], .int .i64 (smE l)])) := by
  refine enterK 50 Try.func12 rfl rfl rfl ?_
  intro a hF Q0 hR0 hN0
  have hM := Mem.start w0
  replace hM := hM.addOld 1 hA (Nat.le_refl _)
  refine wp_seq_k fun K1 hK1 => ?_
  refine wp_region_lit ?_
  refine wl (eN 2 2 (t := 23) (fun b => .pointer (some ⟨b, 0, none⟩)) #[.int .i64 0, .int .i64 0] hF hM (by kernel_rfl) (fun _ => by kernel_rfl) fun bb1 a w hF hM => ?_)
  refine sB 1 [(3, .int .i64 0)] hF (by kernel_rfl) fun a hF => ?_
  refine wpList_nil ?_
  refine hK1 _ _ ?_
  refine wp_seq_k fun K2 hK2 => ?_
  refine wp_seq_k fun K3 hK3 => ?_
  refine wp_region_lit ?_
  refine sB 3 [(6, .slice A l.length c), (7, .int .i64 (l.length : Int)), (8, .bool (decide ((l.length : Int) = 0)))] hF (by kernel_rfl) fun a hF => ?_
  refine wpList_nil ?_
  refine hK3 _ _ ?_
  by_cases hz1 : (l.length : Int) = 0
  · skip
    replace hF := hF.c hF (i := 8) (v := .bool true) rfl (bT hz1)
    refine cT hF (by kernel_rfl) (by kernel_rfl) ?_
    refine wp_seq_k fun K4 hK4 => ?_
    refine wp_region_lit ?_
    refine sB 1 [(9, .agg #[.int .i64 0, .int .i64 0])] hF (by kernel_rfl) fun a hF => ?_
    refine wl (sStore (i := 2) (off := 0) (cs' := #[.int .i64 0, .int .i64 0]) hF hM (by kernel_rfl) rfl rfl (by kernel_rfl) (by kernel_rfl) rfl (by kernel_rfl) fun w hM => ?_)
    refine sB 1 [(3, .int .i64 2)] hF (by kernel_rfl) fun a hF => ?_
    refine wpList_nil ?_
    refine hK4 _ _ ?_
    refine wp_ret ?_
    refine hR0 _ _ ?_
    refine ret_of hF hM (.cell (i := 2) rfl rfl (v := .agg #[.int .i64 0, .int .i64 0]) (by kernel_rfl) (.tmp rfl (.nil))) ?_
    have hd := sm_no (l := l) (e := 2) (by unfold smE; rw [if_pos (by omega)]) (by decide)
    exact ⟨ret_eq (by rw [hd.1, hd.2.1, hd.2.2]; rfl), hM.bel⟩
  · skip
    replace hF := hF.c hF (i := 8) (v := .bool false) rfl (bF hz1)
    refine cF hF (by kernel_rfl) (by kernel_rfl) ?_
    refine wp_skip ?_
    refine hK2 _ _ ?_
    refine wp_seq_k fun K5 hK5 => ?_
    refine wp_seq_k fun K6 hK6 => ?_
    refine wp_region_lit ?_
    refine sB 3 [(10, .slice A l.length c), (11, .int .i64 (l.length : Int)), (12, .bool (decide (12 < (l.length : Int))))] hF (by kernel_rfl) fun a hF => ?_
    refine wpList_nil ?_
    refine hK6 _ _ ?_
    by_cases hz2 : 12 < (l.length : Int)
    · skip
      replace hF := hF.c hF (i := 12) (v := .bool true) rfl (bT hz2)
      refine cT hF (by kernel_rfl) (by kernel_rfl) ?_
      refine wp_seq_k fun K7 hK7 => ?_
      refine wp_region_lit ?_
      refine sB 1 [(13, .agg #[.int .i64 0, .int .i64 0])] hF (by kernel_rfl) fun a hF => ?_
      refine wl (sStore (i := 2) (off := 0) (cs' := #[.int .i64 0, .int .i64 0]) hF hM (by kernel_rfl) rfl rfl (by kernel_rfl) (by kernel_rfl) rfl (by kernel_rfl) fun w hM => ?_)
      refine sB 1 [(3, .int .i64 3)] hF (by kernel_rfl) fun a hF => ?_
      refine wpList_nil ?_
      refine hK7 _ _ ?_
      refine wp_ret ?_
      refine hR0 _ _ ?_
      refine ret_of hF hM (.cell (i := 2) rfl rfl (v := .agg #[.int .i64 0, .int .i64 0]) (by kernel_rfl) (.tmp rfl (.nil))) ?_
      have hd := sm_no (l := l) (e := 3) (by unfold smE; rw [if_neg (by omega), if_pos (by omega)]) (by decide)
      exact ⟨ret_eq (by rw [hd.1, hd.2.1, hd.2.2]; rfl), hM.bel⟩
    · skip
      replace hF := hF.c hF (i := 12) (v := .bool false) rfl (bF hz2)
      refine cF hF (by kernel_rfl) (by kernel_rfl) ?_
      refine wp_skip ?_
      refine hK5 _ _ ?_
      refine wp_seq_k fun K8 hK8 => ?_
      refine wp_region_lit ?_
      refine wl (eN 4 3 (t := 23) (fun b => .pointer (some ⟨b, 0, none⟩)) #[.int .i64 0, .int .i64 0] hF hM (by kernel_rfl) (fun _ => by kernel_rfl) fun bb2 a w hF hM => ?_)
      refine wpList_nil ?_
      refine hK8 _ _ ?_
      refine wp_seq_k fun K9 hK9 => ?_
      refine wp_seq_k fun K10 hK10 => ?_
      refine wp_region_lit ?_
      refine sB 1 [(5, .int .i64 0)] hF (by kernel_rfl) fun a hF => ?_
      refine wpList_nil ?_
      refine hK10 _ _ ?_
      refine wp_block ?_
      refine wp_loop_k (G := Nat × Int × Int) (fun gg a w => Fr 50 [(5, some (.int .i64 (gg.1 : Int))), (0, some (.slice A l.length c)), (2, some (.pointer (some ⟨bb1, 0, none⟩))), (4, some (.pointer (some ⟨bb2, 0, none⟩)))] a ∧ Mem w0.heap.size w0 [(1, some (.ro A (flat2 l))), (2, some (.row bb1 23 #[.int .i64 0, .int .i64 0])), (3, some (.row bb2 23 #[.int .i64 gg.2.1, .int .i64 gg.2.2]))] w ∧ ((gg.1 : Int) ≤ (l.length : Int)) ∧ (SmAt l gg.1 gg.2.1 gg.2.2)) (fun gg => l.length - gg.1) (0, 0, 0) ?_ ?_
      · refine ⟨(((((Fr.nil hF).c hF (i := 4) rfl rfl).c hF (i := 2) rfl rfl).c hF (i := 0) rfl rfl).c hF (i := 5) rfl (vi (show (0 : Int) = (0 : Int) from by omega))), (hM.sub (((Sub.nil.c (k := 3) rfl rfl).c (k := 2) rfl rfl).c (k := 1) rfl rfl)), (show (0 : Int) ≤ (l.length : Int) from by omega), (show SmAt l 0 0 0 from by exact SmAt.zero l)⟩
      · intro gg a w hI
        intro K11 hK11
        obtain ⟨k, x, y⟩ := gg
        try dsimp only at hI hK11
        obtain ⟨hF, hM, hz3, hz4⟩ := hI
        have hS : SmAt l k x y := by assumption
        have hS1 := hS.lo
        have hS2 := hS.lr
        refine wp_seq_k fun K12 hK12 => ?_
        refine wp_seq_k fun K13 hK13 => ?_
        refine wp_region_lit ?_
        refine sB 4 [(14, .int .i64 (k : Int)), (15, .slice A l.length c), (16, .int .i64 (l.length : Int)), (17, .bool (decide ((k : Int) < (l.length : Int))))] hF (by kernel_rfl) fun a hF => ?_
        refine wpList_nil ?_
        refine hK13 _ _ ?_
        by_cases hz5 : (k : Int) < (l.length : Int)
        · skip
          replace hF := hF.c hF (i := 17) (v := .bool true) rfl (bT hz5)
          refine cT hF (by kernel_rfl) (by kernel_rfl) ?_
          refine wp_skip ?_
          refine hK12 _ _ ?_
          refine wp_seq_k fun K14 hK14 => ?_
          refine wp_block ?_
          refine wp_seq_k fun K15 hK15 => ?_
          refine wp_seq_k fun K16 hK16 => ?_
          by_cases hz6 : bkE (pr l k).1 (pr l k).2 = 0
          · skip
            have hz7 := bkE_ok hz6
            refine wp_region_lit ?_
            refine sB 2 [(20, .slice A l.length c), (21, .int .i64 (k : Int))] hF (by kernel_rfl) fun a hF => ?_
            refine wl (eM 22 (v := .pointer (some (ea A (k * 2)))) hF hM (by kernel_rfl) (yld_ix (kd := .i64) (e := 23) (len := l.length) (cap := c) (i := (k : Int)) (size := 2) (A := A) hF rfl (by kernel_rfl) (by kernel_rfl) (by kernel_rfl) (by kernel_rfl) (by kernel_rfl) (roK 1 rfl) (by omega) (by omega) (by rw [flat2_length]; omega)) fun a w hF hM => ?_)
            refine wl (eM 23 (v := .agg #[.int .i64 (pr l k).1, .int .i64 (pr l k).2]) hF hM (by kernel_rfl) (yld_roM (A := A) (j := k * 2) (us := [.int .i64 (pr l k).1, .int .i64 (pr l k).2]) hF rfl (by kernel_rfl) (by kernel_rfl) (roK 1 rfl) (by kernel_rfl) rfl (pr_both (k := k) (by omega) (by omega))) fun a w hF hM => ?_)
            refine wl (eM 24 (v := .bool true) hF hM (by kernel_rfl) (yld_call (f := 32) (args := #[.agg #[.int .i64 (pr l k).1, .int .i64 (pr l k).2]]) hF (by kernel_rfl) (fun _ => by kernel_rfl) (fun w hM => right_yes (pr l k).1 (pr l k).2 w hz6)) fun a w hF hM => ?_)
            refine sB 1 [(25, .bool false)] hF (by kernel_rfl) fun a hF => ?_
            refine wpList_nil ?_
            refine hK16 _ _ ?_
            refine cF hF (by kernel_rfl) (by kernel_rfl) ?_
            refine wp_skip ?_
            refine hK15 _ _ ?_
            refine rF (by kernel_rfl) (by kernel_rfl) (fun S a w => Fr 50 [(0, some (.slice A l.length c)), (2, some (.pointer (some ⟨bb1, 0, none⟩))), (4, some (.pointer (some ⟨bb2, 0, none⟩))), (5, some (.int .i64 (k : Int))), (27, (cond (S.getD 0 false) (some (.pointer (some ⟨bb2, 0, none⟩))) none)), (28, (cond (S.getD 1 false) (some (.int .i64 x)) none)), (29, (cond (S.getD 2 false) (some (.slice A l.length c)) none)), (30, (cond (S.getD 3 false) (some (.int .i64 (k : Int))) none)), (31, (cond (S.getD 4 false) (some (.pointer (some (ea A (k * 2))))) none)), (32, (cond (S.getD 5 false) (some (.pointer (some (ea A (k * 2))))) none)), (33, (cond (S.getD 6 false) (some (.int .i64 (pr l k).1)) none)), (34, (cond (S.getD 7 false) (some (.int .i64 (x + (pr l k).1))) none)), (35, (cond (S.getD 8 false) (some (.pointer (some ⟨bb2, 1, none⟩))) none)), (36, (cond (S.getD 9 false) (some (.int .i64 y)) none)), (37, (cond (S.getD 10 false) (some (.slice A l.length c)) none)), (38, (cond (S.getD 11 false) (some (.int .i64 (k : Int))) none)), (39, (cond (S.getD 12 false) (some (.pointer (some (ea A (k * 2))))) none)), (40, (cond (S.getD 13 false) (some (.pointer (some (ea A (k * 2 + 1))))) none)), (41, (cond (S.getD 14 false) (some (.int .i64 (pr l k).2)) none)), (42, (cond (S.getD 15 false) (some (.int .i64 (y + (pr l k).2))) none)), (43, (cond (S.getD 16 false) (some (.pointer (some ⟨bb2, 0, none⟩))) none)), (44, (cond (S.getD 18 false) (some (.pointer (some ⟨bb2, 1, none⟩))) none))] a ∧ Mem w0.heap.size w0 [(1, some (.ro A (flat2 l))), (2, some (.row bb1 23 #[.int .i64 0, .int .i64 0])), (3, (cond (S.getD 19 false) (some (.row bb2 23 #[.int .i64 (x + (pr l k).1), .int .i64 (y + (pr l k).2)])) (cond (S.getD 17 false) (some (.row bb2 23 #[.int .i64 (x + (pr l k).1), .int .i64 y])) (some (.row bb2 23 #[.int .i64 x, .int .i64 y])))))] w) ?_ ?_ ?_
            · exact ⟨(((((((((((((((((((((((Fr.nil hF).co hF (i := 44) (by kernel_rfl)).co hF (i := 43) (by kernel_rfl)).co hF (i := 42) (by kernel_rfl)).co hF (i := 41) (by kernel_rfl)).co hF (i := 40) (by kernel_rfl)).co hF (i := 39) (by kernel_rfl)).co hF (i := 38) (by kernel_rfl)).co hF (i := 37) (by kernel_rfl)).co hF (i := 36) (by kernel_rfl)).co hF (i := 35) (by kernel_rfl)).co hF (i := 34) (by kernel_rfl)).co hF (i := 33) (by kernel_rfl)).co hF (i := 32) (by kernel_rfl)).co hF (i := 31) (by kernel_rfl)).co hF (i := 30) (by kernel_rfl)).co hF (i := 29) (by kernel_rfl)).co hF (i := 28) (by kernel_rfl)).co hF (i := 27) (by kernel_rfl)).co hF (i := 5) (by kernel_rfl)).co hF (i := 4) (by kernel_rfl)).co hF (i := 2) (by kernel_rfl)).co hF (i := 0) (by kernel_rfl)), hM.drew.sub (((Sub.nil.co (k := 3) (by kernel_rfl)).co (k := 2) (by kernel_rfl)).co (k := 1) (by kernel_rfl))⟩
            · refine stC ?_ (stC ?_ (stC ?_ (stC ?_ (stC ?_ (stC ?_ (stC ?_ (stC ?_ (stC ?_ (stC ?_ (stC ?_ (stC ?_ (stC ?_ (stC ?_ (stC ?_ (stC ?_ (stC ?_ (stC ?_ (stC ?_ (stC ?_ (trivial))))))))))))))))))))
              · intro s0 s1 s2 s3 s4 s5 s6 s7 s8 s9 s10 s11 s12 s13 s14 s15 s16 s17 s18 s19 hc hi hp a w hS
                obtain rfl : s0 = false := hi
                obtain rfl : s17 = false := hc.f 17 0 (by kernel_rfl) rfl
                obtain rfl : s19 = false := hc.f 19 0 (by kernel_rfl) rfl
                obtain ⟨hF, hM⟩ := hS
                refine eP 27 (v0 := .pointer (some ⟨bb2, 0, none⟩)) (v := .pointer (some ⟨bb2, 0, none⟩)) hF (by kernel_rfl) (fun _ => by kernel_rfl) rfl fun a hF => ?_
                exact ⟨((hF.repl 4 (by kernel_rfl)).cast (by kernel_rfl)), (hM.cast (by kernel_rfl))⟩
              · intro s0 s1 s2 s3 s4 s5 s6 s7 s8 s9 s10 s11 s12 s13 s14 s15 s16 s17 s18 s19 hc hi hp a w hS
                obtain rfl : s1 = false := hi
                obtain rfl : s0 = true := hp 0 (by kernel_rfl)
                obtain rfl : s17 = false := hc.f 17 1 (by kernel_rfl) rfl
                obtain rfl : s19 = false := hc.f 19 1 (by kernel_rfl) rfl
                obtain ⟨hF, hM⟩ := hS
                refine eL 28 3 0 (v := .int .i64 x) hF hM (by kernel_rfl) rfl rfl (by kernel_rfl) (by kernel_rfl) fun a w hF hM => ?_
                exact ⟨((hF.repl 5 (by kernel_rfl)).cast (by kernel_rfl)), (hM.cast (by kernel_rfl))⟩
              · intro s0 s1 s2 s3 s4 s5 s6 s7 s8 s9 s10 s11 s12 s13 s14 s15 s16 s17 s18 s19 hc hi hp a w hS
                obtain rfl : s2 = false := hi
                obtain ⟨hF, hM⟩ := hS
                refine eP 29 (v0 := .slice A l.length c) (v := .slice A l.length c) hF (by kernel_rfl) (fun _ => by kernel_rfl) rfl fun a hF => ?_
                exact ⟨((hF.repl 6 (by kernel_rfl)).cast (by kernel_rfl)), (hM.cast (by kernel_rfl))⟩
              · intro s0 s1 s2 s3 s4 s5 s6 s7 s8 s9 s10 s11 s12 s13 s14 s15 s16 s17 s18 s19 hc hi hp a w hS
                obtain rfl : s3 = false := hi
                obtain ⟨hF, hM⟩ := hS
                refine eP 30 (v0 := .int .i64 (k : Int)) (v := .int .i64 (k : Int)) hF (by kernel_rfl) (fun _ => by kernel_rfl) rfl fun a hF => ?_
                exact ⟨((hF.repl 7 (by kernel_rfl)).cast (by kernel_rfl)), (hM.cast (by kernel_rfl))⟩
              · intro s0 s1 s2 s3 s4 s5 s6 s7 s8 s9 s10 s11 s12 s13 s14 s15 s16 s17 s18 s19 hc hi hp a w hS
                obtain rfl : s4 = false := hi
                obtain rfl : s3 = true := hp 3 (by kernel_rfl)
                obtain rfl : s2 = true := hp 2 (by kernel_rfl)
                obtain ⟨hF, hM⟩ := hS
                refine eM 31 (v := .pointer (some (ea A (k * 2)))) hF hM (by kernel_rfl) (yld_ix (kd := .i64) (e := 23) (len := l.length) (cap := c) (i := (k : Int)) (size := 2) (A := A) hF rfl (by kernel_rfl) (by kernel_rfl) (by kernel_rfl) (by kernel_rfl) (by kernel_rfl) (roK 1 rfl) (by omega) (by omega) (by rw [flat2_length]; omega)) fun a w hF hM => ?_
                exact ⟨((hF.repl 8 (by kernel_rfl)).cast (by kernel_rfl)), (hM.cast (by kernel_rfl))⟩
              · intro s0 s1 s2 s3 s4 s5 s6 s7 s8 s9 s10 s11 s12 s13 s14 s15 s16 s17 s18 s19 hc hi hp a w hS
                obtain rfl : s5 = false := hi
                obtain rfl : s4 = true := hp 4 (by kernel_rfl)
                obtain ⟨hF, hM⟩ := hS
                refine eP 32 (v0 := .pointer (some (ea A (k * 2)))) (v := .pointer (some (ea A (k * 2)))) hF (by kernel_rfl) (fun _ => by kernel_rfl) rfl fun a hF => ?_
                exact ⟨((hF.repl 9 (by kernel_rfl)).cast (by kernel_rfl)), (hM.cast (by kernel_rfl))⟩
              · intro s0 s1 s2 s3 s4 s5 s6 s7 s8 s9 s10 s11 s12 s13 s14 s15 s16 s17 s18 s19 hc hi hp a w hS
                obtain rfl : s6 = false := hi
                obtain rfl : s5 = true := hp 5 (by kernel_rfl)
                obtain ⟨hF, hM⟩ := hS
                refine eM 33 (v := .int .i64 (pr l k).1) hF hM (by kernel_rfl) (yld_ro1 (A := A) (j := k * 2) hF rfl (by kernel_rfl) (by kernel_rfl) (roK 1 rfl) (by kernel_rfl) (pr_fst (k := k) (by omega) (by omega))) fun a w hF hM => ?_
                exact ⟨((hF.repl 10 (by kernel_rfl)).cast (by kernel_rfl)), (hM.cast (by kernel_rfl))⟩
              · intro s0 s1 s2 s3 s4 s5 s6 s7 s8 s9 s10 s11 s12 s13 s14 s15 s16 s17 s18 s19 hc hi hp a w hS
                obtain rfl : s7 = false := hi
                obtain rfl : s6 = true := hp 6 (by kernel_rfl)
                obtain rfl : s1 = true := hp 1 (by kernel_rfl)
                obtain ⟨hF, hM⟩ := hS
                refine eP 34 (v0 := .int .i64 (IntKind.i64.wrap (x + (pr l k).1))) (v := .int .i64 (x + (pr l k).1)) hF (by kernel_rfl) (fun _ => by kernel_rfl) (wi (by omega)) fun a hF => ?_
                exact ⟨((hF.repl 11 (by kernel_rfl)).cast (by kernel_rfl)), (hM.cast (by kernel_rfl))⟩
              · intro s0 s1 s2 s3 s4 s5 s6 s7 s8 s9 s10 s11 s12 s13 s14 s15 s16 s17 s18 s19 hc hi hp a w hS
                obtain rfl : s8 = false := hi
                obtain rfl : s17 = false := hc.f 17 8 (by kernel_rfl) rfl
                obtain rfl : s19 = false := hc.f 19 8 (by kernel_rfl) rfl
                obtain ⟨hF, hM⟩ := hS
                refine eP 35 (v0 := .pointer (some ⟨bb2, 1, none⟩)) (v := .pointer (some ⟨bb2, 1, none⟩)) hF (by kernel_rfl) (fun _ => by kernel_rfl) rfl fun a hF => ?_
                exact ⟨((hF.repl 12 (by kernel_rfl)).cast (by kernel_rfl)), (hM.cast (by kernel_rfl))⟩
              · intro s0 s1 s2 s3 s4 s5 s6 s7 s8 s9 s10 s11 s12 s13 s14 s15 s16 s17 s18 s19 hc hi hp a w hS
                obtain rfl : s9 = false := hi
                obtain rfl : s8 = true := hp 8 (by kernel_rfl)
                obtain rfl : s17 = false := hc.f 17 9 (by kernel_rfl) rfl
                obtain rfl : s19 = false := hc.f 19 9 (by kernel_rfl) rfl
                obtain ⟨hF, hM⟩ := hS
                refine eL 36 3 1 (v := .int .i64 y) hF hM (by kernel_rfl) rfl rfl (by kernel_rfl) (by kernel_rfl) fun a w hF hM => ?_
                exact ⟨((hF.repl 13 (by kernel_rfl)).cast (by kernel_rfl)), (hM.cast (by kernel_rfl))⟩
              · intro s0 s1 s2 s3 s4 s5 s6 s7 s8 s9 s10 s11 s12 s13 s14 s15 s16 s17 s18 s19 hc hi hp a w hS
                obtain rfl : s10 = false := hi
                obtain ⟨hF, hM⟩ := hS
                refine eP 37 (v0 := .slice A l.length c) (v := .slice A l.length c) hF (by kernel_rfl) (fun _ => by kernel_rfl) rfl fun a hF => ?_
                exact ⟨((hF.repl 14 (by kernel_rfl)).cast (by kernel_rfl)), (hM.cast (by kernel_rfl))⟩
              · intro s0 s1 s2 s3 s4 s5 s6 s7 s8 s9 s10 s11 s12 s13 s14 s15 s16 s17 s18 s19 hc hi hp a w hS
                obtain rfl : s11 = false := hi
                obtain ⟨hF, hM⟩ := hS
                refine eP 38 (v0 := .int .i64 (k : Int)) (v := .int .i64 (k : Int)) hF (by kernel_rfl) (fun _ => by kernel_rfl) rfl fun a hF => ?_
                exact ⟨((hF.repl 15 (by kernel_rfl)).cast (by kernel_rfl)), (hM.cast (by kernel_rfl))⟩
              · intro s0 s1 s2 s3 s4 s5 s6 s7 s8 s9 s10 s11 s12 s13 s14 s15 s16 s17 s18 s19 hc hi hp a w hS
                obtain rfl : s12 = false := hi
                obtain rfl : s11 = true := hp 11 (by kernel_rfl)
                obtain rfl : s10 = true := hp 10 (by kernel_rfl)
                obtain ⟨hF, hM⟩ := hS
                refine eM 39 (v := .pointer (some (ea A (k * 2)))) hF hM (by kernel_rfl) (yld_ix (kd := .i64) (e := 23) (len := l.length) (cap := c) (i := (k : Int)) (size := 2) (A := A) hF rfl (by kernel_rfl) (by kernel_rfl) (by kernel_rfl) (by kernel_rfl) (by kernel_rfl) (roK 1 rfl) (by omega) (by omega) (by rw [flat2_length]; omega)) fun a w hF hM => ?_
                exact ⟨((hF.repl 16 (by kernel_rfl)).cast (by kernel_rfl)), (hM.cast (by kernel_rfl))⟩
              · intro s0 s1 s2 s3 s4 s5 s6 s7 s8 s9 s10 s11 s12 s13 s14 s15 s16 s17 s18 s19 hc hi hp a w hS
                obtain rfl : s13 = false := hi
                obtain rfl : s12 = true := hp 12 (by kernel_rfl)
                obtain ⟨hF, hM⟩ := hS
                refine eP 40 (v0 := .pointer (some (ea A (k * 2 + 1)))) (v := .pointer (some (ea A (k * 2 + 1)))) hF (by kernel_rfl) (fun _ => by kernel_rfl) rfl fun a hF => ?_
                exact ⟨((hF.repl 17 (by kernel_rfl)).cast (by kernel_rfl)), (hM.cast (by kernel_rfl))⟩
              · intro s0 s1 s2 s3 s4 s5 s6 s7 s8 s9 s10 s11 s12 s13 s14 s15 s16 s17 s18 s19 hc hi hp a w hS
                obtain rfl : s14 = false := hi
                obtain rfl : s13 = true := hp 13 (by kernel_rfl)
                obtain ⟨hF, hM⟩ := hS
                refine eM 41 (v := .int .i64 (pr l k).2) hF hM (by kernel_rfl) (yld_ro1 (A := A) (j := k * 2 + 1) hF rfl (by kernel_rfl) (by kernel_rfl) (roK 1 rfl) (by kernel_rfl) (pr_snd (k := k) (by omega) (by omega))) fun a w hF hM => ?_
                exact ⟨((hF.repl 18 (by kernel_rfl)).cast (by kernel_rfl)), (hM.cast (by kernel_rfl))⟩
              · intro s0 s1 s2 s3 s4 s5 s6 s7 s8 s9 s10 s11 s12 s13 s14 s15 s16 s17 s18 s19 hc hi hp a w hS
                obtain rfl : s15 = false := hi
                obtain rfl : s14 = true := hp 14 (by kernel_rfl)
                obtain rfl : s9 = true := hp 9 (by kernel_rfl)
                obtain ⟨hF, hM⟩ := hS
                refine eP 42 (v0 := .int .i64 (IntKind.i64.wrap (y + (pr l k).2))) (v := .int .i64 (y + (pr l k).2)) hF (by kernel_rfl) (fun _ => by kernel_rfl) (wi (by omega)) fun a hF => ?_
                exact ⟨((hF.repl 19 (by kernel_rfl)).cast (by kernel_rfl)), (hM.cast (by kernel_rfl))⟩
              · intro s0 s1 s2 s3 s4 s5 s6 s7 s8 s9 s10 s11 s12 s13 s14 s15 s16 s17 s18 s19 hc hi hp a w hS
                obtain rfl : s16 = false := hi
                obtain rfl : s17 = false := hc.f 17 16 (by kernel_rfl) rfl
                obtain rfl : s19 = false := hc.f 19 16 (by kernel_rfl) rfl
                obtain ⟨hF, hM⟩ := hS
                refine eP 43 (v0 := .pointer (some ⟨bb2, 0, none⟩)) (v := .pointer (some ⟨bb2, 0, none⟩)) hF (by kernel_rfl) (fun _ => by kernel_rfl) rfl fun a hF => ?_
                exact ⟨((hF.repl 20 (by kernel_rfl)).cast (by kernel_rfl)), (hM.cast (by kernel_rfl))⟩
              · intro s0 s1 s2 s3 s4 s5 s6 s7 s8 s9 s10 s11 s12 s13 s14 s15 s16 s17 s18 s19 hc hi hp a w hS
                obtain rfl : s17 = false := hi
                obtain rfl : s16 = true := hp 16 (by kernel_rfl)
                obtain rfl : s7 = true := hp 7 (by kernel_rfl)
                obtain rfl : s19 = false := hc.f 19 17 (by kernel_rfl) rfl
                obtain ⟨hF, hM⟩ := hS
                refine sStore (i := 3) (off := 0) (cs' := #[.int .i64 (x + (pr l k).1), .int .i64 y]) hF hM (by kernel_rfl) rfl rfl (by kernel_rfl) (by kernel_rfl) rfl (by kernel_rfl) fun w hM => ?_
                exact ⟨(hF.cast (by kernel_rfl)), ((hM.repl 2 (by kernel_rfl)).cast (by kernel_rfl))⟩
              · intro s0 s1 s2 s3 s4 s5 s6 s7 s8 s9 s10 s11 s12 s13 s14 s15 s16 s17 s18 s19 hc hi hp a w hS
                obtain rfl : s18 = false := hi
                obtain rfl : s17 = true := hp 17 (by kernel_rfl)
                obtain rfl : s19 = false := hc.f 19 18 (by kernel_rfl) rfl
                obtain ⟨hF, hM⟩ := hS
                refine eP 44 (v0 := .pointer (some ⟨bb2, 1, none⟩)) (v := .pointer (some ⟨bb2, 1, none⟩)) hF (by kernel_rfl) (fun _ => by kernel_rfl) rfl fun a hF => ?_
                exact ⟨((hF.repl 21 (by kernel_rfl)).cast (by kernel_rfl)), (hM.cast (by kernel_rfl))⟩
              · intro s0 s1 s2 s3 s4 s5 s6 s7 s8 s9 s10 s11 s12 s13 s14 s15 s16 s17 s18 s19 hc hi hp a w hS
                obtain rfl : s19 = false := hi
                obtain rfl : s18 = true := hp 18 (by kernel_rfl)
                obtain rfl : s17 = true := hp 17 (by kernel_rfl)
                obtain rfl : s15 = true := hp 15 (by kernel_rfl)
                obtain ⟨hF, hM⟩ := hS
                refine sStore (i := 3) (off := 1) (cs' := #[.int .i64 (x + (pr l k).1), .int .i64 (y + (pr l k).2)]) hF hM (by kernel_rfl) rfl rfl (by kernel_rfl) (by kernel_rfl) rfl (by kernel_rfl) fun w hM => ?_
                exact ⟨(hF.cast (by kernel_rfl)), ((hM.repl 2 (by kernel_rfl)).cast (by kernel_rfl))⟩
            · intro a w hS
              obtain ⟨hF, hM⟩ := hS
              replace hF : Fr 50 [(0, some (.slice A l.length c)), (2, some (.pointer (some ⟨bb1, 0, none⟩))), (4, some (.pointer (some ⟨bb2, 0, none⟩))), (5, some (.int .i64 (k : Int))), (27, some (.pointer (some ⟨bb2, 0, none⟩))), (28, some (.int .i64 x)), (29, some (.slice A l.length c)), (30, some (.int .i64 (k : Int))), (31, some (.pointer (some (ea A (k * 2))))), (32, some (.pointer (some (ea A (k * 2))))), (33, some (.int .i64 (pr l k).1)), (34, some (.int .i64 (x + (pr l k).1))), (35, some (.pointer (some ⟨bb2, 1, none⟩))), (36, some (.int .i64 y)), (37, some (.slice A l.length c)), (38, some (.int .i64 (k : Int))), (39, some (.pointer (some (ea A (k * 2))))), (40, some (.pointer (some (ea A (k * 2 + 1))))), (41, some (.int .i64 (pr l k).2)), (42, some (.int .i64 (y + (pr l k).2))), (43, some (.pointer (some ⟨bb2, 0, none⟩))), (44, some (.pointer (some ⟨bb2, 1, none⟩)))] a := hF.cast (by kernel_rfl)
              replace hM : Mem w0.heap.size w0 [(1, some (.ro A (flat2 l))), (2, some (.row bb1 23 #[.int .i64 0, .int .i64 0])), (3, some (.row bb2 23 #[.int .i64 (x + (pr l k).1), .int .i64 (y + (pr l k).2)]))] w := hM.cast (by kernel_rfl)
              refine hK14 _ _ ?_
              refine wp_region_lit ?_
              refine sB 1 [(18, .int .i64 (k : Int))] hF (by kernel_rfl) fun a hF => ?_
              refine wl (eP 19 (v0 := .int .i64 (IntKind.i64.wrap ((k : Int) + 1))) (v := .int .i64 ((k : Int) + 1)) hF (by kernel_rfl) (fun _ => by kernel_rfl) (wi (by omega)) fun a hF => ?_)
              refine sB 1 [(5, .int .i64 ((k : Int) + 1))] hF (by kernel_rfl) fun a hF => ?_
              refine wpList_nil ?_
              have hnx := hS.next (by omega) hz6
              refine hK11 _ _ ⟨(k + 1, x + (pr l k).1, y + (pr l k).2), ⟨(((((Fr.nil hF).c hF (i := 4) rfl rfl).c hF (i := 2) rfl rfl).c hF (i := 0) rfl rfl).c hF (i := 5) rfl (vi (show ((k : Int) + 1 : Int) = ((k + 1) : Int) from by omega))), (hM.sub (((Sub.nil.c (k := 3) rfl rfl).c (k := 2) rfl rfl).c (k := 1) rfl rfl)), (show ((k + 1) : Int) ≤ (l.length : Int) from by omega), (show SmAt l (k + 1) (x + (pr l k).1) (y + (pr l k).2) from by exact hnx)⟩, (show l.length - (k + 1) < l.length - k from by omega)⟩
          · skip
            refine wp_region_lit ?_
            refine sB 2 [(20, .slice A l.length c), (21, .int .i64 (k : Int))] hF (by kernel_rfl) fun a hF => ?_
            refine wl (eM 22 (v := .pointer (some (ea A (k * 2)))) hF hM (by kernel_rfl) (yld_ix (kd := .i64) (e := 23) (len := l.length) (cap := c) (i := (k : Int)) (size := 2) (A := A) hF rfl (by kernel_rfl) (by kernel_rfl) (by kernel_rfl) (by kernel_rfl) (by kernel_rfl) (roK 1 rfl) (by omega) (by omega) (by rw [flat2_length]; omega)) fun a w hF hM => ?_)
            refine wl (eM 23 (v := .agg #[.int .i64 (pr l k).1, .int .i64 (pr l k).2]) hF hM (by kernel_rfl) (yld_roM (A := A) (j := k * 2) (us := [.int .i64 (pr l k).1, .int .i64 (pr l k).2]) hF rfl (by kernel_rfl) (by kernel_rfl) (roK 1 rfl) (by kernel_rfl) rfl (pr_both (k := k) (by omega) (by omega))) fun a w hF hM => ?_)
            refine wl (eM 24 (v := .bool false) hF hM (by kernel_rfl) (yld_call (f := 32) (args := #[.agg #[.int .i64 (pr l k).1, .int .i64 (pr l k).2]]) hF (by kernel_rfl) (fun _ => by kernel_rfl) (fun w hM => right_no (pr l k).1 (pr l k).2 w hz6)) fun a w hF hM => ?_)
            refine sB 1 [(25, .bool true)] hF (by kernel_rfl) fun a hF => ?_
            refine wpList_nil ?_
            refine hK16 _ _ ?_
            refine cT hF (by kernel_rfl) (by kernel_rfl) ?_
            refine wp_seq_k fun K17 hK17 => ?_
            refine wp_region_lit ?_
            refine sB 1 [(26, .agg #[.int .i64 0, .int .i64 0])] hF (by kernel_rfl) fun a hF => ?_
            refine wl (sStore (i := 2) (off := 0) (cs' := #[.int .i64 0, .int .i64 0]) hF hM (by kernel_rfl) rfl rfl (by kernel_rfl) (by kernel_rfl) rfl (by kernel_rfl) fun w hM => ?_)
            refine sB 1 [(3, .int .i64 130)] hF (by kernel_rfl) fun a hF => ?_
            refine wpList_nil ?_
            refine hK17 _ _ ?_
            refine wp_ret ?_
            refine hR0 _ _ ?_
            refine ret_of hF hM (.cell (i := 2) rfl rfl (v := .agg #[.int .i64 0, .int .i64 0]) (by kernel_rfl) (.tmp rfl (.nil))) ?_
            have hd := sm_no (SmAt.bad (l := l) (k := k) (by omega) (by omega) hz6) (by decide)
            exact ⟨ret_eq (by rw [hd.1, hd.2.1, hd.2.2]; rfl), hM.bel⟩
        · skip
          replace hF := hF.c hF (i := 17) (v := .bool false) rfl (bF hz5)
          refine cF hF (by kernel_rfl) (by kernel_rfl) ?_
          refine wp_exit ?_
          refine hK9 _ _ ?_
          refine wp_seq_k fun K18 hK18 => ?_
          refine wp_seq_k fun K19 hK19 => ?_
          by_cases hz8 : bkE x y = 0
          · skip
            have hz9 := bkE_ok hz8
            refine wp_region_lit ?_
            refine wl (eL 45 3 0 (v := .agg #[.int .i64 x, .int .i64 y]) hF hM (by kernel_rfl) rfl rfl (by kernel_rfl) (by kernel_rfl) fun a w hF hM => ?_)
            refine wl (eM 46 (v := .bool true) hF hM (by kernel_rfl) (yld_call (f := 32) (args := #[.agg #[.int .i64 x, .int .i64 y]]) hF (by kernel_rfl) (fun _ => by kernel_rfl) (fun w hM => right_yes x y w hz8)) fun a w hF hM => ?_)
            refine sB 1 [(47, .bool false)] hF (by kernel_rfl) fun a hF => ?_
            refine wpList_nil ?_
            refine hK19 _ _ ?_
            refine cF hF (by kernel_rfl) (by kernel_rfl) ?_
            refine wp_skip ?_
            refine hK18 _ _ ?_
            refine wp_seq_k fun K20 hK20 => ?_
            refine wp_region_lit ?_
            refine wl (eL 49 3 0 (v := .agg #[.int .i64 x, .int .i64 y]) hF hM (by kernel_rfl) rfl rfl (by kernel_rfl) (by kernel_rfl) fun a w hF hM => ?_)
            refine wl (sStore (i := 2) (off := 0) (cs' := #[.int .i64 x, .int .i64 y]) hF hM (by kernel_rfl) rfl rfl (by kernel_rfl) (by kernel_rfl) rfl (by kernel_rfl) fun w hM => ?_)
            refine sB 1 [(3, .int .i64 0)] hF (by kernel_rfl) fun a hF => ?_
            refine wpList_nil ?_
            refine hK20 _ _ ?_
            refine wp_ret ?_
            refine hR0 _ _ ?_
            refine ret_of hF hM (.cell (i := 2) rfl rfl (v := .agg #[.int .i64 x, .int .i64 y]) (by kernel_rfl) (.tmp rfl (.nil))) ?_
            have hdn := hS.done (by omega) (by omega) (by omega)
            rw [if_pos hz8] at hdn
            have hd := sm_yes hdn.1
            exact ⟨ret_eq (by rw [hd.1, hd.2.1, hd.2.2, hdn.2.1, hdn.2.2]; rfl), hM.bel⟩
          · skip
            refine wp_region_lit ?_
            refine wl (eL 45 3 0 (v := .agg #[.int .i64 x, .int .i64 y]) hF hM (by kernel_rfl) rfl rfl (by kernel_rfl) (by kernel_rfl) fun a w hF hM => ?_)
            refine wl (eM 46 (v := .bool false) hF hM (by kernel_rfl) (yld_call (f := 32) (args := #[.agg #[.int .i64 x, .int .i64 y]]) hF (by kernel_rfl) (fun _ => by kernel_rfl) (fun w hM => right_no x y w hz8)) fun a w hF hM => ?_)
            refine sB 1 [(47, .bool true)] hF (by kernel_rfl) fun a hF => ?_
            refine wpList_nil ?_
            refine hK19 _ _ ?_
            refine cT hF (by kernel_rfl) (by kernel_rfl) ?_
            refine wp_seq_k fun K21 hK21 => ?_
            refine wp_region_lit ?_
            refine sB 1 [(48, .agg #[.int .i64 0, .int .i64 0])] hF (by kernel_rfl) fun a hF => ?_
            refine wl (sStore (i := 2) (off := 0) (cs' := #[.int .i64 0, .int .i64 0]) hF hM (by kernel_rfl) rfl rfl (by kernel_rfl) (by kernel_rfl) rfl (by kernel_rfl) fun w hM => ?_)
            refine sB 1 [(3, .int .i64 6)] hF (by kernel_rfl) fun a hF => ?_
            refine wpList_nil ?_
            refine hK21 _ _ ?_
            refine wp_ret ?_
            refine hR0 _ _ ?_
            refine ret_of hF hM (.cell (i := 2) rfl rfl (v := .agg #[.int .i64 0, .int .i64 0]) (by kernel_rfl) (.tmp rfl (.nil))) ?_
            have hdn := hS.done (by omega) (by omega) (by omega)
            rw [if_neg hz8] at hdn
            have hd := sm_no hdn.1 (by decide)
            exact ⟨ret_eq (by rw [hd.1, hd.2.1, hd.2.2]; rfl), hM.bel⟩

theorem bFirst_w (b r : Int) (A : Option Addr) (l : List (Int × Int)) (c : Nat) (w0 : World) (hA : Ro w0 A (flat2 l)) :
    Calls Try.prog 25 #[.agg #[.int .i64 b, .int .i64 r], .slice A l.length c] w0 (Ret w0 (.tuple #[.int .i64 (fiV b r l), .int .i64 (ckE b r l)])) := by
  refine enterK 16 Try.func25 rfl rfl rfl ?_
  intro a hF Q0 hR0 hN0
  have hM := Mem.start w0
  replace hM := hM.addOld 1 hA (Nat.le_refl _)
  refine wp_seq_k fun K1 hK1 => ?_
  refine wp_region_lit ?_
  refine wl (eN 2 2 (t := 23) (fun b => .pointer (some ⟨b, 0, none⟩)) #[.int .i64 b, .int .i64 r] hF hM (by kernel_rfl) (fun _ => by kernel_rfl) fun bb1 a w hF hM => ?_)
  refine sB 2 [(4, .int .i64 0), (5, .int .i64 0)] hF (by kernel_rfl) fun a hF => ?_
  refine wpList_nil ?_
  refine hK1 _ _ ?_
  refine wp_seq_k fun K2 hK2 => ?_
  refine wp_seq_k fun K3 hK3 => ?_
  refine wp_region_lit ?_
  refine wl (eL 7 2 0 (v := .agg #[.int .i64 b, .int .i64 r]) hF hM (by kernel_rfl) rfl rfl (by kernel_rfl) (by kernel_rfl) fun a w hF hM => ?_)
  refine sB 1 [(8, .slice A l.length c)] hF (by kernel_rfl) fun a hF => ?_
  refine wl (eM 9 (v := .int .i64 (ckE b r l)) hF hM (by kernel_rfl) (yld_call (f := 37) (args := #[.agg #[.int .i64 b, .int .i64 r], .slice A l.length c]) hF (by kernel_rfl) (fun _ => by kernel_rfl) (fun w hM => bkcheck_w b r A l _ w (hM.ok 1 _ rfl))) fun a w hF hM => ?_)
  refine sB 1 [(6, .int .i64 (ckE b r l))] hF (by kernel_rfl) fun a hF => ?_
  refine wpList_nil ?_
  refine hK3 _ _ ?_
  refine wp_seq_k fun K4 hK4 => ?_
  refine wp_region_lit ?_
  refine sB 2 [(10, .int .i64 (ckE b r l)), (11, .bool (!decide (ckE b r l = 0)))] hF (by kernel_rfl) fun a hF => ?_
  refine wpList_nil ?_
  refine hK4 _ _ ?_
  by_cases hz1 : ckE b r l = 0
  · skip
    replace hF := hF.c hF (i := 11) (v := .bool false) rfl (nT hz1)
    refine cF hF (by kernel_rfl) (by kernel_rfl) ?_
    refine wp_skip ?_
    refine hK2 _ _ ?_
    refine wp_seq_k fun K5 hK5 => ?_
    refine wp_region_lit ?_
    refine wl (eL 13 2 0 (v := .agg #[.int .i64 b, .int .i64 r]) hF hM (by kernel_rfl) rfl rfl (by kernel_rfl) (by kernel_rfl) fun a w hF hM => ?_)
    refine sB 1 [(14, .slice A l.length c)] hF (by kernel_rfl) fun a hF => ?_
    refine wl (eM 15 (v := .int .i64 (firstI b r l)) hF hM (by kernel_rfl) (yld_call (f := 38) (args := #[.agg #[.int .i64 b, .int .i64 r], .slice A l.length c]) hF (by kernel_rfl) (fun _ => by kernel_rfl) (fun w hM => first_w b r A l _ w (ckE_bk hz1) (ckE_tr hz1) (Ro.arr2 (hM.ok 1 _ rfl)))) fun a w hF hM => ?_)
    refine sB 2 [(4, .int .i64 (firstI b r l)), (5, .int .i64 0)] hF (by kernel_rfl) fun a hF => ?_
    refine wpList_nil ?_
    refine hK5 _ _ ?_
    refine wp_ret ?_
    refine hR0 _ _ ?_
    refine ret_of hF hM (.tmp rfl (.tmp rfl (.nil))) ?_
    exact ⟨ret_eq (by rw [fiV_yes hz1, hz1]; rfl), hM.bel⟩
  · skip
    replace hF := hF.c hF (i := 11) (v := .bool true) rfl (nF hz1)
    refine cT hF (by kernel_rfl) (by kernel_rfl) ?_
    refine wp_seq_k fun K6 hK6 => ?_
    refine wp_region_lit ?_
    refine sB 3 [(12, .int .i64 (ckE b r l)), (4, .int .i64 0), (5, .int .i64 (ckE b r l))] hF (by kernel_rfl) fun a hF => ?_
    refine wpList_nil ?_
    refine hK6 _ _ ?_
    refine wp_ret ?_
    refine hR0 _ _ ?_
    refine ret_of hF hM (.tmp rfl (.tmp rfl (.nil))) ?_
    exact ⟨ret_eq (by rw [fiV_no hz1]; rfl), hM.bel⟩

theorem rCheck_w (b r : Int) (w0 : World) :
    Calls Try.prog 16 #[.agg #[.int .i64 b, .int .i64 r]] w0 (Ret w0 (.int .i64 (bkE b r))) := by
  refine enterK 6 Try.func16 rfl rfl rfl ?_
  intro a hF Q0 hR0 hN0
  have hM := Mem.start w0
  refine wp_seq_k fun K1 hK1 => ?_
  refine wp_region_lit ?_
  refine wl (eN 1 1 (t := 23) (fun b => .pointer (some ⟨b, 0, none⟩)) #[.int .i64 b, .int .i64 r] hF hM (by kernel_rfl) (fun _ => by kernel_rfl) fun bb1 a w hF hM => ?_)
  refine sB 1 [(2, .int .i64 0)] hF (by kernel_rfl) fun a hF => ?_
  refine wpList_nil ?_
  refine hK1 _ _ ?_
  refine wp_seq_k fun K2 hK2 => ?_
  refine wp_seq_k fun K3 hK3 => ?_
  by_cases hz1 : bkE b r = 0
  · skip
    have hz2 := bkE_ok hz1
    refine wp_region_lit ?_
    refine wl (eL 3 1 0 (v := .agg #[.int .i64 b, .int .i64 r]) hF hM (by kernel_rfl) rfl rfl (by kernel_rfl) (by kernel_rfl) fun a w hF hM => ?_)
    refine wl (eM 4 (v := .bool true) hF hM (by kernel_rfl) (yld_call (f := 32) (args := #[.agg #[.int .i64 b, .int .i64 r]]) hF (by kernel_rfl) (fun _ => by kernel_rfl) (fun w hM => right_yes b r w hz1)) fun a w hF hM => ?_)
    refine sB 1 [(5, .bool false)] hF (by kernel_rfl) fun a hF => ?_
    refine wpList_nil ?_
    refine hK3 _ _ ?_
    refine cF hF (by kernel_rfl) (by kernel_rfl) ?_
    refine wp_skip ?_
    refine hK2 _ _ ?_
    refine wp_seq_k fun K4 hK4 => ?_
    refine wp_region_lit ?_
    refine sB 1 [(2, .int .i64 0)] hF (by kernel_rfl) fun a hF => ?_
    refine wpList_nil ?_
    refine hK4 _ _ ?_
    refine wp_ret ?_
    refine hR0 _ _ ?_
    refine ret_of hF hM (.tmp rfl (.nil)) ?_
    exact ⟨ret_int (by exact hz1.symm), hM.bel⟩
  · skip
    refine wp_region_lit ?_
    refine wl (eL 3 1 0 (v := .agg #[.int .i64 b, .int .i64 r]) hF hM (by kernel_rfl) rfl rfl (by kernel_rfl) (by kernel_rfl) fun a w hF hM => ?_)
    refine wl (eM 4 (v := .bool false) hF hM (by kernel_rfl) (yld_call (f := 32) (args := #[.agg #[.int .i64 b, .int .i64 r]]) hF (by kernel_rfl) (fun _ => by kernel_rfl) (fun w hM => right_no b r w hz1)) fun a w hF hM => ?_)
    refine sB 1 [(5, .bool true)] hF (by kernel_rfl) fun a hF => ?_
    refine wpList_nil ?_
    refine hK3 _ _ ?_
    refine cT hF (by kernel_rfl) (by kernel_rfl) ?_
    refine wp_seq_k fun K5 hK5 => ?_
    refine wp_region_lit ?_
    refine sB 1 [(2, .int .i64 130)] hF (by kernel_rfl) fun a hF => ?_
    refine wpList_nil ?_
    refine hK5 _ _ ?_
    refine wp_ret ?_
    refine hR0 _ _ ?_
    refine ret_of hF hM (.tmp rfl (.nil)) ?_
    exact ⟨ret_int (by exact (bkE_no hz1).symm), hM.bel⟩

theorem rCheckTrace_w (A : Option Addr) (l : List (Int × Int)) (c : Nat) (w0 : World) (hA : Ro w0 A (flat2 l)) :
    Calls Try.prog 20 #[.slice A l.length c] w0 (Ret w0 (.int .i64 (trE l))) := by
  refine enterK 6 Try.func20 rfl rfl rfl ?_
  intro a hF Q0 hR0 hN0
  have hM := Mem.start w0
  replace hM := hM.addOld 1 hA (Nat.le_refl _)
  refine wp_seq_k fun K1 hK1 => ?_
  refine wp_region_lit ?_
  refine sB 1 [(2, .int .i64 0)] hF (by kernel_rfl) fun a hF => ?_
  refine wpList_nil ?_
  refine hK1 _ _ ?_
  refine wp_seq_k fun K2 hK2 => ?_
  refine wp_seq_k fun K3 hK3 => ?_
  cases hz1 : (trB l)
  · skip
    refine wp_region_lit ?_
    refine sB 1 [(3, .slice A l.length c)] hF (by kernel_rfl) fun a hF => ?_
    refine wl (eM 4 (v := .bool false) hF hM (by kernel_rfl) (Yld.to (yld_call (f := 35) (args := #[.slice A l.length c]) hF (by kernel_rfl) (fun _ => by kernel_rfl) (fun w hM => rightTrace_w A l _ w (hM.ok 1 _ rfl))) (congrArg Value.bool hz1)) fun a w hF hM => ?_)
    refine sB 1 [(5, .bool true)] hF (by kernel_rfl) fun a hF => ?_
    refine wpList_nil ?_
    refine hK3 _ _ ?_
    refine cT hF (by kernel_rfl) (by kernel_rfl) ?_
    refine wp_seq_k fun K4 hK4 => ?_
    refine wp_region_lit ?_
    refine sB 1 [(2, .int .i64 131)] hF (by kernel_rfl) fun a hF => ?_
    refine wpList_nil ?_
    refine hK4 _ _ ?_
    refine wp_ret ?_
    refine hR0 _ _ ?_
    refine ret_of hF hM (.tmp rfl (.nil)) ?_
    exact ⟨ret_int (by unfold trE; rw [hz1]; rfl), hM.bel⟩
  · skip
    refine wp_region_lit ?_
    refine sB 1 [(3, .slice A l.length c)] hF (by kernel_rfl) fun a hF => ?_
    refine wl (eM 4 (v := .bool true) hF hM (by kernel_rfl) (Yld.to (yld_call (f := 35) (args := #[.slice A l.length c]) hF (by kernel_rfl) (fun _ => by kernel_rfl) (fun w hM => rightTrace_w A l _ w (hM.ok 1 _ rfl))) (congrArg Value.bool hz1)) fun a w hF hM => ?_)
    refine sB 1 [(5, .bool false)] hF (by kernel_rfl) fun a hF => ?_
    refine wpList_nil ?_
    refine hK3 _ _ ?_
    refine cF hF (by kernel_rfl) (by kernel_rfl) ?_
    refine wp_skip ?_
    refine hK2 _ _ ?_
    refine wp_seq_k fun K5 hK5 => ?_
    refine wp_region_lit ?_
    refine sB 1 [(2, .int .i64 0)] hF (by kernel_rfl) fun a hF => ?_
    refine wpList_nil ?_
    refine hK5 _ _ ?_
    refine wp_ret ?_
    refine hR0 _ _ ?_
    refine ret_of hF hM (.tmp rfl (.nil)) ?_
    exact ⟨ret_int (by unfold trE; rw [hz1]; rfl), hM.bel⟩

theorem rBoth_w (b r : Int) (A : Option Addr) (l : List (Int × Int)) (c : Nat) (w0 : World) (hA : Ro w0 A (flat2 l)) :
    Calls Try.prog 39 #[.agg #[.int .i64 b, .int .i64 r], .slice A l.length c] w0 (Ret w0 (.int .i64 (ckE b r l))) := by
  refine enterK 10 Try.func39 rfl rfl rfl ?_
  intro a hF Q0 hR0 hN0
  have hM := Mem.start w0
  replace hM := hM.addOld 1 hA (Nat.le_refl _)
  refine wp_seq_k fun K1 hK1 => ?_
  refine wp_region_lit ?_
  refine wl (eN 2 2 (t := 23) (fun b => .pointer (some ⟨b, 0, none⟩)) #[.int .i64 b, .int .i64 r] hF hM (by kernel_rfl) (fun _ => by kernel_rfl) fun bb1 a w hF hM => ?_)
  refine sB 1 [(4, .int .i64 0)] hF (by kernel_rfl) fun a hF => ?_
  refine wpList_nil ?_
  refine hK1 _ _ ?_
  refine wp_seq_k fun K2 hK2 => ?_
  refine wp_seq_k fun K3 hK3 => ?_
  by_cases hz1 : bkE b r = 0
  · skip
    have hz2 := bkE_ok hz1
    refine wp_region_lit ?_
    refine wl (eL 5 2 0 (v := .agg #[.int .i64 b, .int .i64 r]) hF hM (by kernel_rfl) rfl rfl (by kernel_rfl) (by kernel_rfl) fun a w hF hM => ?_)
    refine wl (eM 6 (v := .bool true) hF hM (by kernel_rfl) (yld_call (f := 32) (args := #[.agg #[.int .i64 b, .int .i64 r]]) hF (by kernel_rfl) (fun _ => by kernel_rfl) (fun w hM => right_yes b r w hz1)) fun a w hF hM => ?_)
    refine sB 1 [(7, .bool false)] hF (by kernel_rfl) fun a hF => ?_
    refine wpList_nil ?_
    refine hK3 _ _ ?_
    refine cF hF (by kernel_rfl) (by kernel_rfl) ?_
    refine wp_skip ?_
    refine hK2 _ _ ?_
    refine wp_seq_k fun K4 hK4 => ?_
    refine wp_region_lit ?_
    refine sB 1 [(8, .slice A l.length c)] hF (by kernel_rfl) fun a hF => ?_
    refine wl (eM 9 (v := .int .i64 (trE l)) hF hM (by kernel_rfl) (yld_call (f := 20) (args := #[.slice A l.length c]) hF (by kernel_rfl) (fun _ => by kernel_rfl) (fun w hM => rCheckTrace_w A l _ w (hM.ok 1 _ rfl))) fun a w hF hM => ?_)
    refine sB 1 [(4, .int .i64 (trE l))] hF (by kernel_rfl) fun a hF => ?_
    refine wpList_nil ?_
    refine hK4 _ _ ?_
    refine wp_ret ?_
    refine hR0 _ _ ?_
    refine ret_of hF hM (.tmp rfl (.nil)) ?_
    exact ⟨ret_int (by unfold ckE; rw [if_pos hz1]), hM.bel⟩
  · skip
    refine wp_region_lit ?_
    refine wl (eL 5 2 0 (v := .agg #[.int .i64 b, .int .i64 r]) hF hM (by kernel_rfl) rfl rfl (by kernel_rfl) (by kernel_rfl) fun a w hF hM => ?_)
    refine wl (eM 6 (v := .bool false) hF hM (by kernel_rfl) (yld_call (f := 32) (args := #[.agg #[.int .i64 b, .int .i64 r]]) hF (by kernel_rfl) (fun _ => by kernel_rfl) (fun w hM => right_no b r w hz1)) fun a w hF hM => ?_)
    refine sB 1 [(7, .bool true)] hF (by kernel_rfl) fun a hF => ?_
    refine wpList_nil ?_
    refine hK3 _ _ ?_
    refine cT hF (by kernel_rfl) (by kernel_rfl) ?_
    refine wp_seq_k fun K5 hK5 => ?_
    refine wp_region_lit ?_
    refine sB 1 [(4, .int .i64 130)] hF (by kernel_rfl) fun a hF => ?_
    refine wpList_nil ?_
    refine hK5 _ _ ?_
    refine wp_ret ?_
    refine hR0 _ _ ?_
    refine ret_of hF hM (.tmp rfl (.nil)) ?_
    exact ⟨ret_int (by unfold ckE; rw [if_neg hz1]), hM.bel⟩

theorem rConforms_w (b r : Int) (A : Option Addr) (l : List (Int × Int)) (c : Nat) (w0 : World) (hA : Ro w0 A (flat2 l)) :
    Calls Try.prog 24 #[.agg #[.int .i64 b, .int .i64 r], .slice A l.length c] w0 (Ret w0 (.tuple #[.bool (cfB b r l), .int .i64 (ckE b r l)])) := by
  refine enterK 16 Try.func24 rfl rfl rfl ?_
  intro a hF Q0 hR0 hN0
  have hM := Mem.start w0
  replace hM := hM.addOld 1 hA (Nat.le_refl _)
  refine wp_seq_k fun K1 hK1 => ?_
  refine wp_region_lit ?_
  refine wl (eN 2 2 (t := 23) (fun b => .pointer (some ⟨b, 0, none⟩)) #[.int .i64 b, .int .i64 r] hF hM (by kernel_rfl) (fun _ => by kernel_rfl) fun bb1 a w hF hM => ?_)
  refine sB 2 [(4, .bool false), (5, .int .i64 0)] hF (by kernel_rfl) fun a hF => ?_
  refine wpList_nil ?_
  refine hK1 _ _ ?_
  refine wp_seq_k fun K2 hK2 => ?_
  refine wp_region_lit ?_
  refine wl (eL 7 2 0 (v := .agg #[.int .i64 b, .int .i64 r]) hF hM (by kernel_rfl) rfl rfl (by kernel_rfl) (by kernel_rfl) fun a w hF hM => ?_)
  refine sB 1 [(8, .slice A l.length c)] hF (by kernel_rfl) fun a hF => ?_
  refine wl (eM 9 (v := .int .i64 (ckE b r l)) hF hM (by kernel_rfl) (yld_call (f := 39) (args := #[.agg #[.int .i64 b, .int .i64 r], .slice A l.length c]) hF (by kernel_rfl) (fun _ => by kernel_rfl) (fun w hM => rBoth_w b r A l _ w (hM.ok 1 _ rfl))) fun a w hF hM => ?_)
  refine sB 1 [(6, .int .i64 (ckE b r l))] hF (by kernel_rfl) fun a hF => ?_
  refine wpList_nil ?_
  refine hK2 _ _ ?_
  refine wp_seq_k fun K3 hK3 => ?_
  refine wp_seq_k fun K4 hK4 => ?_
  refine wp_region_lit ?_
  refine sB 2 [(10, .int .i64 (ckE b r l)), (11, .bool (!decide (ckE b r l = 0)))] hF (by kernel_rfl) fun a hF => ?_
  refine wpList_nil ?_
  refine hK4 _ _ ?_
  by_cases hz1 : ckE b r l = 0
  · skip
    replace hF := hF.c hF (i := 11) (v := .bool false) rfl (nT hz1)
    refine cF hF (by kernel_rfl) (by kernel_rfl) ?_
    refine wp_skip ?_
    refine hK3 _ _ ?_
    refine wp_seq_k fun K5 hK5 => ?_
    refine wp_region_lit ?_
    refine wl (eL 13 2 0 (v := .agg #[.int .i64 b, .int .i64 r]) hF hM (by kernel_rfl) rfl rfl (by kernel_rfl) (by kernel_rfl) fun a w hF hM => ?_)
    refine sB 1 [(14, .slice A l.length c)] hF (by kernel_rfl) fun a hF => ?_
    refine wl (eM 15 (v := .bool (cfB b r l)) hF hM (by kernel_rfl) (yld_call (f := 36) (args := #[.agg #[.int .i64 b, .int .i64 r], .slice A l.length c]) hF (by kernel_rfl) (fun _ => by kernel_rfl) (fun w hM => fits_w b r A l c w (hM.ok 1 _ rfl) hz1)) fun a w hF hM => ?_)
    refine sB 2 [(4, .bool (cfB b r l)), (5, .int .i64 0)] hF (by kernel_rfl) fun a hF => ?_
    refine wpList_nil ?_
    refine hK5 _ _ ?_
    refine wp_ret ?_
    refine hR0 _ _ ?_
    refine ret_of hF hM (.tmp rfl (.tmp rfl (.nil))) ?_
    exact ⟨ret_eq (by rw [hz1]; rfl), hM.bel⟩
  · skip
    replace hF := hF.c hF (i := 11) (v := .bool true) rfl (nF hz1)
    refine cT hF (by kernel_rfl) (by kernel_rfl) ?_
    refine wp_seq_k fun K6 hK6 => ?_
    refine wp_region_lit ?_
    refine sB 3 [(12, .int .i64 (ckE b r l)), (4, .bool false), (5, .int .i64 (ckE b r l))] hF (by kernel_rfl) fun a hF => ?_
    refine wpList_nil ?_
    refine hK6 _ _ ?_
    refine wp_ret ?_
    refine hR0 _ _ ?_
    refine ret_of hF hM (.tmp rfl (.tmp rfl (.nil))) ?_
    exact ⟨ret_eq (by rw [cfB_no hz1]; rfl), hM.bel⟩

theorem first_neg {b r : Int} {l : List (Int × Int)} {k : Nat} (hc : ckE b r l = 0) (hk : k + 1 ≤ l.length) (hp : ∀ j, j < k → 0 ≤ lvN b r l (j + 1)) (h : cfB b r (l.take (k + 1)) = false) : lvN b r l (k + 1) < 0 := by
  rcases Int.lt_or_le (lvN b r l (k + 1)) 0 with z | z
  · exact z
  · have := (cf_take hc hk).2 (fun j hj => by
      by_cases e : j = k
      · subst e; exact z
      · exact hp j (by omega))
    rw [h] at this
    cases this
theorem rFirst_w (b r : Int) (A : Option Addr) (l : List (Int × Int)) (c : Nat) (w0 : World) (hA : Ro w0 A (flat2 l)) (hlc : l.length ≤ c) :
    Calls Try.prog 26 #[.agg #[.int .i64 b, .int .i64 r], .slice A l.length c] w0 (Ret w0 (.tuple #[.int .i64 (fiV b r l), .int .i64 (ckE b r l)])) := by
  refine enterK 28 Try.func26 rfl rfl rfl ?_
  intro a hF Q0 hR0 hN0
  have hM := Mem.start w0
  replace hM := hM.addOld 1 hA (Nat.le_refl _)
  refine wp_seq_k fun K1 hK1 => ?_
  refine wp_region_lit ?_
  refine wl (eN 2 2 (t := 23) (fun b => .pointer (some ⟨b, 0, none⟩)) #[.int .i64 b, .int .i64 r] hF hM (by kernel_rfl) (fun _ => by kernel_rfl) fun bb1 a w hF hM => ?_)
  refine sB 2 [(4, .int .i64 0), (5, .int .i64 0)] hF (by kernel_rfl) fun a hF => ?_
  refine wpList_nil ?_
  refine hK1 _ _ ?_
  refine wp_seq_k fun K2 hK2 => ?_
  refine wp_region_lit ?_
  refine wl (eL 8 2 0 (v := .agg #[.int .i64 b, .int .i64 r]) hF hM (by kernel_rfl) rfl rfl (by kernel_rfl) (by kernel_rfl) fun a w hF hM => ?_)
  refine sB 1 [(9, .slice A l.length c)] hF (by kernel_rfl) fun a hF => ?_
  refine wl (eM 10 (v := .int .i64 (ckE b r l)) hF hM (by kernel_rfl) (yld_call (f := 39) (args := #[.agg #[.int .i64 b, .int .i64 r], .slice A l.length c]) hF (by kernel_rfl) (fun _ => by kernel_rfl) (fun w hM => rBoth_w b r A l _ w (hM.ok 1 _ rfl))) fun a w hF hM => ?_)
  refine sB 1 [(6, .int .i64 (ckE b r l))] hF (by kernel_rfl) fun a hF => ?_
  refine wpList_nil ?_
  refine hK2 _ _ ?_
  refine wp_seq_k fun K3 hK3 => ?_
  refine wp_seq_k fun K4 hK4 => ?_
  refine wp_region_lit ?_
  refine sB 2 [(11, .int .i64 (ckE b r l)), (12, .bool (!decide (ckE b r l = 0)))] hF (by kernel_rfl) fun a hF => ?_
  refine wpList_nil ?_
  refine hK4 _ _ ?_
  by_cases hz1 : ckE b r l = 0
  · skip
    replace hF := hF.c hF (i := 12) (v := .bool false) rfl (nT hz1)
    refine cF hF (by kernel_rfl) (by kernel_rfl) ?_
    refine wp_skip ?_
    refine hK3 _ _ ?_
    refine wp_seq_k fun K5 hK5 => ?_
    refine wp_seq_k fun K6 hK6 => ?_
    refine wp_region_lit ?_
    refine sB 1 [(7, .int .i64 0)] hF (by kernel_rfl) fun a hF => ?_
    refine wpList_nil ?_
    refine hK6 _ _ ?_
    refine wp_block ?_
    refine wp_loop_k (G := Nat) (fun gg a w => Fr 28 [(7, some (.int .i64 (gg : Int))), (1, some (.slice A l.length c)), (2, some (.pointer (some ⟨bb1, 0, none⟩)))] a ∧ Mem w0.heap.size w0 [(1, some (.ro A (flat2 l))), (2, some (.row bb1 23 #[.int .i64 b, .int .i64 r]))] w ∧ ((gg : Int) ≤ (l.length : Int)) ∧ (∀ j, j < gg → 0 ≤ lvN b r l (j + 1))) (fun gg => l.length - gg) (0) ?_ ?_
    · refine ⟨((((Fr.nil hF).c hF (i := 2) rfl rfl).c hF (i := 1) rfl rfl).c hF (i := 7) rfl (vi (show (0 : Int) = (0 : Int) from by omega))), (hM.sub ((Sub.nil.c (k := 2) rfl rfl).c (k := 1) rfl rfl)), (show (0 : Int) ≤ (l.length : Int) from by omega), (show ∀ j, j < 0 → 0 ≤ lvN b r l (j + 1) from by exact fun j hj => by omega)⟩
    · intro gg a w hI
      intro K7 hK7
      obtain ⟨k, rfl⟩ : ∃ x, x = gg := ⟨_, rfl⟩
      try dsimp only at hI hK7
      obtain ⟨hF, hM, hz2, hz3⟩ := hI
      have hpos : ∀ j, j < k → 0 ≤ lvN b r l (j + 1) := by assumption
      refine wp_seq_k fun K8 hK8 => ?_
      refine wp_seq_k fun K9 hK9 => ?_
      refine wp_region_lit ?_
      refine sB 4 [(14, .int .i64 (k : Int)), (15, .slice A l.length c), (16, .int .i64 (l.length : Int)), (17, .bool (decide ((k : Int) < (l.length : Int))))] hF (by kernel_rfl) fun a hF => ?_
      refine wpList_nil ?_
      refine hK9 _ _ ?_
      by_cases hz4 : (k : Int) < (l.length : Int)
      · skip
        replace hF := hF.c hF (i := 17) (v := .bool true) rfl (bT hz4)
        refine cT hF (by kernel_rfl) (by kernel_rfl) ?_
        refine wp_skip ?_
        refine hK8 _ _ ?_
        refine wp_seq_k fun K10 hK10 => ?_
        refine wp_block ?_
        refine wp_seq_k fun K11 hK11 => ?_
        have hck := hz1
        have hlen := (trE_ok (ckE_tr hck)).1
        obtain ⟨lsl, e_lsl⟩ : ∃ x : List (Int × Int), x = l.take (((k : Int) + 1).toNat) := ⟨_, rfl⟩
        have len_lsl : (lsl.length : Int) = (k : Int) + 1 := by rw [e_lsl, List.length_take]; omega
        replace hM := hM.roMore 3 1 (xs' := (flat2 lsl)) rfl (by rw [e_lsl]; exact flat2_sub _ _)
        have hlt : lsl = l.take (k + 1) := by rw [e_lsl]; first | rfl | (congr 1; omega)
        have hckt : ckE b r lsl = 0 := ckE_zero (by have := ckE_bk hck; unfold bkE; rw [if_pos this]) (by rw [hlt]; exact trE_take (ckE_tr hck) _)
        cases hz5 : (cfB b r lsl)
        · skip
          refine rQ hM (by kernel_rfl) (by kernel_rfl) ?_
          refine eQL 20 2 0 (v := .agg #[.int .i64 b, .int .i64 r]) hF (by kernel_rfl) rfl rfl (by kernel_rfl) (by kernel_rfl) fun a hF => ?_
          refine eQ 21 (v0 := .slice A l.length c) (v := .slice A l.length c) hF (by kernel_rfl) (fun _ => by kernel_rfl) rfl fun a hF => ?_
          refine eQ 22 (v0 := .int .i64 (k : Int)) (v := .int .i64 (k : Int)) hF (by kernel_rfl) (fun _ => by kernel_rfl) rfl fun a hF => ?_
          refine eQ 23 (v0 := .int .i64 (IntKind.i64.wrap ((k : Int) + 1))) (v := .int .i64 ((k : Int) + 1)) hF (by kernel_rfl) (fun _ => by kernel_rfl) (wi (by omega)) fun a hF => ?_
          refine eQ2 24 (v := .slice A lsl.length c) hF (by kernel_rfl) (yld_slice0 (e := 30) (len := l.length) (cap := c) (m := lsl.length) (A := A) (i := (k : Int) + 1) hF rfl (by kernel_rfl) (by kernel_rfl) (by kernel_rfl) (by kernel_rfl) (by kernel_rfl) (by omega) (by omega)) fun a hF => ?_
          refine eQ2 25 (v := .bool false) hF (by kernel_rfl) (Yld.to (yld_call (f := 36) (args := #[.agg #[.int .i64 b, .int .i64 r], .slice A lsl.length c]) hF (by kernel_rfl) (fun _ => by kernel_rfl) (fun w hM => fits_w b r A lsl c w (hM.ok 3 _ rfl) hckt)) (congrArg Value.bool hz5)) fun a hF => ?_
          refine eQ 26 (v0 := .bool true) (v := .bool true) hF (by kernel_rfl) (fun _ => by kernel_rfl) rfl fun a hF => ?_
          refine wpQuiet_nil ?_
          intro w hM
          refine hK11 _ _ ?_
          refine cT hF (by kernel_rfl) (by kernel_rfl) ?_
          refine wp_seq_k fun K12 hK12 => ?_
          refine wp_region_lit ?_
          refine sB 3 [(27, .int .i64 (k : Int)), (4, .int .i64 (k : Int)), (5, .int .i64 0)] hF (by kernel_rfl) fun a hF => ?_
          refine wpList_nil ?_
          refine hK12 _ _ ?_
          refine wp_ret ?_
          refine hR0 _ _ ?_
          refine ret_of hF hM (.tmp rfl (.tmp rfl (.nil))) ?_
          have hneg := first_neg hck (by omega) hpos (by rw [← hlt]; exact hz5)
          exact ⟨ret_eq (by rw [fiV_yes hck, hck, firstI_some (k := k) (by omega) hneg hpos]; rfl), hM.bel⟩
        · skip
          refine rQ hM (by kernel_rfl) (by kernel_rfl) ?_
          refine eQL 20 2 0 (v := .agg #[.int .i64 b, .int .i64 r]) hF (by kernel_rfl) rfl rfl (by kernel_rfl) (by kernel_rfl) fun a hF => ?_
          refine eQ 21 (v0 := .slice A l.length c) (v := .slice A l.length c) hF (by kernel_rfl) (fun _ => by kernel_rfl) rfl fun a hF => ?_
          refine eQ 22 (v0 := .int .i64 (k : Int)) (v := .int .i64 (k : Int)) hF (by kernel_rfl) (fun _ => by kernel_rfl) rfl fun a hF => ?_
          refine eQ 23 (v0 := .int .i64 (IntKind.i64.wrap ((k : Int) + 1))) (v := .int .i64 ((k : Int) + 1)) hF (by kernel_rfl) (fun _ => by kernel_rfl) (wi (by omega)) fun a hF => ?_
          refine eQ2 24 (v := .slice A lsl.length c) hF (by kernel_rfl) (yld_slice0 (e := 30) (len := l.length) (cap := c) (m := lsl.length) (A := A) (i := (k : Int) + 1) hF rfl (by kernel_rfl) (by kernel_rfl) (by kernel_rfl) (by kernel_rfl) (by kernel_rfl) (by omega) (by omega)) fun a hF => ?_
          refine eQ2 25 (v := .bool true) hF (by kernel_rfl) (Yld.to (yld_call (f := 36) (args := #[.agg #[.int .i64 b, .int .i64 r], .slice A lsl.length c]) hF (by kernel_rfl) (fun _ => by kernel_rfl) (fun w hM => fits_w b r A lsl c w (hM.ok 3 _ rfl) hckt)) (congrArg Value.bool hz5)) fun a hF => ?_
          refine eQ 26 (v0 := .bool false) (v := .bool false) hF (by kernel_rfl) (fun _ => by kernel_rfl) rfl fun a hF => ?_
          refine wpQuiet_nil ?_
          intro w hM
          refine hK11 _ _ ?_
          refine cF hF (by kernel_rfl) (by kernel_rfl) ?_
          refine wp_skip ?_
          refine hK10 _ _ ?_
          refine wp_region_lit ?_
          refine sB 1 [(18, .int .i64 (k : Int))] hF (by kernel_rfl) fun a hF => ?_
          refine wl (eP 19 (v0 := .int .i64 (IntKind.i64.wrap ((k : Int) + 1))) (v := .int .i64 ((k : Int) + 1)) hF (by kernel_rfl) (fun _ => by kernel_rfl) (wi (by omega)) fun a hF => ?_)
          refine sB 1 [(7, .int .i64 ((k : Int) + 1))] hF (by kernel_rfl) fun a hF => ?_
          refine wpList_nil ?_
          have hall := (cf_take hck (m := k + 1) (by omega)).1 (by rw [← hlt]; exact hz5)
          refine hK7 _ _ ⟨(k + 1), ⟨((((Fr.nil hF).c hF (i := 2) rfl rfl).c hF (i := 1) rfl rfl).c hF (i := 7) rfl (vi (show ((k : Int) + 1 : Int) = ((k + 1) : Int) from by omega))), (hM.sub ((Sub.nil.c (k := 2) rfl rfl).c (k := 1) rfl rfl)), (show ((k + 1) : Int) ≤ (l.length : Int) from by omega), (show ∀ j, j < (k + 1) → 0 ≤ lvN b r l (j + 1) from by exact hall)⟩, (show l.length - (k + 1) < l.length - k from by omega)⟩
      · skip
        replace hF := hF.c hF (i := 17) (v := .bool false) rfl (bF hz4)
        refine cF hF (by kernel_rfl) (by kernel_rfl) ?_
        refine wp_exit ?_
        refine hK5 _ _ ?_
        refine wp_seq_k fun K13 hK13 => ?_
        refine wp_region_lit ?_
        refine sB 2 [(4, .int .i64 (-1)), (5, .int .i64 0)] hF (by kernel_rfl) fun a hF => ?_
        refine wpList_nil ?_
        refine hK13 _ _ ?_
        refine wp_ret ?_
        refine hR0 _ _ ?_
        refine ret_of hF hM (.tmp rfl (.tmp rfl (.nil))) ?_
        exact ⟨ret_eq (by rw [fiV_yes hz1, hz1, firstI_none (fun j hj => hpos j (by omega))]; rfl), hM.bel⟩
  · skip
    replace hF := hF.c hF (i := 12) (v := .bool true) rfl (nF hz1)
    refine cT hF (by kernel_rfl) (by kernel_rfl) ?_
    refine wp_seq_k fun K14 hK14 => ?_
    refine wp_region_lit ?_
    refine sB 3 [(13, .int .i64 (ckE b r l)), (4, .int .i64 0), (5, .int .i64 (ckE b r l))] hF (by kernel_rfl) fun a hF => ?_
    refine wpList_nil ?_
    refine hK14 _ _ ?_
    refine wp_ret ?_
    refine hR0 _ _ ?_
    refine ret_of hF hM (.tmp rfl (.tmp rfl (.nil))) ?_
    exact ⟨ret_eq (by rw [fiV_no hz1]; rfl), hM.bel⟩

theorem shr1 (x : Int) : x.fdiv (2 ^ min (1 : Int).toNat IntKind.u64.bits) = x / 2 := by
  have e : min (1 : Int).toNat IntKind.u64.bits = 1 := by decide
  rw [e, Int.fdiv_eq_ediv_of_nonneg _ (by decide)]
  rfl
theorem bLeast_w (rate : Int) (A : Option Addr) (l : List (Int × Int)) (c : Nat) (w0 : World) (hA : Ro w0 A (flat2 l)) :
    Calls Try.prog 27 #[.int .i64 rate, .slice A l.length c] w0 (Ret w0 (.tuple #[.int .i64 (leV rate l), .int .i64 (leE rate l)])) := by
  refine enterK 22 Try.func27 rfl rfl rfl ?_
  intro a hF Q0 hR0 hN0
  have hM := Mem.start w0
  replace hM := hM.addOld 1 hA (Nat.le_refl _)
  refine wp_seq_k fun K1 hK1 => ?_
  refine wp_region_lit ?_
  refine wl (eN 2 2 (t := 3) (fun b => .pointer (some ⟨b, 0, none⟩)) #[.int .i64 rate] hF hM (by kernel_rfl) (fun _ => by kernel_rfl) fun bb1 a w hF hM => ?_)
  refine wl (eN 3 3 (t := 42) (fun b => .pointer (some ⟨b, 0, none⟩)) #[.slice A l.length c] hF hM (by kernel_rfl) (fun _ => by kernel_rfl) fun bb2 a w hF hM => ?_)
  refine sB 2 [(4, .int .i64 0), (5, .int .i64 0)] hF (by kernel_rfl) fun a hF => ?_
  refine wpList_nil ?_
  refine hK1 _ _ ?_
  refine wp_seq_k fun K2 hK2 => ?_
  refine wp_seq_k fun K3 hK3 => ?_
  by_cases hz1 : 1 ≤ rate
  · skip
    by_cases hz2 : rate ≤ 2097152
    · skip
      refine wp_region_lit ?_
      refine wl (eL 8 2 0 (v := .int .i64 rate) hF hM (by kernel_rfl) rfl rfl (by kernel_rfl) (by kernel_rfl) fun a w hF hM => ?_)
      refine wl (eM 9 (v := .bool true) hF hM (by kernel_rfl) (yld_call (f := 33) (args := #[.int .i64 rate, .int .i64 1, .int .i64 2097152]) hF (by kernel_rfl) (fun _ => by kernel_rfl) (fun w hM => inside_yes rate 1 2097152 w hz1 hz2)) fun a w hF hM => ?_)
      refine sB 1 [(10, .bool false)] hF (by kernel_rfl) fun a hF => ?_
      refine wpList_nil ?_
      refine hK3 _ _ ?_
      refine cF hF (by kernel_rfl) (by kernel_rfl) ?_
      refine wp_skip ?_
      refine hK2 _ _ ?_
      refine wp_seq_k fun K4 hK4 => ?_
      refine wp_seq_k fun K5 hK5 => ?_
      refine wp_region_lit ?_
      refine wl (eL 11 3 0 (v := .slice A l.length c) hF hM (by kernel_rfl) rfl rfl (by kernel_rfl) (by kernel_rfl) fun a w hF hM => ?_)
      refine wl (eM 12 (v := .int .i64 (trE l)) hF hM (by kernel_rfl) (yld_call (f := 18) (args := #[.slice A l.length c]) hF (by kernel_rfl) (fun _ => by kernel_rfl) (fun w hM => checkTrace_w A l _ w (hM.ok 1 _ rfl))) fun a w hF hM => ?_)
      refine sB 1 [(6, .int .i64 (trE l))] hF (by kernel_rfl) fun a hF => ?_
      refine wpList_nil ?_
      refine hK5 _ _ ?_
      refine wp_seq_k fun K6 hK6 => ?_
      refine wp_region_lit ?_
      refine sB 2 [(13, .int .i64 (trE l)), (14, .bool (!decide (trE l = 0)))] hF (by kernel_rfl) fun a hF => ?_
      refine wpList_nil ?_
      refine hK6 _ _ ?_
      by_cases hz3 : trE l = 0
      · skip
        have hz4 := trE_ok hz3
        replace hF := hF.c hF (i := 14) (v := .bool false) rfl (nT hz3)
        refine cF hF (by kernel_rfl) (by kernel_rfl) ?_
        refine wp_skip ?_
        refine hK4 _ _ ?_
        refine wp_seq_k fun K7 hK7 => ?_
        refine wp_region_lit ?_
        refine sB 1 [(16, .func (.func 41) #[] #[.pointer (some ⟨bb1, 0, none⟩), .pointer (some ⟨bb2, 0, none⟩)])] hF (by kernel_rfl) fun a hF => ?_
        refine wl (sC (f := 40) (args := #[.int .i64 1048576, .func (.func 41) #[] #[.pointer (some ⟨bb1, 0, none⟩), .pointer (some ⟨bb2, 0, none⟩)]]) hF (by kernel_rfl) rfl (by decide) (by kernel_rfl) (fun _ => by kernel_rfl) ?_)
        refine enterK 26 Try.func40 rfl rfl rfl ?_
        intro a1 hF1 QR8 hR8 hNR8
        refine wp_seq_k fun K9 hK9 => ?_
        refine wp_region_lit ?_
        refine sB 1 [(4, .int .i64 0)] hF1 (by kernel_rfl) fun a1 hF1 => ?_
        refine wpList_nil ?_
        refine hK9 _ _ ?_
        refine wp_seq_k fun K10 hK10 => ?_
        refine wp_region_lit ?_
        refine sB 3 [(8, .int .i64 1048576), (5, .int .i64 0), (6, .int .i64 1048576)] hF1 (by kernel_rfl) fun a1 hF1 => ?_
        refine wpList_nil ?_
        refine hK10 _ _ ?_
        refine wp_seq_k fun K11 hK11 => ?_
        refine wp_block ?_
        refine wp_loop_k (G := Int × Int) (fun gg a w => Fr 26 [(5, some (.int .i64 gg.1)), (6, some (.int .i64 gg.2)), (1, some (.func (.func 41) #[] #[.pointer (some ⟨bb1, 0, none⟩), .pointer (some ⟨bb2, 0, none⟩)])), (4, some (.int .i64 0))] a ∧ Mem w0.heap.size w0 [(1, some (.ro A (flat2 l))), (2, some (.row bb1 3 #[.int .i64 rate])), (3, some (.row bb2 42 #[.slice A l.length c]))] w ∧ (0 ≤ gg.1) ∧ (gg.1 ≤ gg.2) ∧ (gg.2 ≤ 1048576) ∧ (gg.1 < leD rate l) ∧ (gg.2 = 1048576 ∨ leD rate l ≤ gg.2 + 1)) (fun gg => (gg.2 - gg.1).toNat) (0, 1048576) ?_ ?_
        · refine ⟨(((((Fr.nil hF1).c hF1 (i := 4) rfl rfl).c hF1 (i := 1) rfl rfl).c hF1 (i := 6) rfl rfl).c hF1 (i := 5) rfl rfl), (hM.sub (((Sub.nil.c (k := 3) rfl rfl).c (k := 2) rfl rfl).c (k := 1) rfl rfl)), (show 0 ≤ 0 from by omega), (show 0 ≤ 1048576 from by omega), (show 1048576 ≤ 1048576 from by omega), (show 0 < leD rate l from by have := leD_one rate l; omega), (show 1048576 = 1048576 ∨ leD rate l ≤ 1048576 + 1 from by omega)⟩
        · intro gg a1 w hI
          intro K12 hK12
          obtain ⟨i, j⟩ := gg
          try dsimp only at hI hK12
          obtain ⟨hF1, hM, hz5, hz6, hz7, hz8, hz9⟩ := hI
          refine wp_seq_k fun K13 hK13 => ?_
          refine wp_seq_k fun K14 hK14 => ?_
          refine wp_region_lit ?_
          refine sB 3 [(9, .int .i64 i), (10, .int .i64 j), (11, .bool (decide (i < j)))] hF1 (by kernel_rfl) fun a1 hF1 => ?_
          refine wpList_nil ?_
          refine hK14 _ _ ?_
          by_cases hz10 : i < j
          · skip
            replace hF1 := hF1.c hF1 (i := 11) (v := .bool true) rfl (bT hz10)
            refine cT hF1 (by kernel_rfl) (by kernel_rfl) ?_
            refine wp_skip ?_
            refine hK13 _ _ ?_
            refine wp_block ?_
            refine wp_seq_k fun K15 hK15 => ?_
            obtain ⟨hh, hhh⟩ : ∃ z : Int, z = (i + j) / 2 := ⟨_, rfl⟩
            have hhb : i ≤ hh ∧ hh < j := by omega
            refine wp_region_lit ?_
            refine sB 2 [(12, .int .i64 i), (13, .int .i64 j)] hF1 (by kernel_rfl) fun a1 hF1 => ?_
            refine wl (eP 14 (v0 := .int .i64 (IntKind.i64.wrap (i + j))) (v := .int .i64 (i + j)) hF1 (by kernel_rfl) (fun _ => by kernel_rfl) (wi (by omega)) fun a1 hF1 => ?_)
            refine wl (eP 15 (v0 := .int .u64 (IntKind.u64.wrap (i + j))) (v := .int .u64 (i + j)) hF1 (by kernel_rfl) (fun _ => by kernel_rfl) (vi (IntWalk.u64_in _ (by omega))) fun a1 hF1 => ?_)
            refine wl (eM 16 (v := .int .u64 hh) hF1 hM (by kernel_rfl) (yld_shr (yk := .u64) (i + j) 1 hF1 rfl (by kernel_rfl) (by kernel_rfl) (by kernel_rfl) (by omega) (by rw [hhh]; exact shr1 _)) fun a1 w hF1 hM => ?_)
            refine wl (eP 17 (v0 := .int .i64 (IntKind.i64.wrap hh)) (v := .int .i64 hh) hF1 (by kernel_rfl) (fun _ => by kernel_rfl) (vi (IntWalk.i64_in _ (by omega))) fun a1 hF1 => ?_)
            refine sB 1 [(7, .int .i64 hh)] hF1 (by kernel_rfl) fun a1 hF1 => ?_
            refine wpList_nil ?_
            refine hK15 _ _ ?_
            refine wp_seq_k fun K16 hK16 => ?_
            refine wp_region_lit ?_
            refine sB 2 [(18, .func (.func 41) #[] #[.pointer (some ⟨bb1, 0, none⟩), .pointer (some ⟨bb2, 0, none⟩)]), (19, .int .i64 hh)] hF1 (by kernel_rfl) fun a1 hF1 => ?_
            refine wl (sC (f := 41) (args := #[.int .i64 hh, .pointer (some ⟨bb1, 0, none⟩), .pointer (some ⟨bb2, 0, none⟩)]) hF1 (by kernel_rfl) rfl (by decide) (by kernel_rfl) (fun _ => by kernel_rfl) ?_)
            refine enterK 12 Try.func41 rfl rfl rfl ?_
            intro a2 hF2 QR17 hR17 hNR17
            refine wp_seq_k fun K18 hK18 => ?_
            refine wp_region_lit ?_
            refine sB 1 [(4, .bool false)] hF2 (by kernel_rfl) fun a2 hF2 => ?_
            refine wpList_nil ?_
            refine hK18 _ _ ?_
            refine wp_seq_k fun K19 hK19 => ?_
            have hck : ckE (hh + 1) rate l = 0 := ckE_zero (by unfold bkE; rw [if_pos (by omega)]) hz3
            refine wp_region_lit ?_
            refine sB 1 [(5, .int .i64 hh)] hF2 (by kernel_rfl) fun a2 hF2 => ?_
            refine wl (eP 6 (v0 := .int .i64 (IntKind.i64.wrap (hh + 1))) (v := .int .i64 (hh + 1)) hF2 (by kernel_rfl) (fun _ => by kernel_rfl) (wi (by omega)) fun a2 hF2 => ?_)
            refine wl (eL 7 2 0 (v := .int .i64 rate) hF2 hM (by kernel_rfl) rfl rfl (by kernel_rfl) (by kernel_rfl) fun a2 w hF2 hM => ?_)
            refine sB 1 [(8, .agg #[.int .i64 (hh + 1), .int .i64 rate])] hF2 (by kernel_rfl) fun a2 hF2 => ?_
            refine wl (eL 9 3 0 (v := .slice A l.length c) hF2 hM (by kernel_rfl) rfl rfl (by kernel_rfl) (by kernel_rfl) fun a2 w hF2 hM => ?_)
            refine wl (eM 10 (v := .int .i64 (firstI (hh + 1) rate l)) hF2 hM (by kernel_rfl) (yld_call (f := 38) (args := #[.agg #[.int .i64 (hh + 1), .int .i64 rate], .slice A l.length c]) hF2 (by kernel_rfl) (fun _ => by kernel_rfl) (fun w hM => first_w (hh + 1) rate A l _ w (ckE_bk hck) (ckE_tr hck) (Ro.arr2 (hM.ok 1 _ rfl)))) fun a2 w hF2 hM => ?_)
            refine sB 2 [(11, .bool (decide (firstI (hh + 1) rate l < 0))), (4, .bool (decide (firstI (hh + 1) rate l < 0)))] hF2 (by kernel_rfl) fun a2 hF2 => ?_
            refine wpList_nil ?_
            refine hK19 _ _ ?_
            refine wp_ret ?_
            refine hR17 _ _ ?_
            refine ret_of hF2 hM (.tmp rfl (.nil)) ⟨_, rfl, ?_⟩
            intro a1 hF1
            refine sB 1 [(21, .bool (!decide (firstI (hh + 1) rate l < 0)))] hF1 (by kernel_rfl) fun a1 hF1 => ?_
            refine wpList_nil ?_
            refine hK16 _ _ ?_
            by_cases hz11 : firstI (hh + 1) rate l < 0
            · skip
              have hz12 := (first_leD hck).1 hz11
              replace hF1 := hF1.c hF1 (i := 20) (v := .bool true) rfl (bT hz11)
              replace hF1 := hF1.c hF1 (i := 21) (v := .bool false) rfl (nT hz11)
              refine cF hF1 (by kernel_rfl) (by kernel_rfl) ?_
              refine wp_region_lit ?_
              refine sB 2 [(24, .int .i64 hh), (6, .int .i64 hh)] hF1 (by kernel_rfl) fun a1 hF1 => ?_
              refine wpList_nil ?_
              refine hK12 _ _ ⟨(i, hh), ⟨(((((Fr.nil hF1).c hF1 (i := 4) rfl rfl).c hF1 (i := 1) rfl rfl).c hF1 (i := 6) rfl rfl).c hF1 (i := 5) rfl rfl), (hM.sub (((Sub.nil.c (k := 3) rfl rfl).c (k := 2) rfl rfl).c (k := 1) rfl rfl)), (show 0 ≤ i from by omega), (show i ≤ hh from by omega), (show hh ≤ 1048576 from by omega), (show i < leD rate l from by omega), (show hh = 1048576 ∨ leD rate l ≤ hh + 1 from by omega)⟩, (show (hh - i).toNat < (j - i).toNat from by omega)⟩
            · skip
              have hz13 := Int.not_le.1 (fun z => hz11 ((first_leD hck).2 z))
              replace hF1 := hF1.c hF1 (i := 20) (v := .bool false) rfl (bF hz11)
              replace hF1 := hF1.c hF1 (i := 21) (v := .bool true) rfl (nF hz11)
              refine cT hF1 (by kernel_rfl) (by kernel_rfl) ?_
              refine wp_region_lit ?_
              refine sB 1 [(22, .int .i64 hh)] hF1 (by kernel_rfl) fun a1 hF1 => ?_
              refine wl (eP 23 (v0 := .int .i64 (IntKind.i64.wrap (hh + 1))) (v := .int .i64 (hh + 1)) hF1 (by kernel_rfl) (fun _ => by kernel_rfl) (wi (by omega)) fun a1 hF1 => ?_)
              refine sB 1 [(5, .int .i64 (hh + 1))] hF1 (by kernel_rfl) fun a1 hF1 => ?_
              refine wpList_nil ?_
              refine hK12 _ _ ⟨(hh + 1, j), ⟨(((((Fr.nil hF1).c hF1 (i := 4) rfl rfl).c hF1 (i := 1) rfl rfl).c hF1 (i := 6) rfl rfl).c hF1 (i := 5) rfl rfl), (hM.sub (((Sub.nil.c (k := 3) rfl rfl).c (k := 2) rfl rfl).c (k := 1) rfl rfl)), (show 0 ≤ (hh + 1) from by omega), (show (hh + 1) ≤ j from by omega), (show j ≤ 1048576 from by omega), (show (hh + 1) < leD rate l from by omega), (show j = 1048576 ∨ leD rate l ≤ j + 1 from by omega)⟩, (show (j - (hh + 1)).toNat < (j - i).toNat from by omega)⟩
          · skip
            replace hF1 := hF1.c hF1 (i := 11) (v := .bool false) rfl (bF hz10)
            refine cF hF1 (by kernel_rfl) (by kernel_rfl) ?_
            refine wp_exit ?_
            refine hK11 _ _ ?_
            refine wp_seq_k fun K20 hK20 => ?_
            refine wp_region_lit ?_
            refine sB 2 [(25, .int .i64 i), (4, .int .i64 i)] hF1 (by kernel_rfl) fun a1 hF1 => ?_
            refine wpList_nil ?_
            refine hK20 _ _ ?_
            refine wp_ret ?_
            refine hR8 _ _ ?_
            refine ret_of hF1 hM (.tmp rfl (.nil)) ⟨_, rfl, ?_⟩
            intro a hF
            refine sB 1 [(7, .int .i64 i)] hF (by kernel_rfl) fun a hF => ?_
            refine wpList_nil ?_
            refine hK7 _ _ ?_
            refine wp_seq_k fun K21 hK21 => ?_
            refine wp_seq_k fun K22 hK22 => ?_
            refine wp_region_lit ?_
            refine sB 2 [(18, .int .i64 i), (19, .bool (decide (i = 1048576)))] hF (by kernel_rfl) fun a hF => ?_
            refine wpList_nil ?_
            refine hK22 _ _ ?_
            by_cases hz14 : i = 1048576
            · skip
              replace hF := hF.c hF (i := 19) (v := .bool true) rfl (bT hz14)
              refine cT hF (by kernel_rfl) (by kernel_rfl) ?_
              refine wp_seq_k fun K23 hK23 => ?_
              refine wp_region_lit ?_
              refine sB 2 [(4, .int .i64 0), (5, .int .i64 6)] hF (by kernel_rfl) fun a hF => ?_
              refine wpList_nil ?_
              refine hK23 _ _ ?_
              refine wp_ret ?_
              refine hR0 _ _ ?_
              refine ret_of hF hM (.tmp rfl (.tmp rfl (.nil))) ?_
              have hd := le_6 (r := rate) (l := l) (by omega) hz3 (by omega)
              exact ⟨ret_eq (by rw [hd.1, hd.2]; rfl), hM.bel⟩
            · skip
              replace hF := hF.c hF (i := 19) (v := .bool false) rfl (bF hz14)
              refine cF hF (by kernel_rfl) (by kernel_rfl) ?_
              refine wp_skip ?_
              refine hK21 _ _ ?_
              refine wp_seq_k fun K24 hK24 => ?_
              refine wp_region_lit ?_
              refine sB 1 [(20, .int .i64 i)] hF (by kernel_rfl) fun a hF => ?_
              refine wl (eP 21 (v0 := .int .i64 (IntKind.i64.wrap (i + 1))) (v := .int .i64 (i + 1)) hF (by kernel_rfl) (fun _ => by kernel_rfl) (wi (by omega)) fun a hF => ?_)
              refine sB 2 [(4, .int .i64 (i + 1)), (5, .int .i64 0)] hF (by kernel_rfl) fun a hF => ?_
              refine wpList_nil ?_
              refine hK24 _ _ ?_
              refine wp_ret ?_
              refine hR0 _ _ ?_
              refine ret_of hF hM (.tmp rfl (.tmp rfl (.nil))) ?_
              have hd := le_0 (r := rate) (l := l) (by omega) hz3 (by omega)
              exact ⟨ret_eq (by rw [hd.1, hd.2, show leD rate l = i + 1 from by omega]; rfl), hM.bel⟩
      · skip
        replace hF := hF.c hF (i := 14) (v := .bool true) rfl (nF hz3)
        refine cT hF (by kernel_rfl) (by kernel_rfl) ?_
        refine wp_seq_k fun K25 hK25 => ?_
        refine wp_region_lit ?_
        refine sB 3 [(15, .int .i64 (trE l)), (4, .int .i64 0), (5, .int .i64 (trE l))] hF (by kernel_rfl) fun a hF => ?_
        refine wpList_nil ?_
        refine hK25 _ _ ?_
        refine wp_ret ?_
        refine hR0 _ _ ?_
        refine ret_of hF hM (.tmp rfl (.tmp rfl (.nil))) ?_
        have hd := le_131 (r := rate) (l := l) (by omega) hz3
        exact ⟨ret_eq (by rw [hd.1, hd.2, trE_no' hz3]; rfl), hM.bel⟩
    · skip
      refine wp_region_lit ?_
      refine wl (eL 8 2 0 (v := .int .i64 rate) hF hM (by kernel_rfl) rfl rfl (by kernel_rfl) (by kernel_rfl) fun a w hF hM => ?_)
      refine wl (eM 9 (v := .bool false) hF hM (by kernel_rfl) (yld_call (f := 33) (args := #[.int .i64 rate, .int .i64 1, .int .i64 2097152]) hF (by kernel_rfl) (fun _ => by kernel_rfl) (fun w hM => inside_no rate 1 2097152 w (.inr hz2))) fun a w hF hM => ?_)
      refine sB 1 [(10, .bool true)] hF (by kernel_rfl) fun a hF => ?_
      refine wpList_nil ?_
      refine hK3 _ _ ?_
      refine cT hF (by kernel_rfl) (by kernel_rfl) ?_
      refine wp_seq_k fun K26 hK26 => ?_
      refine wp_region_lit ?_
      refine sB 2 [(4, .int .i64 0), (5, .int .i64 2)] hF (by kernel_rfl) fun a hF => ?_
      refine wpList_nil ?_
      refine hK26 _ _ ?_
      refine wp_ret ?_
      refine hR0 _ _ ?_
      refine ret_of hF hM (.tmp rfl (.tmp rfl (.nil))) ?_
      have hd := le_2 (r := rate) (l := l) (by omega)
      exact ⟨ret_eq (by rw [hd.1, hd.2]; rfl), hM.bel⟩
  · skip
    refine wp_region_lit ?_
    refine wl (eL 8 2 0 (v := .int .i64 rate) hF hM (by kernel_rfl) rfl rfl (by kernel_rfl) (by kernel_rfl) fun a w hF hM => ?_)
    refine wl (eM 9 (v := .bool false) hF hM (by kernel_rfl) (yld_call (f := 33) (args := #[.int .i64 rate, .int .i64 1, .int .i64 2097152]) hF (by kernel_rfl) (fun _ => by kernel_rfl) (fun w hM => inside_no rate 1 2097152 w (.inl hz1))) fun a w hF hM => ?_)
    refine sB 1 [(10, .bool true)] hF (by kernel_rfl) fun a hF => ?_
    refine wpList_nil ?_
    refine hK3 _ _ ?_
    refine cT hF (by kernel_rfl) (by kernel_rfl) ?_
    refine wp_seq_k fun K27 hK27 => ?_
    refine wp_region_lit ?_
    refine sB 2 [(4, .int .i64 0), (5, .int .i64 2)] hF (by kernel_rfl) fun a hF => ?_
    refine wpList_nil ?_
    refine hK27 _ _ ?_
    refine wp_ret ?_
    refine hR0 _ _ ?_
    refine ret_of hF hM (.tmp rfl (.tmp rfl (.nil))) ?_
    have hd := le_2 (r := rate) (l := l) (by omega)
    exact ⟨ret_eq (by rw [hd.1, hd.2]; rfl), hM.bel⟩

theorem rLeast_w (rate : Int) (A : Option Addr) (l : List (Int × Int)) (c : Nat) (w0 : World) (hA : Ro w0 A (flat2 l)) :
    Calls Try.prog 28 #[.int .i64 rate, .slice A l.length c] w0 (Ret w0 (.tuple #[.int .i64 (leV rate l), .int .i64 (leE rate l)])) := by
  refine enterK 60 Try.func28 rfl rfl rfl ?_
  intro a hF Q0 hR0 hN0
  have hM := Mem.start w0
  replace hM := hM.addOld 1 hA (Nat.le_refl _)
  refine wp_seq_k fun K1 hK1 => ?_
  refine wp_region_lit ?_
  refine sB 2 [(4, .int .i64 0), (5, .int .i64 0)] hF (by kernel_rfl) fun a hF => ?_
  refine wpList_nil ?_
  refine hK1 _ _ ?_
  refine wp_seq_k fun K2 hK2 => ?_
  refine wp_seq_k fun K3 hK3 => ?_
  by_cases hz1 : rate < 1
  · skip
    refine wp_region_lit ?_
    refine sB 1 [(10, .int .i64 rate)] hF (by kernel_rfl) fun a hF => ?_
    refine wl (eP 11 (v0 := .bool (decide (rate < 1))) (v := .bool true) hF (by kernel_rfl) (fun _ => by kernel_rfl) (bT hz1) fun a hF => ?_)
    refine sB 4 [(12, .bool true), (13, undef), (14, undef), (15, .bool true)] hF (by kernel_rfl) fun a hF => ?_
    refine wpList_nil ?_
    refine hK3 _ _ ?_
    refine cT hF (by kernel_rfl) (by kernel_rfl) ?_
    refine wp_seq_k fun K4 hK4 => ?_
    refine wp_region_lit ?_
    refine sB 2 [(4, .int .i64 0), (5, .int .i64 2)] hF (by kernel_rfl) fun a hF => ?_
    refine wpList_nil ?_
    refine hK4 _ _ ?_
    refine wp_ret ?_
    refine hR0 _ _ ?_
    refine ret_of hF hM (.tmp rfl (.tmp rfl (.nil))) ?_
    have hd := le_2 (r := rate) (l := l) (by omega)
    exact ⟨ret_eq (by rw [hd.1, hd.2]; rfl), hM.bel⟩
  · skip
    refine wp_region_lit ?_
    refine sB 1 [(10, .int .i64 rate)] hF (by kernel_rfl) fun a hF => ?_
    refine wl (eP 11 (v0 := .bool (decide (rate < 1))) (v := .bool false) hF (by kernel_rfl) (fun _ => by kernel_rfl) (bF hz1) fun a hF => ?_)
    refine sB 4 [(12, .bool false), (13, .int .i64 rate), (14, .bool (decide (2097152 < rate))), (15, .bool (decide (2097152 < rate)))] hF (by kernel_rfl) fun a hF => ?_
    refine wpList_nil ?_
    refine hK3 _ _ ?_
    by_cases hz2 : 2097152 < rate
    · skip
      replace hF := hF.c hF (i := 14) (v := .bool true) rfl (bT hz2)
      replace hF := hF.c hF (i := 15) (v := .bool true) rfl (bT hz2)
      refine cT hF (by kernel_rfl) (by kernel_rfl) ?_
      refine wp_seq_k fun K5 hK5 => ?_
      refine wp_region_lit ?_
      refine sB 2 [(4, .int .i64 0), (5, .int .i64 2)] hF (by kernel_rfl) fun a hF => ?_
      refine wpList_nil ?_
      refine hK5 _ _ ?_
      refine wp_ret ?_
      refine hR0 _ _ ?_
      refine ret_of hF hM (.tmp rfl (.tmp rfl (.nil))) ?_
      have hd := le_2 (r := rate) (l := l) (by omega)
      exact ⟨ret_eq (by rw [hd.1, hd.2]; rfl), hM.bel⟩
    · skip
      replace hF := hF.c hF (i := 14) (v := .bool false) rfl (bF hz2)
      replace hF := hF.c hF (i := 15) (v := .bool false) rfl (bF hz2)
      refine cF hF (by kernel_rfl) (by kernel_rfl) ?_
      refine wp_skip ?_
      refine hK2 _ _ ?_
      refine wp_seq_k fun K6 hK6 => ?_
      refine wp_seq_k fun K7 hK7 => ?_
      cases hz3 : (trB l)
      · skip
        refine wp_region_lit ?_
        refine sB 1 [(16, .slice A l.length c)] hF (by kernel_rfl) fun a hF => ?_
        refine wl (eM 17 (v := .bool false) hF hM (by kernel_rfl) (Yld.to (yld_call (f := 35) (args := #[.slice A l.length c]) hF (by kernel_rfl) (fun _ => by kernel_rfl) (fun w hM => rightTrace_w A l _ w (hM.ok 1 _ rfl))) (congrArg Value.bool hz3)) fun a w hF hM => ?_)
        refine sB 1 [(18, .bool true)] hF (by kernel_rfl) fun a hF => ?_
        refine wpList_nil ?_
        refine hK7 _ _ ?_
        refine cT hF (by kernel_rfl) (by kernel_rfl) ?_
        refine wp_seq_k fun K8 hK8 => ?_
        refine wp_region_lit ?_
        refine sB 2 [(4, .int .i64 0), (5, .int .i64 131)] hF (by kernel_rfl) fun a hF => ?_
        refine wpList_nil ?_
        refine hK8 _ _ ?_
        refine wp_ret ?_
        refine hR0 _ _ ?_
        refine ret_of hF hM (.tmp rfl (.tmp rfl (.nil))) ?_
        have hd := le_131 (r := rate) (l := l) (by omega) (by unfold trE; rw [hz3]; decide)
        exact ⟨ret_eq (by rw [hd.1, hd.2]; rfl), hM.bel⟩
      · skip
        refine wp_region_lit ?_
        refine sB 1 [(16, .slice A l.length c)] hF (by kernel_rfl) fun a hF => ?_
        refine wl (eM 17 (v := .bool true) hF hM (by kernel_rfl) (Yld.to (yld_call (f := 35) (args := #[.slice A l.length c]) hF (by kernel_rfl) (fun _ => by kernel_rfl) (fun w hM => rightTrace_w A l _ w (hM.ok 1 _ rfl))) (congrArg Value.bool hz3)) fun a w hF hM => ?_)
        refine sB 1 [(18, .bool false)] hF (by kernel_rfl) fun a hF => ?_
        refine wpList_nil ?_
        refine hK7 _ _ ?_
        refine cF hF (by kernel_rfl) (by kernel_rfl) ?_
        refine wp_skip ?_
        refine hK6 _ _ ?_
        refine wp_seq_k fun K9 hK9 => ?_
        have htr : trE l = 0 := by unfold trE; rw [if_pos hz3]
        have hlen := (trE_ok htr).1
        refine wp_region_lit ?_
        refine sB 1 [(6, .int .i64 1)] hF (by kernel_rfl) fun a hF => ?_
        refine wpList_nil ?_
        refine hK9 _ _ ?_
        refine wp_seq_k fun K10 hK10 => ?_
        refine wp_seq_k fun K11 hK11 => ?_
        have hd0 : demI rate l 0 = 1 := rfl
        refine wp_region_lit ?_
        refine sB 1 [(7, .int .i64 0)] hF (by kernel_rfl) fun a hF => ?_
        refine wpList_nil ?_
        refine hK11 _ _ ?_
        refine wp_block ?_
        refine wp_loop_k (G := Nat) (fun gg a w => Fr 60 [(6, some (.int .i64 (demI rate l gg))), (7, some (.int .i64 (gg : Int))), (0, some (.int .i64 rate)), (1, some (.slice A l.length c)), (4, some (.int .i64 0)), (5, some (.int .i64 0))] a ∧ Mem w0.heap.size w0 [(1, some (.ro A (flat2 l)))] w ∧ ((gg : Int) ≤ (l.length : Int))) (fun gg => l.length - gg) (0) ?_ ?_
        · refine ⟨(((((((Fr.nil hF).c hF (i := 5) rfl rfl).c hF (i := 4) rfl rfl).c hF (i := 1) rfl rfl).c hF (i := 0) rfl rfl).c hF (i := 7) rfl (vi (show (0 : Int) = (0 : Int) from by omega))).c hF (i := 6) rfl (vi (show (1 : Int) = demI rate l 0 from by omega))), (hM.sub (Sub.nil.c (k := 1) rfl rfl)), (show (0 : Int) ≤ (l.length : Int) from by omega)⟩
        · intro gg a w hI
          intro K12 hK12
          obtain ⟨i, rfl⟩ : ∃ x, x = gg := ⟨_, rfl⟩
          try dsimp only at hI hK12
          obtain ⟨hF, hM, hz4⟩ := hI
          refine wp_seq_k fun K13 hK13 => ?_
          refine wp_seq_k fun K14 hK14 => ?_
          refine wp_region_lit ?_
          refine sB 4 [(19, .int .i64 (i : Int)), (20, .slice A l.length c), (21, .int .i64 (l.length : Int)), (22, .bool (decide ((i : Int) < (l.length : Int))))] hF (by kernel_rfl) fun a hF => ?_
          refine wpList_nil ?_
          refine hK14 _ _ ?_
          by_cases hz5 : (i : Int) < (l.length : Int)
          · skip
            replace hF := hF.c hF (i := 22) (v := .bool true) rfl (bT hz5)
            refine cT hF (by kernel_rfl) (by kernel_rfl) ?_
            refine wp_skip ?_
            refine hK13 _ _ ?_
            refine wp_seq_k fun K15 hK15 => ?_
            refine wp_block ?_
            refine wp_seq_k fun K16 hK16 => ?_
            refine wp_region_lit ?_
            refine sB 1 [(8, .int .i64 0)] hF (by kernel_rfl) fun a hF => ?_
            refine wpList_nil ?_
            refine hK16 _ _ ?_
            refine wp_seq_k fun K17 hK17 => ?_
            have hs0 : sumN l (i + 0) = sumN l i := rfl
            have hj0 : demJ rate l i (demI rate l i) 0 = demI rate l i := rfl
            refine wp_region_lit ?_
            refine sB 2 [(25, .int .i64 (i : Int)), (9, .int .i64 (i : Int))] hF (by kernel_rfl) fun a hF => ?_
            refine wpList_nil ?_
            refine hK17 _ _ ?_
            refine wp_block ?_
            refine wp_loop_k (G := Nat) (fun gg a w => Fr 60 [(6, some (.int .i64 (demJ rate l i (demI rate l i) gg))), (8, some (.int .i64 (sumN l (i + gg) - sumN l i))), (9, some (.int .i64 ((i : Int) + (gg : Int)))), (0, some (.int .i64 rate)), (1, some (.slice A l.length c)), (4, some (.int .i64 0)), (5, some (.int .i64 0)), (7, some (.int .i64 (i : Int)))] a ∧ Mem w0.heap.size w0 [(1, some (.ro A (flat2 l)))] w ∧ ((i : Int) + (gg : Int) ≤ (l.length : Int))) (fun gg => l.length - i - gg) (0) ?_ ?_
            · refine ⟨(((((((((Fr.nil hF).c hF (i := 7) rfl rfl).c hF (i := 5) rfl rfl).c hF (i := 4) rfl rfl).c hF (i := 1) rfl rfl).c hF (i := 0) rfl rfl).c hF (i := 9) rfl (vi (show ((i : Int) : Int) = (i : Int) + (0 : Int) from by omega))).c hF (i := 8) rfl (vi (show (0 : Int) = sumN l (i + 0) - sumN l i from by omega))).c hF (i := 6) rfl (vi (show (demI rate l i : Int) = demJ rate l i (demI rate l i) 0 from by omega))), (hM.sub (Sub.nil.c (k := 1) rfl rfl)), (show (i : Int) + (0 : Int) ≤ (l.length : Int) from by omega)⟩
            · intro gg a w hI
              intro K18 hK18
              obtain ⟨n, rfl⟩ : ∃ x, x = gg := ⟨_, rfl⟩
              try dsimp only at hI hK18
              obtain ⟨hF, hM, hz6⟩ := hI
              refine wp_seq_k fun K19 hK19 => ?_
              refine wp_seq_k fun K20 hK20 => ?_
              refine wp_region_lit ?_
              refine sB 4 [(26, .int .i64 ((i : Int) + (n : Int))), (27, .slice A l.length c), (28, .int .i64 (l.length : Int)), (29, .bool (decide ((i : Int) + (n : Int) < (l.length : Int))))] hF (by kernel_rfl) fun a hF => ?_
              refine wpList_nil ?_
              refine hK20 _ _ ?_
              by_cases hz7 : (i : Int) + (n : Int) < (l.length : Int)
              · skip
                replace hF := hF.c hF (i := 29) (v := .bool true) rfl (bT hz7)
                refine cT hF (by kernel_rfl) (by kernel_rfl) ?_
                refine wp_skip ?_
                refine hK19 _ _ ?_
                refine wp_seq_k fun K21 hK21 => ?_
                refine wp_block ?_
                refine wp_seq_k fun K22 hK22 => ?_
                have hs1 := sumN_bd htr (i + n) (by omega)
                have hs2 := sumN_bd htr i (by omega)
                have hs3 := sumN_mono htr (i := i) (k := i + n) (by omega) (by omega)
                have hs4 := at_mono htr (i := i) (k := i + n) (by omega) (by omega)
                have hs5 := tr_all htr (i + n) (by omega)
                have hs6 := tr_all htr i (by omega)
                refine wp_region_lit ?_
                refine sB 3 [(32, .int .i64 (sumN l (i + n) - sumN l i)), (33, .slice A l.length c), (34, .int .i64 ((i : Int) + (n : Int)))] hF (by kernel_rfl) fun a hF => ?_
                refine wl (eM 35 (v := .pointer (some (ea A ((i + n) * 2)))) hF hM (by kernel_rfl) (yld_ix (kd := .i64) (e := 30) (len := l.length) (cap := c) (i := (i : Int) + (n : Int)) (size := 2) (A := A) hF rfl (by kernel_rfl) (by kernel_rfl) (by kernel_rfl) (by kernel_rfl) (by kernel_rfl) (roK 1 rfl) (by omega) (by omega) (by rw [flat2_length]; omega)) fun a w hF hM => ?_)
                refine sB 1 [(36, .pointer (some (ea A ((i + n) * 2 + 1))))] hF (by kernel_rfl) fun a hF => ?_
                refine wl (eM 37 (v := .int .i64 (pr l (i + n)).2) hF hM (by kernel_rfl) (yld_ro1 (A := A) (j := (i + n) * 2 + 1) hF rfl (by kernel_rfl) (by kernel_rfl) (roK 1 rfl) (by kernel_rfl) (pr_snd (k := i + n) (by omega) (by omega))) fun a w hF hM => ?_)
                refine wl (eP 38 (v0 := .int .i64 (IntKind.i64.wrap (sumN l (i + n) - sumN l i + (pr l (i + n)).2))) (v := .int .i64 (sumN l (i + n) - sumN l i + (pr l (i + n)).2)) hF (by kernel_rfl) (fun _ => by kernel_rfl) (wi (by omega)) fun a hF => ?_)
                refine sB 1 [(8, .int .i64 (sumN l (i + n) - sumN l i + (pr l (i + n)).2))] hF (by kernel_rfl) fun a hF => ?_
                refine wpList_nil ?_
                refine hK22 _ _ ?_
                refine rQ hM (by kernel_rfl) (by kernel_rfl) ?_
                refine eQ 39 (v0 := .int .i64 (demJ rate l i (demI rate l i) n)) (v := .int .i64 (demJ rate l i (demI rate l i) n)) hF (by kernel_rfl) (fun _ => by kernel_rfl) rfl fun a hF => ?_
                refine eQ 40 (v0 := .int .i64 (sumN l (i + n) - sumN l i + (pr l (i + n)).2)) (v := .int .i64 (sumN l (i + n) - sumN l i + (pr l (i + n)).2)) hF (by kernel_rfl) (fun _ => by kernel_rfl) rfl fun a hF => ?_
                refine eQ 41 (v0 := .int .i64 rate) (v := .int .i64 rate) hF (by kernel_rfl) (fun _ => by kernel_rfl) rfl fun a hF => ?_
                refine eQ 42 (v0 := .slice A l.length c) (v := .slice A l.length c) hF (by kernel_rfl) (fun _ => by kernel_rfl) rfl fun a hF => ?_
                refine eQ 43 (v0 := .int .i64 ((i : Int) + (n : Int))) (v := .int .i64 ((i : Int) + (n : Int))) hF (by kernel_rfl) (fun _ => by kernel_rfl) rfl fun a hF => ?_
                refine eQ2 44 (v := .pointer (some (ea A ((i + n) * 2)))) hF (by kernel_rfl) (yld_ix (kd := .i64) (e := 30) (len := l.length) (cap := c) (i := (i : Int) + (n : Int)) (size := 2) (A := A) hF rfl (by kernel_rfl) (by kernel_rfl) (by kernel_rfl) (by kernel_rfl) (by kernel_rfl) (roK 1 rfl) (by omega) (by omega) (by rw [flat2_length]; omega)) fun a hF => ?_
                refine eQ 45 (v0 := .pointer (some (ea A ((i + n) * 2)))) (v := .pointer (some (ea A ((i + n) * 2)))) hF (by kernel_rfl) (fun _ => by kernel_rfl) rfl fun a hF => ?_
                refine eQ2 46 (v := .int .i64 (pr l (i + n)).1) hF (by kernel_rfl) (yld_ro1 (A := A) (j := (i + n) * 2) hF rfl (by kernel_rfl) (by kernel_rfl) (roK 1 rfl) (by kernel_rfl) (pr_fst (k := i + n) (by omega) (by omega))) fun a hF => ?_
                refine eQ 47 (v0 := .slice A l.length c) (v := .slice A l.length c) hF (by kernel_rfl) (fun _ => by kernel_rfl) rfl fun a hF => ?_
                refine eQ 48 (v0 := .int .i64 (i : Int)) (v := .int .i64 (i : Int)) hF (by kernel_rfl) (fun _ => by kernel_rfl) rfl fun a hF => ?_
                refine eQ2 49 (v := .pointer (some (ea A (i * 2)))) hF (by kernel_rfl) (yld_ix (kd := .i64) (e := 30) (len := l.length) (cap := c) (i := (i : Int)) (size := 2) (A := A) hF rfl (by kernel_rfl) (by kernel_rfl) (by kernel_rfl) (by kernel_rfl) (by kernel_rfl) (roK 1 rfl) (by omega) (by omega) (by rw [flat2_length]; omega)) fun a hF => ?_
                refine eQ 50 (v0 := .pointer (some (ea A (i * 2)))) (v := .pointer (some (ea A (i * 2)))) hF (by kernel_rfl) (fun _ => by kernel_rfl) rfl fun a hF => ?_
                refine eQ2 51 (v := .int .i64 (pr l i).1) hF (by kernel_rfl) (yld_ro1 (A := A) (j := i * 2) hF rfl (by kernel_rfl) (by kernel_rfl) (roK 1 rfl) (by kernel_rfl) (pr_fst (k := i) (by omega) (by omega))) fun a hF => ?_
                refine eQ 52 (v0 := .int .i64 (IntKind.i64.wrap ((pr l (i + n)).1 - (pr l i).1))) (v := .int .i64 ((pr l (i + n)).1 - (pr l i).1)) hF (by kernel_rfl) (fun _ => by kernel_rfl) (wi (by omega)) fun a hF => ?_
                have hz8 : 0 ≤ rate * ((pr l (i + n)).1 - (pr l i).1) ∧ rate * ((pr l (i + n)).1 - (pr l i).1) ≤ 2305843009213693952 := mul_bd (1) (2097152) (0) (1099511627776) (by omega) (by omega) (by omega) (by omega) (by decide)
                refine eQ 53 (v0 := .int .i64 (IntKind.i64.wrap (rate * ((pr l (i + n)).1 - (pr l i).1)))) (v := .int .i64 (rate * ((pr l (i + n)).1 - (pr l i).1))) hF (by kernel_rfl) (fun _ => by kernel_rfl) (wi (by omega)) fun a hF => ?_
                refine eQ2 54 (v := .int .i64 (rate * ((pr l (i + n)).1 - (pr l i).1) / 1048576)) hF (by kernel_rfl) (yld_quo (rate * ((pr l (i + n)).1 - (pr l i).1)) 1048576 hF rfl (by kernel_rfl) (by kernel_rfl) (by kernel_rfl) (by decide) (qpos_i64 (by omega) (by omega) (by omega))) fun a hF => ?_
                refine eQ 55 (v0 := .int .i64 (IntKind.i64.wrap (sumN l (i + n) - sumN l i + (pr l (i + n)).2 - rate * ((pr l (i + n)).1 - (pr l i).1) / 1048576))) (v := .int .i64 (sumN l (i + n) - sumN l i + (pr l (i + n)).2 - rate * ((pr l (i + n)).1 - (pr l i).1) / 1048576)) hF (by kernel_rfl) (fun _ => by kernel_rfl) (wi (by omega)) fun a hF => ?_
                refine eQ 56 (v0 := .int .i64 (if sumN l (i + n) - sumN l i + (pr l (i + n)).2 - rate * ((pr l (i + n)).1 - (pr l i).1) / 1048576 > demJ rate l i (demI rate l i) n then sumN l (i + n) - sumN l i + (pr l (i + n)).2 - rate * ((pr l (i + n)).1 - (pr l i).1) / 1048576 else demJ rate l i (demI rate l i) n)) (v := .int .i64 (max (demJ rate l i (demI rate l i) n) (sumN l (i + n) - sumN l i + (pr l (i + n)).2 - rate * ((pr l (i + n)).1 - (pr l i).1) / 1048576))) hF (by kernel_rfl) (fun _ => by kernel_rfl) (vi (max_if _ _)) fun a hF => ?_
                refine eQ 6 (v0 := .int .i64 (max (demJ rate l i (demI rate l i) n) (sumN l (i + n) - sumN l i + (pr l (i + n)).2 - rate * ((pr l (i + n)).1 - (pr l i).1) / 1048576))) (v := .int .i64 (max (demJ rate l i (demI rate l i) n) (sumN l (i + n) - sumN l i + (pr l (i + n)).2 - rate * ((pr l (i + n)).1 - (pr l i).1) / 1048576))) hF (by kernel_rfl) (fun _ => by kernel_rfl) rfl fun a hF => ?_
                refine wpQuiet_nil ?_
                intro w hM
                refine hK21 _ _ ?_
                refine wp_region_lit ?_
                refine sB 1 [(30, .int .i64 ((i : Int) + (n : Int)))] hF (by kernel_rfl) fun a hF => ?_
                refine wl (eP 31 (v0 := .int .i64 (IntKind.i64.wrap ((i : Int) + (n : Int) + 1))) (v := .int .i64 ((i : Int) + (n : Int) + 1)) hF (by kernel_rfl) (fun _ => by kernel_rfl) (wi (by omega)) fun a hF => ?_)
                refine sB 1 [(9, .int .i64 ((i : Int) + (n : Int) + 1))] hF (by kernel_rfl) fun a hF => ?_
                refine wpList_nil ?_
                have hsn : sumN l (i + n + 1) = sumN l (i + n) + (pr l (i + n)).2 := rfl
                have hse : sumN l (i + (n + 1)) = sumN l (i + n + 1) := rfl
                have hdn : demJ rate l i (demI rate l i) (n + 1) = max (demJ rate l i (demI rate l i) n) (sumN l (i + n + 1) - sumN l i - rate * ((pr l (i + n)).1 - (pr l i).1) / 1048576) := rfl
                refine hK18 _ _ ⟨(n + 1), ⟨(((((((((Fr.nil hF).c hF (i := 7) rfl rfl).c hF (i := 5) rfl rfl).c hF (i := 4) rfl rfl).c hF (i := 1) rfl rfl).c hF (i := 0) rfl rfl).c hF (i := 9) rfl (vi (show ((i : Int) + (n : Int) + 1 : Int) = (i : Int) + ((n + 1) : Int) from by omega))).c hF (i := 8) rfl (vi (show (sumN l (i + n) - sumN l i + (pr l (i + n)).2 : Int) = sumN l (i + (n + 1)) - sumN l i from by omega))).c hF (i := 6) rfl (vi (show (max (demJ rate l i (demI rate l i) n) (sumN l (i + n) - sumN l i + (pr l (i + n)).2 - rate * ((pr l (i + n)).1 - (pr l i).1) / 1048576) : Int) = demJ rate l i (demI rate l i) (n + 1) from by omega))), (hM.sub (Sub.nil.c (k := 1) rfl rfl)), (show (i : Int) + ((n + 1) : Int) ≤ (l.length : Int) from by omega)⟩, (show l.length - i - (n + 1) < l.length - i - n from by omega)⟩
              · skip
                replace hF := hF.c hF (i := 29) (v := .bool false) rfl (bF hz7)
                refine cF hF (by kernel_rfl) (by kernel_rfl) ?_
                refine wp_exit ?_
                refine hK15 _ _ ?_
                refine wp_region_lit ?_
                refine sB 1 [(23, .int .i64 (i : Int))] hF (by kernel_rfl) fun a hF => ?_
                refine wl (eP 24 (v0 := .int .i64 (IntKind.i64.wrap ((i : Int) + 1))) (v := .int .i64 ((i : Int) + 1)) hF (by kernel_rfl) (fun _ => by kernel_rfl) (wi (by omega)) fun a hF => ?_)
                refine sB 1 [(7, .int .i64 ((i : Int) + 1))] hF (by kernel_rfl) fun a hF => ?_
                refine wpList_nil ?_
                have hdi : demI rate l (i + 1) = demJ rate l i (demI rate l i) n := by rw [show n = l.length - i from by omega]; rfl
                refine hK12 _ _ ⟨(i + 1), ⟨(((((((Fr.nil hF).c hF (i := 5) rfl rfl).c hF (i := 4) rfl rfl).c hF (i := 1) rfl rfl).c hF (i := 0) rfl rfl).c hF (i := 7) rfl (vi (show ((i : Int) + 1 : Int) = ((i + 1) : Int) from by omega))).c hF (i := 6) rfl (vi (show (demJ rate l i (demI rate l i) n : Int) = demI rate l (i + 1) from by omega))), (hM.sub (Sub.nil.c (k := 1) rfl rfl)), (show ((i + 1) : Int) ≤ (l.length : Int) from by omega)⟩, (show l.length - (i + 1) < l.length - i from by omega)⟩
          · skip
            replace hF := hF.c hF (i := 22) (v := .bool false) rfl (bF hz5)
            refine cF hF (by kernel_rfl) (by kernel_rfl) ?_
            refine wp_exit ?_
            refine hK10 _ _ ?_
            refine wp_seq_k fun K23 hK23 => ?_
            refine wp_seq_k fun K24 hK24 => ?_
            have hfin : demI rate l i = leD rate l := by rw [show i = l.length from by omega]; rfl
            refine wp_region_lit ?_
            refine sB 2 [(57, .int .i64 (demI rate l i)), (58, .bool (decide (1048576 < demI rate l i)))] hF (by kernel_rfl) fun a hF => ?_
            refine wpList_nil ?_
            refine hK24 _ _ ?_
            by_cases hz9 : 1048576 < demI rate l i
            · skip
              replace hF := hF.c hF (i := 58) (v := .bool true) rfl (bT hz9)
              refine cT hF (by kernel_rfl) (by kernel_rfl) ?_
              refine wp_seq_k fun K25 hK25 => ?_
              refine wp_region_lit ?_
              refine sB 2 [(4, .int .i64 0), (5, .int .i64 6)] hF (by kernel_rfl) fun a hF => ?_
              refine wpList_nil ?_
              refine hK25 _ _ ?_
              refine wp_ret ?_
              refine hR0 _ _ ?_
              refine ret_of hF hM (.tmp rfl (.tmp rfl (.nil))) ?_
              have hd := le_6 (r := rate) (l := l) (by omega) (by unfold trE; rw [if_pos hz3]) (by omega)
              exact ⟨ret_eq (by rw [hd.1, hd.2]; rfl), hM.bel⟩
            · skip
              replace hF := hF.c hF (i := 58) (v := .bool false) rfl (bF hz9)
              refine cF hF (by kernel_rfl) (by kernel_rfl) ?_
              refine wp_skip ?_
              refine hK23 _ _ ?_
              refine wp_seq_k fun K26 hK26 => ?_
              refine wp_region_lit ?_
              refine sB 3 [(59, .int .i64 (demI rate l i)), (4, .int .i64 (demI rate l i)), (5, .int .i64 0)] hF (by kernel_rfl) fun a hF => ?_
              refine wpList_nil ?_
              refine hK26 _ _ ?_
              refine wp_ret ?_
              refine hR0 _ _ ?_
              refine ret_of hF hM (.tmp rfl (.tmp rfl (.nil))) ?_
              have hd := le_0 (r := rate) (l := l) (by omega) (by unfold trE; rw [if_pos hz3]) (by omega)
              exact ⟨ret_eq (by rw [hd.1, hd.2, show leD rate l = demI rate l i from by omega]; rfl), hM.bel⟩

end Go.Proofs.Ytecofcjlokfkhaa
